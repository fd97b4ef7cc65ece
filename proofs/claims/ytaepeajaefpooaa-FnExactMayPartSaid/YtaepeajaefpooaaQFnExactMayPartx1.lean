/- The machine side of FnExactMayPart: what each Go function that it reaches comes to. Conditions: none. -/
import Derived.Test.YtaepeajaefpooaaQFnExactMayPartx0
namespace Go.Proofs.Ytaepeajaefpooaa.QFnExactMayPart
open Go.RowKit Go.Proofs.YtaepeajaefpooaaW.PrintWords Go.Proofs.YtaepeajaefpooaaW.PrintLast Go.Proofs.YtaepeajaefpooaaW.PrintMore
attribute [local go_sem] max2_int min2_int max_two min_two max_three min_three max_four min_four   -- for this text's walks alone
set_option linter.unusedVariables false
set_option linter.unusedSimpArgs false

/-! ### impl_within: function 53 -/
def impl_within.f (a0 : Int) (a1 : Int) (a2 : Int) : Option (Bool) := if a0 ≥ a1 then (some (decide (a0 ≤ a2))) else (some false)
set_option maxHeartbeats 8000000 in
set_option maxRecDepth 100000 in
theorem impl_within.calls (a0 : Int) (a1 : Int) (a2 : Int) (r : Bool) (w : World) (h : impl_within.f a0 a1 a2 = some r) :
  Calls Try.prog 53 #[.int .i64 a0,.int .i64 a1,.int .i64 a2] w fun e w' => e = .returned (.bool r) ∧ Drawn0 w w' := by
 have H := h
 clear h
 unfold impl_within.f at H
 by_cases c4 : a0 ≥ a1
 ·rw [if_pos c4] at H
  have c4b0 : decide (a1 ≤ a0) = true := decide_eq_true c4
  clear c4
  obtain rfl := Option.some.inj H
  go_enter Try.func53,Try.ntmps53
  go_wp2
  go_ret
  exact ⟨Z289,Z266⟩
 ·rw [if_neg c4] at H
  have c4b0 : decide (a1 ≤ a0) = false := decide_eq_false c4
  clear c4
  obtain rfl := Option.some.inj H
  go_enter Try.func53,Try.ntmps53
  go_wp2
  go_ret
  exact ⟨Z289,Z266⟩

/-! ### impl_isSign: function 86 -/
def impl_isSign.f (a0 : Int) : Option (Bool) := (impl_within.f a0 (-1) 1).bind fun t101 => (some t101)
set_option maxHeartbeats 8000000 in
set_option maxRecDepth 100000 in
theorem impl_isSign.calls (a0 : Int) (r : Bool) (w : World) (h : impl_isSign.f a0 = some r) :
  Calls Try.prog 86 #[.int .i64 a0] w fun e w' => e = .returned (.bool r) ∧ Drawn0 w w' := by
 have H := h
 clear h
 unfold impl_isSign.f at H
 obtain ⟨t101,A20,H⟩ := Option.bind_eq_some_iff.mp H
 have A2 := Aside0.mk A20
 clear A20
 obtain rfl := Option.some.inj H
 go_enter Try.func86,Try.ntmps86
 go_wp2_with (first | ((with_reducible refine gate_callee (f := 53) rfl ?_);refine goesL_ (some 4) rfl rfl Try.func53 Z312 rfl #[.int .i64 a0,.int .i64 (-1),.int .i64 1] rfl Z256 ?_;(with_reducible refine (impl_within.calls a0 (-1) 1 t101 _ A2.out).mono ?_);rintro e w' ⟨rfl,⟨nd,rfl⟩⟩;refine ⟨_,rfl,?_⟩))
 go_ret
 exact ⟨Z289,Z266⟩

/-! ### impl_ConfigOk_1: function 85 -/
def impl_ConfigOk_1.f (a0 : Int) : Option (Bool) := (impl_isSign.f a0).bind fun t102 => (some (!t102))
set_option maxHeartbeats 8000000 in
set_option maxRecDepth 100000 in
theorem impl_ConfigOk_1.calls (a0 : Int) (r : Bool) (w : World) (h : impl_ConfigOk_1.f a0 = some r) :
  Calls Try.prog 85 #[.int .i64 a0] w fun e w' => e = .returned (.bool r) ∧ Drawn0 w w' := by
 have H := h
 clear h
 unfold impl_ConfigOk_1.f at H
 obtain ⟨t102,A20,H⟩ := Option.bind_eq_some_iff.mp H
 have A2 := Aside0.mk A20
 clear A20
 obtain rfl := Option.some.inj H
 go_enter Try.func85,Try.ntmps85
 go_wp2_with (first | ((with_reducible refine gate_callee (f := 86) rfl ?_);refine goesL_ (some 4) rfl rfl Try.func86 Z312 rfl #[.int .i64 a0] rfl Z256 ?_;(with_reducible refine (impl_isSign.calls a0 t102 _ A2.out).mono ?_);rintro e w' ⟨rfl,⟨nd,rfl⟩⟩;refine ⟨_,rfl,?_⟩))
 go_ret
 exact ⟨Z289,Z266⟩

/-! ### laws_szIntS: function 30 -/
def laws_szIntS.f (l0 : List Int) (a1 : Int) : Option (Int) := if (wrap64 (a1 - (l0.length : Int))) < 0 then (some (-1)) else (some (wrap64 (a1 - (l0.length : Int))))
set_option maxHeartbeats 8000000 in
set_option maxRecDepth 100000 in
theorem laws_szIntS.calls (A0 : Option Addr) (c0 : Nat) (l0 : List Int) (a1 : Int) (r : Int) (w : World) (hr0 : Kd.C (Kd.int .i64) w A0 l0.length l0) (hc0 : l0.length ≤ c0) (h : laws_szIntS.f l0 a1 = some r) :
  Calls Try.prog 30 #[.slice A0 l0.length c0,.int .i64 a1] w fun e w' => e = .returned (.int .i64 r) ∧ Drawn0 w w' := by
 have HR0 := Aside0.mk hr0
 have HC0 := Aside0.mk hc0
 clear hr0 hc0
 have H := h
 clear h
 unfold laws_szIntS.f at H
 by_cases c3 : (wrap64 (a1 - (l0.length : Int))) < 0
 ·rw [if_pos c3] at H
  have c3b0 : decide ((wrap64 (a1 - (l0.length : Int))) < 0) = true := decide_eq_true c3
  clear c3
  obtain rfl := Option.some.inj H
  go_enter Try.func30,Try.ntmps30
  go_wp2
  go_ret
  exact ⟨Z289,Z266⟩
 ·rw [if_neg c3] at H
  have c3b0 : decide ((wrap64 (a1 - (l0.length : Int))) < 0) = false := decide_eq_false c3
  clear c3
  obtain rfl := Option.some.inj H
  go_enter Try.func30,Try.ntmps30
  go_wp2
  go_ret
  exact ⟨Z289,Z266⟩

/-! ### laws_szConfig: function 6 -/
def laws_szConfig.f (a0_0 : Int) (a0_1 : Int) (a0_2 : Int) (a0_3 : Int) (a0_4 : Int) (a0_5 : Int) (a0_6 : Int) (l0_7 : List Int) (a1 : Int) : Option (Int) := (laws_szIntS.f l0_7 a1).bind fun t104 => (if t104 < 0 then (some (-1)) else (some t104))
set_option maxHeartbeats 8000000 in
set_option maxRecDepth 100000 in
theorem laws_szConfig.calls (a0_0 : Int) (a0_1 : Int) (a0_2 : Int) (a0_3 : Int) (a0_4 : Int) (a0_5 : Int) (a0_6 : Int) (A0_7 : Option Addr) (c0_7 : Nat) (l0_7 : List Int) (a1 : Int) (r : Int) (w : World) (hr0_7 : Kd.C (Kd.int .i64) w A0_7 l0_7.length l0_7) (hc0_7 : l0_7.length ≤ c0_7) (h : laws_szConfig.f a0_0 a0_1 a0_2 a0_3 a0_4 a0_5 a0_6 l0_7 a1 = some r) :
  Calls Try.prog 6 #[.agg #[.int .i64 a0_0,.int .i64 a0_1,.int .i64 a0_2,.int .i64 a0_3,.int .i64 a0_4,.int .i64 a0_5,.int .i64 a0_6,.slice A0_7 l0_7.length c0_7],.int .i64 a1] w fun e w' => e = .returned (.int .i64 r) ∧ Below w.heap.size w w' := by
 have hu24 := Try.underlying24
 have HR0_7 := Aside0.mk hr0_7
 have HC0_7 := Aside0.mk hc0_7
 clear hr0_7 hc0_7
 have HB := Aside0.mk (Below.refl w.heap.size w)
 have H := h
 clear h
 unfold laws_szConfig.f at H
 obtain ⟨t104,A30,H⟩ := Option.bind_eq_some_iff.mp H
 have A3 := Aside0.mk A30
 clear A30
 by_cases c4 : t104 < 0
 ·rw [if_pos c4] at H
  have c4b0 : decide (t104 < 0) = true := decide_eq_true c4
  clear c4
  obtain rfl := Option.some.inj H
  go_enter Try.func6,Try.ntmps6
  go_wp2_with (first | ((with_reducible refine gate_dst (N := 2) rfl ?_);refine bE 2 #[.int .i64 a0_0,.int .i64 a0_1,.int .i64 a0_2,.int .i64 a0_3,.int .i64 a0_4,.int .i64 a0_5,.int .i64 a0_6,.slice A0_7 l0_7.length c0_7] 24 (h := ?_);intro gb103 hg wq1 hbox hb;have n_ := Z132;clear HB;obtain ⟨HB,BK103,GW103,GE103⟩ := n_;clear hb hbox hg;obtain ⟨hczq2_0,hczq2_1,hczq2_2,hczq2_3,hczq2_4,hczq2_5,hczq2_6,hczq2_7,hfzq2_0,hfzq2_1,hfzq2_2,hfzq2_3,hfzq2_4,hfzq2_5,hfzq2_6,hfzq2_7⟩ := cells8 BK103.out) | ((with_reducible refine gate_callee (f := 30) rfl ?_);refine goesL_ (some 8) rfl rfl Try.func30 Z312 rfl #[.slice A0_7 l0_7.length c0_7,.int .i64 a1] rfl Z256 ?_;(with_reducible refine (laws_szIntS.calls _ _ l0_7 a1 t104 _ ?side1 ?side2 A3.out).mono ?_);(case side1 => exact Z224);(case side2 => exact Z311);rintro e w' ⟨rfl,⟨nd,rfl⟩⟩;refine ⟨_,rfl,?_⟩))
  go_ret
  exact ⟨Z263,Z251⟩
 ·rw [if_neg c4] at H
  have c4b0 : decide (t104 < 0) = false := decide_eq_false c4
  clear c4
  obtain rfl := Option.some.inj H
  go_enter Try.func6,Try.ntmps6
  go_wp2_with (first | ((with_reducible refine gate_dst (N := 2) rfl ?_);refine bE 2 #[.int .i64 a0_0,.int .i64 a0_1,.int .i64 a0_2,.int .i64 a0_3,.int .i64 a0_4,.int .i64 a0_5,.int .i64 a0_6,.slice A0_7 l0_7.length c0_7] 24 (h := ?_);intro gb103 hg wq1 hbox hb;have n_ := Z132;clear HB;obtain ⟨HB,BK103,GW103,GE103⟩ := n_;clear hb hbox hg;obtain ⟨hczq2_0,hczq2_1,hczq2_2,hczq2_3,hczq2_4,hczq2_5,hczq2_6,hczq2_7,hfzq2_0,hfzq2_1,hfzq2_2,hfzq2_3,hfzq2_4,hfzq2_5,hfzq2_6,hfzq2_7⟩ := cells8 BK103.out) | ((with_reducible refine gate_callee (f := 30) rfl ?_);refine goesL_ (some 8) rfl rfl Try.func30 Z312 rfl #[.slice A0_7 l0_7.length c0_7,.int .i64 a1] rfl Z256 ?_;(with_reducible refine (laws_szIntS.calls _ _ l0_7 a1 t104 _ ?side1 ?side2 A3.out).mono ?_);(case side1 => exact Z224);(case side2 => exact Z311);rintro e w' ⟨rfl,⟨nd,rfl⟩⟩;refine ⟨_,rfl,?_⟩))
  go_ret
  exact ⟨Z263,Z251⟩

/-! ### spec_l1In: function 46 -/
def spec_l1In.f (a0 : Int) (a1 : Int) (a2 : Int) : Option (Bool) := if a0 ≥ a1 then (some (decide (a0 ≤ a2))) else (some false)
set_option maxHeartbeats 8000000 in
set_option maxRecDepth 100000 in
theorem spec_l1In.calls (a0 : Int) (a1 : Int) (a2 : Int) (r : Bool) (w : World) (h : spec_l1In.f a0 a1 a2 = some r) :
  Calls Try.prog 46 #[.int .i64 a0,.int .i64 a1,.int .i64 a2] w fun e w' => e = .returned (.bool r) ∧ Drawn0 w w' := by
 have H := h
 clear h
 unfold spec_l1In.f at H
 by_cases c4 : a0 ≥ a1
 ·rw [if_pos c4] at H
  have c4b0 : decide (a1 ≤ a0) = true := decide_eq_true c4
  clear c4
  obtain rfl := Option.some.inj H
  go_enter Try.func46,Try.ntmps46
  go_wp2
  go_ret
  exact ⟨Z289,Z266⟩
 ·rw [if_neg c4] at H
  have c4b0 : decide (a1 ≤ a0) = false := decide_eq_false c4
  clear c4
  obtain rfl := Option.some.inj H
  go_enter Try.func46,Try.ntmps46
  go_wp2
  go_ret
  exact ⟨Z289,Z266⟩

/-! ### spec_l14Leaf: function 138 -/
def spec_l14Leaf.f (a0 : Int) : Option (Bool) := (spec_l1In.f a0 (-1099511627776) 1099511627776).bind fun t105 => (some t105)
set_option maxHeartbeats 8000000 in
set_option maxRecDepth 100000 in
theorem spec_l14Leaf.calls (a0 : Int) (r : Bool) (w : World) (h : spec_l14Leaf.f a0 = some r) :
  Calls Try.prog 138 #[.int .i64 a0] w fun e w' => e = .returned (.bool r) ∧ Drawn0 w w' := by
 have H := h
 clear h
 unfold spec_l14Leaf.f at H
 obtain ⟨t105,A20,H⟩ := Option.bind_eq_some_iff.mp H
 have A2 := Aside0.mk A20
 clear A20
 obtain rfl := Option.some.inj H
 go_enter Try.func138,Try.ntmps138
 go_wp2_with (first | ((with_reducible refine gate_callee (f := 46) rfl ?_);refine goesL_ (some 4) rfl rfl Try.func46 Z312 rfl #[.int .i64 a0,.int .i64 (-1099511627776),.int .i64 1099511627776] rfl Z256 ?_;(with_reducible refine (spec_l1In.calls a0 (-1099511627776) 1099511627776 t105 _ A2.out).mono ?_);rintro e w' ⟨rfl,⟨nd,rfl⟩⟩;refine ⟨_,rfl,?_⟩))
 go_ret
 exact ⟨Z289,Z266⟩

/-! ### spec_BoundOk: function 111 -/
def spec_BoundOk.f (a0_0 : Int) (a0_1 : Int) : Option (Bool) := if a0_0 ≤ a0_1 then ((spec_l14Leaf.f a0_0).bind fun t107 => (if t107 = true then ((spec_l14Leaf.f a0_1).bind fun t108 => (some t108)) else (some false))) else (some false)
set_option maxHeartbeats 8000000 in
set_option maxRecDepth 100000 in
theorem spec_BoundOk.calls (a0_0 : Int) (a0_1 : Int) (r : Bool) (w : World) (h : spec_BoundOk.f a0_0 a0_1 = some r) :
  Calls Try.prog 111 #[.agg #[.int .i64 a0_0,.int .i64 a0_1]] w fun e w' => e = .returned (.bool r) ∧ Below w.heap.size w w' := by
 have hu35 := Try.underlying35
 have HB := Aside0.mk (Below.refl w.heap.size w)
 have H := h
 clear h
 unfold spec_BoundOk.f at H
 by_cases c2 : a0_0 ≤ a0_1
 ·rw [if_pos c2] at H
  have c2b0 : decide (a0_0 ≤ a0_1) = true := decide_eq_true c2
  clear c2
  obtain ⟨t107,A30,H⟩ := Option.bind_eq_some_iff.mp H
  have A3 := Aside0.mk A30
  clear A30
  by_cases c4 : t107 = true
  ·subst c4
   rw [if_pos rfl] at H
   obtain ⟨t108,A50,H⟩ := Option.bind_eq_some_iff.mp H
   have A5 := Aside0.mk A50
   clear A50
   obtain rfl := Option.some.inj H
   go_enter Try.func111,Try.ntmps111
   go_wp2_with (first | ((with_reducible refine gate_dst (N := 1) rfl ?_);refine bE 1 #[.int .i64 a0_0,.int .i64 a0_1] 35 (h := ?_);intro gb106 hg wq1 hbox hb;have n_ := Z120;clear HB;obtain ⟨HB,BK106,GW106,GE106⟩ := n_;clear hb hbox hg;obtain ⟨hczq2_0,hczq2_1,hfzq2_0,hfzq2_1⟩ := cells2 BK106.out) | (go_at_call 138;(with_reducible refine (spec_l14Leaf.calls a0_0 true _ A3.out).mono ?_);rintro e w' ⟨rfl,⟨nd,rfl⟩⟩) | (go_at_call 138;(with_reducible refine (spec_l14Leaf.calls a0_1 t108 _ A5.out).mono ?_);rintro e w' ⟨rfl,⟨nd,rfl⟩⟩))
   go_ret
   exact ⟨Z263,Z247⟩
  ·replace c4 := Bool.eq_false_iff.mpr c4
   subst c4
   rw [if_neg Bool.false_ne_true] at H
   obtain rfl := Option.some.inj H
   go_enter Try.func111,Try.ntmps111
   go_wp2_with (first | ((with_reducible refine gate_dst (N := 1) rfl ?_);refine bE 1 #[.int .i64 a0_0,.int .i64 a0_1] 35 (h := ?_);intro gb106 hg wq1 hbox hb;have n_ := Z120;clear HB;obtain ⟨HB,BK106,GW106,GE106⟩ := n_;clear hb hbox hg;obtain ⟨hczq2_0,hczq2_1,hfzq2_0,hfzq2_1⟩ := cells2 BK106.out) | (go_at_call 138;(with_reducible refine (spec_l14Leaf.calls a0_0 false _ A3.out).mono ?_);rintro e w' ⟨rfl,⟨nd,rfl⟩⟩))
   go_ret
   exact ⟨Z263,Z247⟩
 ·rw [if_neg c2] at H
  have c2b0 : decide (a0_0 ≤ a0_1) = false := decide_eq_false c2
  clear c2
  obtain rfl := Option.some.inj H
  go_enter Try.func111,Try.ntmps111
  go_wp2_with (first | ((with_reducible refine gate_dst (N := 1) rfl ?_);refine bE 1 #[.int .i64 a0_0,.int .i64 a0_1] 35 (h := ?_);intro gb106 hg wq1 hbox hb;have n_ := Z120;clear HB;obtain ⟨HB,BK106,GW106,GE106⟩ := n_;clear hb hbox hg;obtain ⟨hczq2_0,hczq2_1,hfzq2_0,hfzq2_1⟩ := cells2 BK106.out))
  go_ret
  exact ⟨Z263,Z247⟩

/-! ### spec_FloorDiv: function 112 -/
def spec_FloorDiv.j0 : Nat → Int → Int → Bool → Option (Int × Bool)
 | 0,_,_,_ => none
 | k + 1,x0,x1,x16 => if x16 = true then (some (0,false)) else (if x1 = 0 then (none) else (if (Int.tmod x0 x1) = 0 then (some (wrap64 (Int.tdiv x0 x1),true)) else (if ((decide (x0 < 0)) != (decide (x1 < 0))) = true then (some (wrap64 ((wrap64 (Int.tdiv x0 x1)) - 1),true)) else (some (wrap64 (Int.tdiv x0 x1),true)))))
def spec_FloorDiv.f (k : Nat) (a0 : Int) (a1 : Int) : Option (Int × Bool) := if a1 = 0 then (spec_FloorDiv.j0 k a0 a1 true) else (if a1 = (-1) then (spec_FloorDiv.j0 k a0 a1 (a0 == (-9223372036854775808))) else (spec_FloorDiv.j0 k a0 a1 false))
theorem spec_FloorDiv.mono_l : ∀ k,(∀ y0 y1 y2,LeO (spec_FloorDiv.j0 k y0 y1 y2) (spec_FloorDiv.j0 (k + 1) y0 y1 y2))
 | 0 => fun _ _ _ r h => by simp [spec_FloorDiv.j0] at h
 | k + 1 => by
  have ih0 := spec_FloorDiv.mono_l k
  ·intro y0 y1 y2
   unfold spec_FloorDiv.j0
   repeat' first
   | (with_reducible exact ih0 _ _ _)
   | (with_reducible exact LeO.refl _)
   | (with_reducible exact LeO.none _)
   | (with_reducible refine LeO.ite ?_ ?_)
   | (with_reducible refine LeO.bind ?_ (fun _ => ?_))
   | exact ih0 _ _ _
   | exact LeO.none _
   | refine LeO.ite ?_ ?_
   | refine LeO.bind ?_ (fun _ => ?_)
theorem spec_FloorDiv.mono : ∀ a0 a1 k,LeO (spec_FloorDiv.f k a0 a1) (spec_FloorDiv.f (k + 1) a0 a1) := by
 intro a0 a1 k
 have ih0 := spec_FloorDiv.mono_l k
 unfold spec_FloorDiv.f
 repeat' first
   | (with_reducible exact ih0 _ _ _)
   | (with_reducible exact LeO.refl _)
   | (with_reducible exact LeO.none _)
   | (with_reducible refine LeO.ite ?_ ?_)
   | (with_reducible refine LeO.bind ?_ (fun _ => ?_))
   | exact ih0 _ _ _
   | exact LeO.none _
   | refine LeO.ite ?_ ?_
   | refine LeO.bind ?_ (fun _ => ?_)
set_option maxHeartbeats 8000000 in
set_option maxRecDepth 100000 in
theorem spec_FloorDiv.calls (k : Nat) (a0 : Int) (a1 : Int) (r1 : Int) (r2 : Bool) (w : World) (h : spec_FloorDiv.f k a0 a1 = some (r1,r2)) :
  Calls Try.prog 112 #[.int .i64 a0,.int .i64 a1] w fun e w' => e = .returned (.tuple #[.int .i64 r1,.bool r2]) ∧ Drawn0 w w' := by
 have H := h
 clear h
 unfold spec_FloorDiv.f at H
 have HC3 := Aside0.mk H
 clear H
 go_enter Try.func112,Try.ntmps112
 go_upto_region 1 with (fail)
 go_cut [16] (fun v16 wc => ∃ (kq : Nat) (x16_2 : Bool),v16 = .bool x16_2 ∧ Aside0 (spec_FloorDiv.j0 kq a0 a1 x16_2 = some (r1,r2)) ∧ Aside0 (kq ≤ k) ∧ Drawn0 w wc)
 case first =>
  have H := HC3.out
  clear HC3
  by_cases c4 : a1 = 0
  ·rw [if_pos c4] at H
   have c4b0 : (a1 == 0) = true := beq_iff_eq.mpr c4
   have c4b1 : (a1 != 0) = false := bne_eq_false_iff_eq.mpr c4
   clear c4
   (first | rw [c4b0] | (simp only [i64_w,i32_w];rw [c4b0]) | skip)
   have H' := Aside0.mk H
   clear H
   go_wp2
   go_meet
   case rel => exact ⟨_,(true),Z289,H',⟨Z291⟩,Z266⟩
  ·rw [if_neg c4] at H
   have c4b0 : (a1 == 0) = false := beq_eq_false_iff_ne.mpr c4
   have c4b1 : (a1 != 0) = true := bne_iff_ne.mpr c4
   (first | rw [c4b0] | (simp only [i64_w,i32_w];rw [c4b0]) | skip)
   by_cases c5 : a1 = (-1)
   ·rw [if_pos c5] at H
    have c5b0 : (a1 == (-1)) = true := beq_iff_eq.mpr c5
    have c5b1 : (a1 != (-1)) = false := bne_eq_false_iff_eq.mpr c5
    clear c5
    have H' := Aside0.mk H
    clear H
    go_wp2
    go_meet
    case rel => exact ⟨_,((a0 == (-9223372036854775808))),Z289,H',⟨Z291⟩,Z266⟩
   ·rw [if_neg c5] at H
    have c5b0 : (a1 == (-1)) = false := beq_eq_false_iff_ne.mpr c5
    have c5b1 : (a1 != (-1)) = true := bne_iff_ne.mpr c5
    have H' := Aside0.mk H
    clear H
    go_wp2
    go_meet
    case rel => exact ⟨_,(false),Z289,H',⟨Z291⟩,Z266⟩
 case rest =>
  clear HC3
  try clear c1
  try clear p2
  try clear c4
  try clear c4b0
  try clear c4b1
  try clear c5
  try clear c5b0
  try clear c5b1
  obtain ⟨kq,x16_2,rfl,HA,HJ2,⟨mc2,rfl⟩⟩ := hcut
  cases kq with
  | zero => exact absurd HA.out (by simp [spec_FloorDiv.j0])
  | succ kj2 =>
   have H := HA.out
   clear HA
   simp only [spec_FloorDiv.j0] at H
   by_cases c6 : x16_2 = true
   ·subst c6
    rw [if_pos rfl] at H
    simp only [Option.some.injEq,Prod.mk.injEq] at H
    obtain ⟨rfl,rfl⟩ := H
    go_wp2
    go_ret2
    exact ⟨Z289,Z266⟩
   ·replace c6 := Bool.eq_false_iff.mpr c6
    subst c6
    rw [if_neg Bool.false_ne_true] at H
    by_cases c7 : a1 = 0
    ·rw [if_pos c7] at H
     exact absurd H Z553
    ·rw [if_neg c7] at H
     have c7b0 : (a1 == 0) = false := beq_eq_false_iff_ne.mpr c7
     have c7b1 : (a1 != 0) = true := bne_iff_ne.mpr c7
     by_cases c8 : (Int.tmod a0 a1) = 0
     ·rw [if_pos c8] at H
      have c8b0 : ((Int.tmod a0 a1) == 0) = true := beq_iff_eq.mpr c8
      have c8b1 : ((Int.tmod a0 a1) != 0) = false := bne_eq_false_iff_eq.mpr c8
      clear c8
      simp only [Option.some.injEq,Prod.mk.injEq] at H
      obtain ⟨rfl,rfl⟩ := H
      go_wp2
      go_ret2
      exact ⟨Z289,Z266⟩
     ·rw [if_neg c8] at H
      have c8b0 : ((Int.tmod a0 a1) == 0) = false := beq_eq_false_iff_ne.mpr c8
      have c8b1 : ((Int.tmod a0 a1) != 0) = true := bne_iff_ne.mpr c8
      by_cases c9 : ((decide (a0 < 0)) != (decide (a1 < 0))) = true
      ·rw [if_pos c9] at H
       have c9b0 : ((decide (a0 < 0)) != (decide (a1 < 0))) = true := c9
       (try (have c9b1 : decide ((decide (a0 < 0)) = (decide (a1 < 0))) = false := by simpa using c9))
       (try (have c9b2 : ((decide (a0 < 0)) == (decide (a1 < 0))) = false := by simpa using c9))
       (try (have c9b3 : ¬ ((decide (a0 < 0)) = (decide (a1 < 0))) := by simpa using c9))
       clear c9
       simp only [Option.some.injEq,Prod.mk.injEq] at H
       obtain ⟨rfl,rfl⟩ := H
       go_wp2
       go_ret2
       exact ⟨Z289,Z266⟩
      ·rw [if_neg c9] at H
       have c9b0 : ((decide (a0 < 0)) != (decide (a1 < 0))) = false := by simpa using c9
       (try (have c9b1 : decide ((decide (a0 < 0)) = (decide (a1 < 0))) = true := by simpa using c9))
       (try (have c9b2 : ((decide (a0 < 0)) == (decide (a1 < 0))) = true := by simpa using c9))
       clear c9
       simp only [Option.some.injEq,Prod.mk.injEq] at H
       obtain ⟨rfl,rfl⟩ := H
       go_wp2
       go_ret2
       exact ⟨Z289,Z266⟩

/-! ### spec_Brought: function 113 -/
def spec_Brought.f (a0 : Int) (a1 : Int) (a2 : Int) : Option (Int) := if a0 < a1 then (some a1) else (if a0 > a2 then (some a2) else (some a0))
set_option maxHeartbeats 8000000 in
set_option maxRecDepth 100000 in
theorem spec_Brought.calls (a0 : Int) (a1 : Int) (a2 : Int) (r : Int) (w : World) (h : spec_Brought.f a0 a1 a2 = some r) :
  Calls Try.prog 113 #[.int .i64 a0,.int .i64 a1,.int .i64 a2] w fun e w' => e = .returned (.int .i64 r) ∧ Drawn0 w w' := by
 have H := h
 clear h
 unfold spec_Brought.f at H
 by_cases c4 : a0 < a1
 ·rw [if_pos c4] at H
  have c4b0 : decide (a0 < a1) = true := decide_eq_true c4
  clear c4
  obtain rfl := Option.some.inj H
  go_enter Try.func113,Try.ntmps113
  go_wp2
  go_ret
  exact ⟨Z289,Z266⟩
 ·rw [if_neg c4] at H
  have c4b0 : decide (a0 < a1) = false := decide_eq_false c4
  clear c4
  by_cases c5 : a0 > a2
  ·rw [if_pos c5] at H
   have c5b0 : decide (a2 < a0) = true := decide_eq_true c5
   clear c5
   obtain rfl := Option.some.inj H
   go_enter Try.func113,Try.ntmps113
   go_wp2
   go_ret
   exact ⟨Z289,Z266⟩
  ·rw [if_neg c5] at H
   have c5b0 : decide (a2 < a0) = false := decide_eq_false c5
   clear c5
   obtain rfl := Option.some.inj H
   go_enter Try.func113,Try.ntmps113
   go_wp2
   go_ret
   exact ⟨Z289,Z266⟩

/-! ### spec_LeafOf: function 76 -/
def spec_LeafOf.j0 : Nat → Int → Bool → Int → Int → Int → Int → Option (Int × Bool)
 | 0,_,_,_,_,_,_ => none
 | k + 1,x1,x23,x110000,x110001,x111000,x111001 => if x23 = true then (some (0,false)) else ((spec_FloorDiv.f k x110001 (wrap64 (x110000 + x1))).bind fun bt114 => ((spec_Brought.f bt114.1 x111000 x111001).bind fun t116 => (some (t116,true))))
def spec_LeafOf.f (k : Nat) (a0_0 : Int) (a0_1 : Int) (a1 : Int) (a2_0 : Int) (a2_1 : Int) : Option (Int × Bool) := (spec_l1In.f a0_0 0 40).bind fun t111 => (if t111 = true then ((spec_l1In.f a1 1 100).bind fun t112 => (if t112 = true then ((spec_BoundOk.f a2_0 a2_1).bind fun t113 => (spec_LeafOf.j0 k a1 (!t113) a0_0 a0_1 a2_0 a2_1)) else (spec_LeafOf.j0 k a1 true a0_0 a0_1 a2_0 a2_1))) else (spec_LeafOf.j0 k a1 true a0_0 a0_1 a2_0 a2_1))
theorem spec_LeafOf.mono_l : ∀ k,(∀ y0 y1 y2 y3 y4 y5,LeO (spec_LeafOf.j0 k y0 y1 y2 y3 y4 y5) (spec_LeafOf.j0 (k + 1) y0 y1 y2 y3 y4 y5))
 | 0 => fun _ _ _ _ _ _ r h => by simp [spec_LeafOf.j0] at h
 | k + 1 => by
  have ih0 := spec_LeafOf.mono_l k
  ·intro y0 y1 y2 y3 y4 y5
   unfold spec_LeafOf.j0
   repeat' first
   | (with_reducible exact ih0 _ _ _ _ _ _)
   | (with_reducible exact spec_FloorDiv.mono _ _ _)
   | (with_reducible exact LeO.refl _)
   | (with_reducible exact LeO.none _)
   | (with_reducible refine LeO.ite ?_ ?_)
   | (with_reducible refine LeO.bind ?_ (fun _ => ?_))
   | exact ih0 _ _ _ _ _ _
   | exact spec_FloorDiv.mono _ _ _
   | exact LeO.none _
   | refine LeO.ite ?_ ?_
   | refine LeO.bind ?_ (fun _ => ?_)
theorem spec_LeafOf.mono : ∀ a0 a1 a2 a3 a4 k,LeO (spec_LeafOf.f k a0 a1 a2 a3 a4) (spec_LeafOf.f (k + 1) a0 a1 a2 a3 a4) := by
 intro a0 a1 a2 a3 a4 k
 have ih0 := spec_LeafOf.mono_l k
 unfold spec_LeafOf.f
 repeat' first
   | (with_reducible exact ih0 _ _ _ _ _ _)
   | (with_reducible exact spec_FloorDiv.mono _ _ _)
   | (with_reducible exact LeO.refl _)
   | (with_reducible exact LeO.none _)
   | (with_reducible refine LeO.ite ?_ ?_)
   | (with_reducible refine LeO.bind ?_ (fun _ => ?_))
   | exact ih0 _ _ _ _ _ _
   | exact spec_FloorDiv.mono _ _ _
   | exact LeO.none _
   | refine LeO.ite ?_ ?_
   | refine LeO.bind ?_ (fun _ => ?_)
set_option maxHeartbeats 8000000 in
set_option maxRecDepth 100000 in
theorem spec_LeafOf.calls (k : Nat) (a0_0 : Int) (a0_1 : Int) (a1 : Int) (a2_0 : Int) (a2_1 : Int) (r1 : Int) (r2 : Bool) (w : World) (h : spec_LeafOf.f k a0_0 a0_1 a1 a2_0 a2_1 = some (r1,r2)) :
  Calls Try.prog 76 #[.agg #[.int .i64 a0_0,.int .i64 a0_1],.int .i64 a1,.agg #[.int .i64 a2_0,.int .i64 a2_1]] w fun e w' => e = .returned (.tuple #[.int .i64 r1,.bool r2]) ∧ Below w.heap.size w w' := by
 have hu37 := Try.underlying37
 have hu35 := Try.underlying35
 have HB := Aside0.mk (Below.refl w.heap.size w)
 have H := h
 clear h
 unfold spec_LeafOf.f at H
 have HC4 := Aside0.mk H
 clear H
 go_enter Try.func76,Try.ntmps76
 go_upto_region 1 with (first | ((with_reducible refine gate_dst (N := 3) rfl ?_);refine bE 3 #[.int .i64 a0_0,.int .i64 a0_1] 37 (h := ?_);intro gb109 hg w5 hbox hb;have n_ := jA (below_step Z614 hb) (jA (hbox) (jA ((Z456 : w.heap.size ≤ gb109)) (Aside0.mk ((Z456 : w.heap.size ≤ gb109)))));clear HB;obtain ⟨HB,BK109,GW109,GE109⟩ := n_;clear hb hbox hg) | ((with_reducible refine gate_dst (N := 5) rfl ?_);refine bE 5 #[.int .i64 a2_0,.int .i64 a2_1] 35 (h := ?_);intro gb110 hg w6 hbox hb;have n_ := jA (blk_below (g := gb109) (o := .cells #[.int .i64 a0_0,.int .i64 a0_1] 37 (0,0)) Z294 hb) (jA (below_step Z476 hb) (jA (hbox) (jA ((Z219 : w.heap.size ≤ gb110)) (jA ((Z219 : w.heap.size ≤ gb110)) (jA ((by rw [hg];exact Nat.ne_of_lt (blk_lt (g := gb109) (o := .cells #[.int .i64 a0_0,.int .i64 a0_1] 37 (0,0)) Z294) : gb109 ≠ gb110)) (Aside0.mk ((by rw [hg];exact Nat.ne_of_gt (blk_lt (g := gb109) (o := .cells #[.int .i64 a0_0,.int .i64 a0_1] 37 (0,0)) Z294) : gb110 ≠ gb109))))))));clear BK109 HB;obtain ⟨BK109,HB,BK110,GW110,GE110,NB109_110,NB110_109⟩ := n_;clear hb hbox hg))
 (try simp only [Act.put,List.setIfInBounds_toArray,List.set_cons_zero,List.set_cons_succ])
 go_cut [23] (fun v23 wc => ∃ (kq : Nat) (x23_3 : Bool),v23 = .bool x23_3 ∧ Aside0 (spec_LeafOf.j0 kq a1 x23_3 a0_0 a0_1 a2_0 a2_1 = some (r1,r2)) ∧ Aside0 (kq ≤ k) ∧ Aside0 (wc.heap[gb109]? = some (.cells #[.int .i64 a0_0,.int .i64 a0_1] 37 (0,0))) ∧ Aside0 (wc.heap[gb110]? = some (.cells #[.int .i64 a2_0,.int .i64 a2_1] 35 (0,0))) ∧ Aside0 (Below w.heap.size w wc))
 case first =>
  have H := HC4.out
  clear HC4
  obtain ⟨t111,A70,H⟩ := Option.bind_eq_some_iff.mp H
  have A7 := Aside0.mk A70
  clear A70
  by_cases c8 : t111 = true
  ·subst c8
   rw [if_pos rfl] at H
   obtain ⟨t112,A90,H⟩ := Option.bind_eq_some_iff.mp H
   have A9 := Aside0.mk A90
   clear A90
   by_cases c10 : t112 = true
   ·subst c10
    rw [if_pos rfl] at H
    obtain ⟨t113,A110,H⟩ := Option.bind_eq_some_iff.mp H
    have A11 := Aside0.mk A110
    clear A110
    have H' := Aside0.mk H
    clear H
    have hnb12 := NB109_110.out
    have hnc12 := NB110_109.out
    obtain ⟨hcz13_0,hcz13_1,hfz13_0,hfz13_1⟩ := cells2 BK109.out
    go_wp2_with (first | ((with_reducible refine gate_callee (f := 46) rfl ?_);refine goesL_ (some 12) rfl rfl Try.func46 Z312 rfl #[.int .i64 a0_0,.int .i64 0,.int .i64 40] rfl Z256 ?_;(with_reducible refine (spec_l1In.calls a0_0 0 40 true _ A7.out).mono ?_);rintro e w' ⟨rfl,⟨nd,rfl⟩⟩;refine ⟨_,rfl,?_⟩) | (go_at_call 46;(with_reducible refine (spec_l1In.calls a1 1 100 true _ A9.out).mono ?_);rintro e w' ⟨rfl,⟨nd,rfl⟩⟩;obtain ⟨hcz14_0,hcz14_1,hfz14_0,hfz14_1⟩ := cells2 BK110.out) | (go_at_call 111;(with_reducible refine (spec_BoundOk.calls a2_0 a2_1 t113 _ A11.out).mono ?_);rintro e w15 ⟨rfl,hb⟩;have n_ := jA (blk_below (g := gb109) (o := .cells #[.int .i64 a0_0,.int .i64 a0_1] 37 (0,0)) Z294 hb) (jA (blk_below (g := gb110) (o := .cells #[.int .i64 a2_0,.int .i64 a2_1] 35 (0,0)) Z302 hb) (Aside0.mk (below_step Z199 hb)));clear BK109 BK110 HB;obtain ⟨BK109,BK110,HB⟩ := n_;(try clear hb);(try clear hb2);(try clear hk);(try clear hi)))
    go_meet
    case rel => exact ⟨_,(!t113),Z289,H',⟨Z291⟩,⟨Z294⟩,⟨Z302⟩,⟨Z199⟩⟩
   ·replace c10 := Bool.eq_false_iff.mpr c10
    subst c10
    rw [if_neg Bool.false_ne_true] at H
    have H' := Aside0.mk H
    clear H
    have hnb16 := NB109_110.out
    have hnc16 := NB110_109.out
    obtain ⟨hcz17_0,hcz17_1,hfz17_0,hfz17_1⟩ := cells2 BK109.out
    go_wp2_with (first | ((with_reducible refine gate_callee (f := 46) rfl ?_);refine goesL_ (some 12) rfl rfl Try.func46 Z312 rfl #[.int .i64 a0_0,.int .i64 0,.int .i64 40] rfl Z256 ?_;(with_reducible refine (spec_l1In.calls a0_0 0 40 true _ A7.out).mono ?_);rintro e w' ⟨rfl,⟨nd,rfl⟩⟩;refine ⟨_,rfl,?_⟩) | (go_at_call 46;(with_reducible refine (spec_l1In.calls a1 1 100 false _ A9.out).mono ?_);rintro e w' ⟨rfl,⟨nd,rfl⟩⟩))
    go_meet
    case rel => exact ⟨_,(true),Z289,H',⟨Z291⟩,⟨Z294⟩,⟨Z302⟩,⟨Z199⟩⟩
  ·replace c8 := Bool.eq_false_iff.mpr c8
   subst c8
   rw [if_neg Bool.false_ne_true] at H
   have H' := Aside0.mk H
   clear H
   have hnb18 := NB109_110.out
   have hnc18 := NB110_109.out
   obtain ⟨hcz19_0,hcz19_1,hfz19_0,hfz19_1⟩ := cells2 BK109.out
   go_wp2_with (first | ((with_reducible refine gate_callee (f := 46) rfl ?_);refine goesL_ (some 12) rfl rfl Try.func46 Z312 rfl #[.int .i64 a0_0,.int .i64 0,.int .i64 40] rfl Z256 ?_;(with_reducible refine (spec_l1In.calls a0_0 0 40 false _ A7.out).mono ?_);rintro e w' ⟨rfl,⟨nd,rfl⟩⟩;refine ⟨_,rfl,?_⟩))
   go_meet
   case rel => exact ⟨_,(true),Z289,H',⟨Z291⟩,⟨Z294⟩,⟨Z302⟩,⟨Z199⟩⟩
 case rest =>
  clear HC4
  try clear c1
  try clear p2
  try clear c4
  try clear c7
  try clear c8
  try clear c10
  try clear c12
  try clear c16
  try clear c18
  try clear hcz13_0
  try clear hcz13_1
  try clear hcz14_0
  try clear hcz14_1
  try clear hcz17_0
  try clear hcz17_1
  try clear hcz19_0
  try clear hcz19_1
  try clear hfz13_0
  try clear hfz13_1
  try clear hfz14_0
  try clear hfz14_1
  try clear hfz17_0
  try clear hfz17_1
  try clear hfz19_0
  try clear hfz19_1
  obtain ⟨kq,x23_3,rfl,HA,HJ3,BK109,BK110,HB⟩ := hcut
  cases kq with
  | zero => exact absurd HA.out (by simp [spec_LeafOf.j0])
  | succ kj3 =>
   have H := HA.out
   clear HA
   simp only [spec_LeafOf.j0] at H
   by_cases c20 : x23_3 = true
   ·subst c20
    rw [if_pos rfl] at H
    simp only [Option.some.injEq,Prod.mk.injEq] at H
    obtain ⟨rfl,rfl⟩ := H
    go_wp2
    go_ret2
    exact ⟨Z263,Z199⟩
   ·replace c20 := Bool.eq_false_iff.mpr c20
    subst c20
    rw [if_neg Bool.false_ne_true] at H
    obtain ⟨⟨t114,t115⟩,A210,H⟩ := Option.bind_eq_some_iff.mp H
    try dsimp only at H
    have A21 := Aside0.mk A210
    clear A210
    obtain ⟨t116,A220,H⟩ := Option.bind_eq_some_iff.mp H
    have A22 := Aside0.mk A220
    clear A220
    simp only [Option.some.injEq,Prod.mk.injEq] at H
    obtain ⟨rfl,rfl⟩ := H
    have hnb23 := NB109_110.out
    have hnc23 := NB110_109.out
    obtain ⟨hcz24_0,hcz24_1,hfz24_0,hfz24_1⟩ := cells2 BK109.out
    go_wp2_with (first | ((with_reducible refine gate_callee (f := 112) rfl ?_);refine goesL_ (some 31) rfl rfl Try.func112 Z312 rfl #[.int .i64 a0_1,.int .i64 (wrap64 (a0_0 + a1))] rfl Z256 ?_;(with_reducible refine (spec_FloorDiv.calls kj3 a0_1 (wrap64 (a0_0 + a1)) t114 t115 _ A21.out).mono ?_);rintro e w' ⟨rfl,⟨nd,rfl⟩⟩;refine ⟨_,rfl,?_⟩;obtain ⟨hczq1_0,hczq1_1,hfzq1_0,hfzq1_1⟩ := cells2 BK110.out) | ((with_reducible refine gate_callee (f := 113) rfl ?_);refine goesL_ (some 39) rfl rfl Try.func113 Z312 rfl #[.int .i64 t114,.int .i64 a2_0,.int .i64 a2_1] rfl Z256 ?_;(with_reducible refine (spec_Brought.calls t114 a2_0 a2_1 t116 _ A22.out).mono ?_);rintro e w' ⟨rfl,⟨nd,rfl⟩⟩;refine ⟨_,rfl,?_⟩))
    go_ret2
    exact ⟨Z263,Z199⟩

/-! ### spec_SideValues: function 31 -/
def spec_SideValues.f (k : Nat) (a0_0 : Int) (a0_1 : Int) (a0_2 : Int) (a0_3 : Int) (a0_4 : Int) (a0_5 : Int) (a0_6 : Int) (l0_7 : List Int) (a1_0 : Int) (a1_1 : Int) (a2_0 : Int) (a2_1 : Int) (a2_2 : Int) (a2_3 : Int) (a2_4 : Int) (a2_5 : Int) : Option (Int × Int × Bool) := (spec_LeafOf.f k a2_2 a2_3 a0_3 a1_0 a1_1).bind fun bt120 => ((spec_LeafOf.f k a2_4 a2_5 a0_3 a1_0 a1_1).bind fun bt122 => (if bt120.2 = true then (if bt122.2 = true then (some (bt120.1,bt122.1,true)) else (some (0,0,false))) else (some (0,0,false))))
theorem spec_SideValues.mono : ∀ a0 a1 a2 a3 a4 a5 a6 a7 a8 a9 a10 a11 a12 a13 a14 a15 k,LeO (spec_SideValues.f k a0 a1 a2 a3 a4 a5 a6 a7 a8 a9 a10 a11 a12 a13 a14 a15) (spec_SideValues.f (k + 1) a0 a1 a2 a3 a4 a5 a6 a7 a8 a9 a10 a11 a12 a13 a14 a15) := by
 intro a0 a1 a2 a3 a4 a5 a6 a7 a8 a9 a10 a11 a12 a13 a14 a15 k
 unfold spec_SideValues.f
 repeat' first
   | (with_reducible exact spec_LeafOf.mono _ _ _ _ _ _)
   | (with_reducible exact LeO.refl _)
   | (with_reducible exact LeO.none _)
   | (with_reducible refine LeO.ite ?_ ?_)
   | (with_reducible refine LeO.bind ?_ (fun _ => ?_))
   | exact spec_LeafOf.mono _ _ _ _ _ _
   | exact LeO.none _
   | refine LeO.ite ?_ ?_
   | refine LeO.bind ?_ (fun _ => ?_)
set_option maxHeartbeats 8000000 in
set_option maxRecDepth 100000 in
theorem spec_SideValues.calls (k : Nat) (a0_0 : Int) (a0_1 : Int) (a0_2 : Int) (a0_3 : Int) (a0_4 : Int) (a0_5 : Int) (a0_6 : Int) (A0_7 : Option Addr) (c0_7 : Nat) (l0_7 : List Int) (a1_0 : Int) (a1_1 : Int) (a2_0 : Int) (a2_1 : Int) (a2_2 : Int) (a2_3 : Int) (a2_4 : Int) (a2_5 : Int) (r1 : Int) (r2 : Int) (r3 : Bool) (w : World) (hr0_7 : Kd.C (Kd.int .i64) w A0_7 l0_7.length l0_7) (hc0_7 : l0_7.length ≤ c0_7) (h : spec_SideValues.f k a0_0 a0_1 a0_2 a0_3 a0_4 a0_5 a0_6 l0_7 a1_0 a1_1 a2_0 a2_1 a2_2 a2_3 a2_4 a2_5 = some (r1,r2,r3)) :
  Calls Try.prog 31 #[.agg #[.int .i64 a0_0,.int .i64 a0_1,.int .i64 a0_2,.int .i64 a0_3,.int .i64 a0_4,.int .i64 a0_5,.int .i64 a0_6,.slice A0_7 l0_7.length c0_7],.agg #[.int .i64 a1_0,.int .i64 a1_1],.agg #[.int .i64 a2_0,.int .i64 a2_1,.int .i64 a2_2,.int .i64 a2_3,.int .i64 a2_4,.int .i64 a2_5]] w fun e w' => e = .returned (.tuple #[.int .i64 r1,.int .i64 r2,.bool r3]) ∧ Below w.heap.size w w' := by
 have hu33 := Try.underlying33
 have hu35 := Try.underlying35
 have hu39 := Try.underlying39
 have hu37 := Try.underlying37
 have HR0_7 := Aside0.mk hr0_7
 have HC0_7 := Aside0.mk hc0_7
 clear hr0_7 hc0_7
 have HB := Aside0.mk (Below.refl w.heap.size w)
 have H := h
 clear h
 unfold spec_SideValues.f at H
 obtain ⟨⟨t120,t121⟩,A40,H⟩ := Option.bind_eq_some_iff.mp H
 try dsimp only at H
 have A4 := Aside0.mk A40
 clear A40
 obtain ⟨⟨t122,t123⟩,A50,H⟩ := Option.bind_eq_some_iff.mp H
 try dsimp only at H
 have A5 := Aside0.mk A50
 clear A50
 by_cases c6 : t121 = true
 ·subst c6
  rw [if_pos rfl] at H
  by_cases c7 : t123 = true
  ·subst c7
   rw [if_pos rfl] at H
   simp only [Option.some.injEq,Prod.mk.injEq] at H
   obtain ⟨rfl,rfl,rfl⟩ := H
   go_enter Try.func31,Try.ntmps31
   go_wp2_with (first | ((with_reducible refine gate_dst (N := 3) rfl ?_);refine bE 3 #[.int .i64 a0_0,.int .i64 a0_1,.int .i64 a0_2,.int .i64 a0_3,.int .i64 a0_4,.int .i64 a0_5,.int .i64 a0_6,.slice A0_7 l0_7.length c0_7] 33 (h := ?_);intro gb117 hg wq1 hbox hb;have n_ := Z119;clear HB;obtain ⟨HB,BK117,GW117,GE117⟩ := n_;clear hb hbox hg) | ((with_reducible refine gate_dst (N := 4) rfl ?_);refine bE 4 #[.int .i64 a1_0,.int .i64 a1_1] 35 (h := ?_);intro gb118 hg wq2 hbox hb;have n_ := Z59;clear BK117 HB;obtain ⟨BK117,HB,BK118,GW118,GE118,NB117_118,NB118_117⟩ := n_;clear hb hbox hg) | ((with_reducible refine gate_dst (N := 5) rfl ?_);refine bE 5 #[.int .i64 a2_0,.int .i64 a2_1,.int .i64 a2_2,.int .i64 a2_3,.int .i64 a2_4,.int .i64 a2_5] 39 (h := ?_);intro gb119 hg wq3 hbox hb;have n_ := Z29;clear BK117 BK118 HB;obtain ⟨BK117,BK118,HB,BK119,GW119,GE119,NB117_119,NB119_117,NB118_119,NB119_118⟩ := n_;clear hb hbox hg;have hnbq4 := NB119_117.out;have hncq4 := NB117_119.out;have hnbq5 := NB119_118.out;have hncq5 := NB118_119.out;obtain ⟨hczq6_0,hczq6_1,hczq6_2,hczq6_3,hczq6_4,hczq6_5,hfzq6_0,hfzq6_1,hfzq6_2,hfzq6_3,hfzq6_4,hfzq6_5⟩ := cells6 BK119.out;have hnbq7 := NB117_118.out;have hncq7 := NB118_117.out;obtain ⟨hczq8_0,hczq8_1,hczq8_2,hczq8_3,hczq8_4,hczq8_5,hczq8_6,hczq8_7,hfzq8_0,hfzq8_1,hfzq8_2,hfzq8_3,hfzq8_4,hfzq8_5,hfzq8_6,hfzq8_7⟩ := cells8 BK117.out;obtain ⟨hczq9_0,hczq9_1,hfzq9_0,hfzq9_1⟩ := cells2 BK118.out) | ((with_reducible refine gate_callee (f := 76) rfl ?_);refine goesL_ (some 19) rfl rfl Try.func76 Z312 rfl #[.agg #[.int .i64 a2_2,.int .i64 a2_3],.int .i64 a0_3,.agg #[.int .i64 a1_0,.int .i64 a1_1]] rfl Z256 ?_;(with_reducible refine (spec_LeafOf.calls k a2_2 a2_3 a0_3 a1_0 a1_1 t120 true _ A4.out).mono ?_);rintro e wq10 ⟨rfl,hb⟩;refine ⟨_,rfl,?_⟩;have n_ := Z88;clear BK117 BK118 BK119 HB;obtain ⟨BK117,BK118,BK119,HB⟩ := n_;(try clear hb);(try clear hb2);(try clear hk);(try clear hi);obtain ⟨hczq11_0,hczq11_1,hczq11_2,hczq11_3,hczq11_4,hczq11_5,hfzq11_0,hfzq11_1,hfzq11_2,hfzq11_3,hfzq11_4,hfzq11_5⟩ := cells6 BK119.out;obtain ⟨hczq12_0,hczq12_1,hczq12_2,hczq12_3,hczq12_4,hczq12_5,hczq12_6,hczq12_7,hfzq12_0,hfzq12_1,hfzq12_2,hfzq12_3,hfzq12_4,hfzq12_5,hfzq12_6,hfzq12_7⟩ := cells8 BK117.out;obtain ⟨hczq13_0,hczq13_1,hfzq13_0,hfzq13_1⟩ := cells2 BK118.out) | ((with_reducible refine gate_callee (f := 76) rfl ?_);refine goesL_ (some 28) rfl rfl Try.func76 Z312 rfl #[.agg #[.int .i64 a2_4,.int .i64 a2_5],.int .i64 a0_3,.agg #[.int .i64 a1_0,.int .i64 a1_1]] rfl Z256 ?_;(with_reducible refine (spec_LeafOf.calls k a2_4 a2_5 a0_3 a1_0 a1_1 t122 true _ A5.out).mono ?_);rintro e wq14 ⟨rfl,hb⟩;refine ⟨_,rfl,?_⟩;have n_ := Z88;clear BK117 BK118 BK119 HB;obtain ⟨BK117,BK118,BK119,HB⟩ := n_;(try clear hb);(try clear hb2);(try clear hk);(try clear hi)))
   go_ret3
   exact ⟨Z263,Z361⟩
  ·replace c7 := Bool.eq_false_iff.mpr c7
   subst c7
   rw [if_neg Bool.false_ne_true] at H
   simp only [Option.some.injEq,Prod.mk.injEq] at H
   obtain ⟨rfl,rfl,rfl⟩ := H
   go_enter Try.func31,Try.ntmps31
   go_wp2_with (first | ((with_reducible refine gate_dst (N := 3) rfl ?_);refine bE 3 #[.int .i64 a0_0,.int .i64 a0_1,.int .i64 a0_2,.int .i64 a0_3,.int .i64 a0_4,.int .i64 a0_5,.int .i64 a0_6,.slice A0_7 l0_7.length c0_7] 33 (h := ?_);intro gb117 hg wq1 hbox hb;have n_ := Z119;clear HB;obtain ⟨HB,BK117,GW117,GE117⟩ := n_;clear hb hbox hg) | ((with_reducible refine gate_dst (N := 4) rfl ?_);refine bE 4 #[.int .i64 a1_0,.int .i64 a1_1] 35 (h := ?_);intro gb118 hg wq2 hbox hb;have n_ := Z59;clear BK117 HB;obtain ⟨BK117,HB,BK118,GW118,GE118,NB117_118,NB118_117⟩ := n_;clear hb hbox hg) | ((with_reducible refine gate_dst (N := 5) rfl ?_);refine bE 5 #[.int .i64 a2_0,.int .i64 a2_1,.int .i64 a2_2,.int .i64 a2_3,.int .i64 a2_4,.int .i64 a2_5] 39 (h := ?_);intro gb119 hg wq3 hbox hb;have n_ := Z29;clear BK117 BK118 HB;obtain ⟨BK117,BK118,HB,BK119,GW119,GE119,NB117_119,NB119_117,NB118_119,NB119_118⟩ := n_;clear hb hbox hg;have hnbq4 := NB119_117.out;have hncq4 := NB117_119.out;have hnbq5 := NB119_118.out;have hncq5 := NB118_119.out;obtain ⟨hczq6_0,hczq6_1,hczq6_2,hczq6_3,hczq6_4,hczq6_5,hfzq6_0,hfzq6_1,hfzq6_2,hfzq6_3,hfzq6_4,hfzq6_5⟩ := cells6 BK119.out;have hnbq7 := NB117_118.out;have hncq7 := NB118_117.out;obtain ⟨hczq8_0,hczq8_1,hczq8_2,hczq8_3,hczq8_4,hczq8_5,hczq8_6,hczq8_7,hfzq8_0,hfzq8_1,hfzq8_2,hfzq8_3,hfzq8_4,hfzq8_5,hfzq8_6,hfzq8_7⟩ := cells8 BK117.out;obtain ⟨hczq9_0,hczq9_1,hfzq9_0,hfzq9_1⟩ := cells2 BK118.out) | ((with_reducible refine gate_callee (f := 76) rfl ?_);refine goesL_ (some 19) rfl rfl Try.func76 Z312 rfl #[.agg #[.int .i64 a2_2,.int .i64 a2_3],.int .i64 a0_3,.agg #[.int .i64 a1_0,.int .i64 a1_1]] rfl Z256 ?_;(with_reducible refine (spec_LeafOf.calls k a2_2 a2_3 a0_3 a1_0 a1_1 t120 true _ A4.out).mono ?_);rintro e wq10 ⟨rfl,hb⟩;refine ⟨_,rfl,?_⟩;have n_ := Z88;clear BK117 BK118 BK119 HB;obtain ⟨BK117,BK118,BK119,HB⟩ := n_;(try clear hb);(try clear hb2);(try clear hk);(try clear hi);obtain ⟨hczq11_0,hczq11_1,hczq11_2,hczq11_3,hczq11_4,hczq11_5,hfzq11_0,hfzq11_1,hfzq11_2,hfzq11_3,hfzq11_4,hfzq11_5⟩ := cells6 BK119.out;obtain ⟨hczq12_0,hczq12_1,hczq12_2,hczq12_3,hczq12_4,hczq12_5,hczq12_6,hczq12_7,hfzq12_0,hfzq12_1,hfzq12_2,hfzq12_3,hfzq12_4,hfzq12_5,hfzq12_6,hfzq12_7⟩ := cells8 BK117.out;obtain ⟨hczq13_0,hczq13_1,hfzq13_0,hfzq13_1⟩ := cells2 BK118.out) | ((with_reducible refine gate_callee (f := 76) rfl ?_);refine goesL_ (some 28) rfl rfl Try.func76 Z312 rfl #[.agg #[.int .i64 a2_4,.int .i64 a2_5],.int .i64 a0_3,.agg #[.int .i64 a1_0,.int .i64 a1_1]] rfl Z256 ?_;(with_reducible refine (spec_LeafOf.calls k a2_4 a2_5 a0_3 a1_0 a1_1 t122 false _ A5.out).mono ?_);rintro e wq14 ⟨rfl,hb⟩;refine ⟨_,rfl,?_⟩;have n_ := Z88;clear BK117 BK118 BK119 HB;obtain ⟨BK117,BK118,BK119,HB⟩ := n_;(try clear hb);(try clear hb2);(try clear hk);(try clear hi)))
   go_ret3
   exact ⟨Z263,Z361⟩
 ·replace c6 := Bool.eq_false_iff.mpr c6
  subst c6
  rw [if_neg Bool.false_ne_true] at H
  simp only [Option.some.injEq,Prod.mk.injEq] at H
  obtain ⟨rfl,rfl,rfl⟩ := H
  go_enter Try.func31,Try.ntmps31
  go_wp2_with (first | ((with_reducible refine gate_dst (N := 3) rfl ?_);refine bE 3 #[.int .i64 a0_0,.int .i64 a0_1,.int .i64 a0_2,.int .i64 a0_3,.int .i64 a0_4,.int .i64 a0_5,.int .i64 a0_6,.slice A0_7 l0_7.length c0_7] 33 (h := ?_);intro gb117 hg wq1 hbox hb;have n_ := Z119;clear HB;obtain ⟨HB,BK117,GW117,GE117⟩ := n_;clear hb hbox hg) | ((with_reducible refine gate_dst (N := 4) rfl ?_);refine bE 4 #[.int .i64 a1_0,.int .i64 a1_1] 35 (h := ?_);intro gb118 hg wq2 hbox hb;have n_ := Z59;clear BK117 HB;obtain ⟨BK117,HB,BK118,GW118,GE118,NB117_118,NB118_117⟩ := n_;clear hb hbox hg) | ((with_reducible refine gate_dst (N := 5) rfl ?_);refine bE 5 #[.int .i64 a2_0,.int .i64 a2_1,.int .i64 a2_2,.int .i64 a2_3,.int .i64 a2_4,.int .i64 a2_5] 39 (h := ?_);intro gb119 hg wq3 hbox hb;have n_ := Z29;clear BK117 BK118 HB;obtain ⟨BK117,BK118,HB,BK119,GW119,GE119,NB117_119,NB119_117,NB118_119,NB119_118⟩ := n_;clear hb hbox hg;have hnbq4 := NB119_117.out;have hncq4 := NB117_119.out;have hnbq5 := NB119_118.out;have hncq5 := NB118_119.out;obtain ⟨hczq6_0,hczq6_1,hczq6_2,hczq6_3,hczq6_4,hczq6_5,hfzq6_0,hfzq6_1,hfzq6_2,hfzq6_3,hfzq6_4,hfzq6_5⟩ := cells6 BK119.out;have hnbq7 := NB117_118.out;have hncq7 := NB118_117.out;obtain ⟨hczq8_0,hczq8_1,hczq8_2,hczq8_3,hczq8_4,hczq8_5,hczq8_6,hczq8_7,hfzq8_0,hfzq8_1,hfzq8_2,hfzq8_3,hfzq8_4,hfzq8_5,hfzq8_6,hfzq8_7⟩ := cells8 BK117.out;obtain ⟨hczq9_0,hczq9_1,hfzq9_0,hfzq9_1⟩ := cells2 BK118.out) | ((with_reducible refine gate_callee (f := 76) rfl ?_);refine goesL_ (some 19) rfl rfl Try.func76 Z312 rfl #[.agg #[.int .i64 a2_2,.int .i64 a2_3],.int .i64 a0_3,.agg #[.int .i64 a1_0,.int .i64 a1_1]] rfl Z256 ?_;(with_reducible refine (spec_LeafOf.calls k a2_2 a2_3 a0_3 a1_0 a1_1 t120 false _ A4.out).mono ?_);rintro e wq10 ⟨rfl,hb⟩;refine ⟨_,rfl,?_⟩;have n_ := Z88;clear BK117 BK118 BK119 HB;obtain ⟨BK117,BK118,BK119,HB⟩ := n_;(try clear hb);(try clear hb2);(try clear hk);(try clear hi);obtain ⟨hczq11_0,hczq11_1,hczq11_2,hczq11_3,hczq11_4,hczq11_5,hfzq11_0,hfzq11_1,hfzq11_2,hfzq11_3,hfzq11_4,hfzq11_5⟩ := cells6 BK119.out;obtain ⟨hczq12_0,hczq12_1,hczq12_2,hczq12_3,hczq12_4,hczq12_5,hczq12_6,hczq12_7,hfzq12_0,hfzq12_1,hfzq12_2,hfzq12_3,hfzq12_4,hfzq12_5,hfzq12_6,hfzq12_7⟩ := cells8 BK117.out;obtain ⟨hczq13_0,hczq13_1,hfzq13_0,hfzq13_1⟩ := cells2 BK118.out) | ((with_reducible refine gate_callee (f := 76) rfl ?_);refine goesL_ (some 28) rfl rfl Try.func76 Z312 rfl #[.agg #[.int .i64 a2_4,.int .i64 a2_5],.int .i64 a0_3,.agg #[.int .i64 a1_0,.int .i64 a1_1]] rfl Z256 ?_;(with_reducible refine (spec_LeafOf.calls k a2_4 a2_5 a0_3 a1_0 a1_1 t122 t123 _ A5.out).mono ?_);rintro e wq14 ⟨rfl,hb⟩;refine ⟨_,rfl,?_⟩;have n_ := Z88;clear BK117 BK118 BK119 HB;obtain ⟨BK117,BK118,BK119,HB⟩ := n_;(try clear hb);(try clear hb2);(try clear hk);(try clear hi)))
  go_ret3
  exact ⟨Z263,Z361⟩

/-! ### spec_l8Numbers: function 77 -/
def spec_l8Numbers.f (a0_0 : Int) (a0_1 : Int) (a0_2 : Int) (a0_3 : Int) (a0_4 : Int) (a0_5 : Int) (a0_6 : Int) (l0_7 : List Int) : Option (List Int) := some (([a0_0,a0_1,a0_2,a0_3,a0_4] : List Int))
set_option maxHeartbeats 8000000 in
set_option maxRecDepth 100000 in
theorem spec_l8Numbers.calls (a0_0 : Int) (a0_1 : Int) (a0_2 : Int) (a0_3 : Int) (a0_4 : Int) (a0_5 : Int) (a0_6 : Int) (A0_7 : Option Addr) (c0_7 : Nat) (l0_7 : List Int) (r : List Int) (w : World) (hr0_7 : Kd.C (Kd.int .i64) w A0_7 l0_7.length l0_7) (hc0_7 : l0_7.length ≤ c0_7) (h : spec_l8Numbers.f a0_0 a0_1 a0_2 a0_3 a0_4 a0_5 a0_6 l0_7 = some r) :
  Calls Try.prog 77 #[.agg #[.int .i64 a0_0,.int .i64 a0_1,.int .i64 a0_2,.int .i64 a0_3,.int .i64 a0_4,.int .i64 a0_5,.int .i64 a0_6,.slice A0_7 l0_7.length c0_7]] w fun e w' => ∃ v0_ : Value,e = .returned (v0_) ∧ Kd.R (Kd.int .i64) 3 w' w.heap.size (fun _ => True) v0_ r ∧ Below w.heap.size w w' := by
 have hu33 := Try.underlying33
 have HR0_7 := Aside0.mk hr0_7
 have HC0_7 := Aside0.mk hc0_7
 clear hr0_7 hc0_7
 have HB := Aside0.mk (Below.refl w.heap.size w)
 have H := h
 clear h
 unfold spec_l8Numbers.f at H
 obtain ⟨y125,hy125⟩ : ∃ y_ : List Int,y_ = (([a0_0,a0_1,a0_2,a0_3,a0_4] : List Int)) := ⟨_,rfl⟩
 replace H : (some y125) = some r := by first | (rw [hy125];with_reducible exact H) | (have H2_ := (Option.bind_some _ _).symm.trans H;rw [hy125];with_reducible exact H2_) | (have H2_ := (Option.bind_some _ _).symm.trans H;with_reducible exact H2_) | with_reducible exact H | (rw [hy125];exact H) | exact H
 have Ny125 := Aside0.mk hy125
 clear hy125
 obtain rfl := Option.some.inj H
 go_enter Try.func77,Try.ntmps77
 go_wp2_with (first | ((with_reducible refine gate_dst (N := 1) rfl ?_);refine bE 1 #[.int .i64 a0_0,.int .i64 a0_1,.int .i64 a0_2,.int .i64 a0_3,.int .i64 a0_4,.int .i64 a0_5,.int .i64 a0_6,.slice A0_7 l0_7.length c0_7] 33 (h := ?_);intro gb124 hg wq1 hbox hb;have n_ := jA (below_step Z614 hb) (jA (hbox) (jA ((Z456 : w.heap.size ≤ gb124)) (Aside0.mk ((Z456 : w.heap.size ≤ gb124)))));clear HB;obtain ⟨HB,BK124,GW124,GE124⟩ := n_;clear hb hbox hg;obtain ⟨hczq2_0,hczq2_1,hczq2_2,hczq2_3,hczq2_4,hczq2_5,hczq2_6,hczq2_7,hfzq2_0,hfzq2_1,hfzq2_2,hfzq2_3,hfzq2_4,hfzq2_5,hfzq2_6,hfzq2_7⟩ := cells8 BK124.out) | ((with_reducible refine gate_dst (N := 13) rfl ?_);refine Kd.R_lit (Kd.int .i64) _ 3 ?hg (N := 13) ?hd (xs := ([a0_0,a0_1,a0_2,a0_3,a0_4] : List Int)) (inner := [.int .i64 a0_0,.int .i64 a0_1,.int .i64 a0_2,.int .i64 a0_3,.int .i64 a0_4]) (ok := fun _ => True) (okp := fun _ => True) ?hr ?hp (fun _ hk => hk) trivial (Below.refl _ _) (Nat.le_refl _) Z553 ?_;(case hd => rfl);(case hg => rfl);(case hr => exact Z290);(case hp => exact (Reps.one (show Kd.M (Kd.int .i64) _ _ _ a0_0 [.int .i64 a0_0] from rfl) (Reps.one (show Kd.M (Kd.int .i64) _ _ _ a0_1 [.int .i64 a0_1] from rfl) (Reps.one (show Kd.M (Kd.int .i64) _ _ _ a0_2 [.int .i64 a0_2] from rfl) (Reps.one (show Kd.M (Kd.int .i64) _ _ _ a0_3 [.int .i64 a0_3] from rfl) (Reps.one (show Kd.M (Kd.int .i64) _ _ _ a0_4 [.int .i64 a0_4] from rfl) (Reps.none _ _)))))));intro vq3 wq4 hoq5 hb hg_ hnew_;clear hg_ hnew_;(first | rw [← Ny125.out] at hoq5 | (simp only [Int.reduceToNat] at hoq5;rw [← Ny125.out] at hoq5));have n_ := jA (Kd.R_lower hoq5 (below_size Z244)) (jA (blk_below (g := gb124) (o := .cells #[.int .i64 a0_0,.int .i64 a0_1,.int .i64 a0_2,.int .i64 a0_3,.int .i64 a0_4,.int .i64 a0_5,.int .i64 a0_6,.slice A0_7 l0_7.length c0_7] 33 (0,0)) (by refine bP ?_;exact BK124.out) hb) (Aside0.mk (below_step Z244 hb)));clear BK124 HB;obtain ⟨HO127,BK124,HB⟩ := n_;clear hb hoq5))
 go_ret
 exact ⟨_,Z263,by (with_reducible repeat (first | apply Kd.R_alloc | apply Kd.R_drewN | apply Kd.R_drew));exact HO127.out,Z244⟩

/-! ### spec_l8Least: function 78 -/
def spec_l8Least.f  : Option (List Int) := some (([1,0,2,1,1] : List Int))
set_option maxHeartbeats 8000000 in
set_option maxRecDepth 100000 in
theorem spec_l8Least.calls  (r : List Int) (w : World) (h : spec_l8Least.f  = some r) :
  Calls Try.prog 78 #[] w fun e w' => ∃ v0_ : Value,e = .returned (v0_) ∧ Kd.R (Kd.int .i64) 3 w' w.heap.size (fun _ => True) v0_ r ∧ Below w.heap.size w w' := by
 have HB := Aside0.mk (Below.refl w.heap.size w)
 have H := h
 clear h
 unfold spec_l8Least.f at H
 obtain ⟨y128,hy128⟩ : ∃ y_ : List Int,y_ = (([1,0,2,1,1] : List Int)) := ⟨_,rfl⟩
 replace H : (some y128) = some r := by first | (rw [hy128];with_reducible exact H) | (have H2_ := (Option.bind_some _ _).symm.trans H;rw [hy128];with_reducible exact H2_) | (have H2_ := (Option.bind_some _ _).symm.trans H;with_reducible exact H2_) | with_reducible exact H | (rw [hy128];exact H) | exact H
 have Ny128 := Aside0.mk hy128
 clear hy128
 obtain rfl := Option.some.inj H
 go_enter Try.func78,Try.ntmps78
 go_wp2_with (first | ((with_reducible refine gate_dst (N := 1) rfl ?_);refine Kd.R_lit (Kd.int .i64) _ 3 ?hg (N := 1) ?hd (xs := ([1,0,2,1,1] : List Int)) (inner := [.int .i64 1,.int .i64 0,.int .i64 2,.int .i64 1,.int .i64 1]) (ok := fun _ => True) (okp := fun _ => True) ?hr ?hp (fun _ hk => hk) trivial (Below.refl _ _) (Nat.le_refl _) Z553 ?_;(case hd => rfl);(case hg => rfl);(case hr => exact Z290);(case hp => exact (Reps.one (show Kd.M (Kd.int .i64) _ _ _ 1 [.int .i64 1] from rfl) (Reps.one (show Kd.M (Kd.int .i64) _ _ _ 0 [.int .i64 0] from rfl) (Reps.one (show Kd.M (Kd.int .i64) _ _ _ 2 [.int .i64 2] from rfl) (Reps.one (show Kd.M (Kd.int .i64) _ _ _ 1 [.int .i64 1] from rfl) (Reps.one (show Kd.M (Kd.int .i64) _ _ _ 1 [.int .i64 1] from rfl) (Reps.none _ _)))))));intro vq1 wq2 hoq3 hb hg_ hnew_;clear hg_ hnew_;(first | rw [← Ny128.out] at hoq3 | (simp only [Int.reduceToNat] at hoq3;rw [← Ny128.out] at hoq3));have n_ := Z153;clear HB;obtain ⟨HO130,HB⟩ := n_;clear hb hoq3))
 go_ret
 exact ⟨_,Z263,by (with_reducible repeat (first | apply Kd.R_alloc | apply Kd.R_drewN | apply Kd.R_drew));exact HO130.out,Z614⟩

/-! ### spec_l8Most: function 79 -/
def spec_l8Most.f  : Option (List Int) := some (([8,4,8,100,20] : List Int))
set_option maxHeartbeats 8000000 in
set_option maxRecDepth 100000 in
theorem spec_l8Most.calls  (r : List Int) (w : World) (h : spec_l8Most.f  = some r) :
  Calls Try.prog 79 #[] w fun e w' => ∃ v0_ : Value,e = .returned (v0_) ∧ Kd.R (Kd.int .i64) 3 w' w.heap.size (fun _ => True) v0_ r ∧ Below w.heap.size w w' := by
 have HB := Aside0.mk (Below.refl w.heap.size w)
 have H := h
 clear h
 unfold spec_l8Most.f at H
 obtain ⟨y131,hy131⟩ : ∃ y_ : List Int,y_ = (([8,4,8,100,20] : List Int)) := ⟨_,rfl⟩
 replace H : (some y131) = some r := by first | (rw [hy131];with_reducible exact H) | (have H2_ := (Option.bind_some _ _).symm.trans H;rw [hy131];with_reducible exact H2_) | (have H2_ := (Option.bind_some _ _).symm.trans H;with_reducible exact H2_) | with_reducible exact H | (rw [hy131];exact H) | exact H
 have Ny131 := Aside0.mk hy131
 clear hy131
 obtain rfl := Option.some.inj H
 go_enter Try.func79,Try.ntmps79
 go_wp2_with (first | ((with_reducible refine gate_dst (N := 1) rfl ?_);refine Kd.R_lit (Kd.int .i64) _ 3 ?hg (N := 1) ?hd (xs := ([8,4,8,100,20] : List Int)) (inner := [.int .i64 8,.int .i64 4,.int .i64 8,.int .i64 100,.int .i64 20]) (ok := fun _ => True) (okp := fun _ => True) ?hr ?hp (fun _ hk => hk) trivial (Below.refl _ _) (Nat.le_refl _) Z553 ?_;(case hd => rfl);(case hg => rfl);(case hr => exact Z290);(case hp => exact (Reps.one (show Kd.M (Kd.int .i64) _ _ _ 8 [.int .i64 8] from rfl) (Reps.one (show Kd.M (Kd.int .i64) _ _ _ 4 [.int .i64 4] from rfl) (Reps.one (show Kd.M (Kd.int .i64) _ _ _ 8 [.int .i64 8] from rfl) (Reps.one (show Kd.M (Kd.int .i64) _ _ _ 100 [.int .i64 100] from rfl) (Reps.one (show Kd.M (Kd.int .i64) _ _ _ 20 [.int .i64 20] from rfl) (Reps.none _ _)))))));intro vq1 wq2 hoq3 hb hg_ hnew_;clear hg_ hnew_;(first | rw [← Ny131.out] at hoq3 | (simp only [Int.reduceToNat] at hoq3;rw [← Ny131.out] at hoq3));have n_ := Z153;clear HB;obtain ⟨HO133,HB⟩ := n_;clear hb hoq3))
 go_ret
 exact ⟨_,Z263,by (with_reducible repeat (first | apply Kd.R_alloc | apply Kd.R_drewN | apply Kd.R_drew));exact HO133.out,Z614⟩

end Go.Proofs.Ytaepeajaefpooaa.QFnExactMayPart
