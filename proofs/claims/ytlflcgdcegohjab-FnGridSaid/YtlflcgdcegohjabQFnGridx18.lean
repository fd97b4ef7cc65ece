/- The machine side of FnGrid: what each Go function that it reaches comes to. Conditions: none. -/
import Derived.Test.YtlflcgdcegohjabQFnGridx0
import Derived.Test.YtlflcgdcegohjabQFnGridx10
namespace Go.Proofs.Ytlflcgdcegohjab.QFnGrid
open Go.RowKit Go.Proofs.YtlflcgdcegohjabW.PrintWords Go.Proofs.YtlflcgdcegohjabW.PrintLast Go.Proofs.YtlflcgdcegohjabW.PrintMore
attribute [local go_sem] max2_int min2_int max_two min_two max_three min_three max_four min_four   -- for this text's walks alone
set_option linter.unusedVariables false
set_option linter.unusedSimpArgs false

/-! ### spec_RowsIn: function 34 -/
def spec_RowsIn.f (l0_0 : List (List Int)) (l0_1 : List (List Int)) : Option (Int) := if (l0_1.length : Int) = 0 then (some 0) else (if 0 < (l0_1.length : Int) then (some ((rd_L3 l0_1 0).length : Int)) else (none))
set_option maxHeartbeats 8000000 in
set_option maxRecDepth 100000 in
theorem spec_RowsIn.calls (A0_0 : Option Addr) (c0_0 : Nat) (l0_0 : List (List Int)) (A0_1 : Option Addr) (c0_1 : Nat) (l0_1 : List (List Int)) (r : Int) (w : World) (hr0_0 : Kd.C (Kd.slice 3 (Kd.int .i64)) w A0_0 l0_0.length l0_0) (hc0_0 : l0_0.length ≤ c0_0) (hr0_1 : Kd.C (Kd.slice 3 (Kd.int .i64)) w A0_1 l0_1.length l0_1) (hc0_1 : l0_1.length ≤ c0_1) (h : spec_RowsIn.f l0_0 l0_1 = some r) :
  Calls Try.prog 34 #[.agg #[.slice A0_0 l0_0.length c0_0,.slice A0_1 l0_1.length c0_1]] w fun e w' => e = .returned (.int .i64 r) ∧ Below w.heap.size w w' := by
 have hu32 := Try.underlying32
 have HR0_0 := Aside0.mk hr0_0
 have HC0_0 := Aside0.mk hc0_0
 clear hr0_0 hc0_0
 have HR0_1 := Aside0.mk hr0_1
 have HC0_1 := Aside0.mk hc0_1
 clear hr0_1 hc0_1
 have HB := Aside0.mk (Below.refl w.heap.size w)
 have H := h
 clear h
 unfold spec_RowsIn.f at H
 by_cases c2 : (l0_1.length : Int) = 0
 ·rw [if_pos c2] at H
  have c2b0 : ((l0_1.length : Int) == 0) = true := beq_iff_eq.mpr c2
  have c2b1 : ((l0_1.length : Int) != 0) = false := bne_eq_false_iff_eq.mpr c2
  clear c2
  obtain rfl := Option.some.inj H
  go_enter Try.func34,Try.ntmps34
  go_wp2_with (first | ((with_reducible refine gate_dst (N := 1) rfl ?_);refine bE 1 #[.slice A0_0 l0_0.length c0_0,.slice A0_1 l0_1.length c0_1] 32 (h := ?_);intro gb615 hg wq1 hbox hb;have n_ := Z19;clear HB;obtain ⟨HB,BK615,GW615,GE615⟩ := n_;clear hb hbox hg;obtain ⟨hczq2_0,hczq2_1,hfzq2_0,hfzq2_1⟩ := cells2 BK615.out))
  go_ret
  exact ⟨Z212,Z124⟩
 rw [if_neg c2] at H
 have c2b0 : ((l0_1.length : Int) == 0) = false := beq_eq_false_iff_ne.mpr c2
 have c2b1 : ((l0_1.length : Int) != 0) = true := bne_iff_ne.mpr c2
 have c2b2 : ¬ (l0_1 = []) := fun h_ => c2 (by rw [h_];rfl)
 obtain ⟨c5,H⟩ := ifp H
 have c5b0 : decide (0 < (l0_1.length : Int)) = true := decide_eq_true c5
 have c5b1 : decide (0 < l0_1.length) = true := decide_eq_true Z331
 clear c5
 obtain rfl := Option.some.inj H
 go_enter Try.func34,Try.ntmps34
 go_wp2_with (first | ((with_reducible refine gate_dst (N := 1) rfl ?_);refine bE 1 #[.slice A0_0 l0_0.length c0_0,.slice A0_1 l0_1.length c0_1] 32 (h := ?_);intro gb615 hg wq1 hbox hb;have n_ := Z19;clear HB;obtain ⟨HB,BK615,GW615,GE615⟩ := n_;clear hb hbox hg;obtain ⟨hczq2_0,hczq2_1,hfzq2_0,hfzq2_1⟩ := cells2 BK615.out;have pq3 : 0 ≤ (0 : Int) := Z331;have qq3 : 0 < (l0_1.length : Int) := of_decide_eq_true Z229;obtain ⟨adq3,A616_0,c616_0,eq3,hxq3_0,hlq3_0,hiq3_0⟩ := at_L3 HR0_1.out 0 pq3 qq3;cases eq3;have qiq3 : (0 < l0_1.length) = True := eq_true Z331;(try rw [show ((0 : Int)).toNat = 0 from rfl] at hxq3_0);(try rw [Addr.add_zero'] at hxq3_0);replace hxq3_0 := (HB.out.cell (World.block_lt_of_cell? w _ hxq3_0)).trans hxq3_0;have HR616_0 := Aside0.mk hiq3_0;have HC616_0 := Aside0.mk hlq3_0;clear hiq3_0 hlq3_0;replace pq3 := eq_true pq3;replace qq3 := eq_true qq3))
 go_ret
 exact ⟨Z212,Z124⟩

/-! ### spec_CutsOk: function 35 -/
def spec_CutsOk.l0 : Nat → List Int → Int → Option (Bool)
 | 0,_,_ => none
 | k + 1,x0,x3 => if x3 < (x0.length : Int) then (if 0 ≤ x3 then ((spec_l6Value.f (rd x0 x3)).bind fun t618 => (if t618 = true then (if x3 > 0 then (if 0 ≤ (wrap64 (x3 - 1)) then (if (wrap64 (x3 - 1)) < (x0.length : Int) then (if (rd x0 (wrap64 (x3 - 1))) ≥ (rd x0 x3) then (some false) else (spec_CutsOk.l0 k x0 (wrap64 (x3 + 1)))) else (none)) else (none)) else (spec_CutsOk.l0 k x0 (wrap64 (x3 + 1)))) else (some false))) else (none)) else (some (decide ((x0.length : Int) ≤ 7)))
def spec_CutsOk.f (k : Nat) (l0 : List Int) : Option (Bool) := spec_CutsOk.l0 k l0 0
theorem spec_CutsOk.mono_l : ∀ k,(∀ y0 y1,LeO (spec_CutsOk.l0 k y0 y1) (spec_CutsOk.l0 (k + 1) y0 y1))
 | 0 => fun _ _ r h => by simp [spec_CutsOk.l0] at h
 | k + 1 => by
  have ih0 := spec_CutsOk.mono_l k
  ·intro y0 y1
   unfold spec_CutsOk.l0
   repeat' first
   | (with_reducible exact ih0 _ _)
   | (with_reducible exact LeO.refl _)
   | (with_reducible exact LeO.none _)
   | (with_reducible refine LeO.ite ?_ ?_)
   | (with_reducible refine LeO.bind ?_ (fun _ => ?_))
   | exact ih0 _ _
   | exact LeO.none _
   | refine LeO.ite ?_ ?_
   | refine LeO.bind ?_ (fun _ => ?_)
theorem spec_CutsOk.mono : ∀ a0 k,LeO (spec_CutsOk.f k a0) (spec_CutsOk.f (k + 1) a0) := by
 intro a0 k
 have ih0 := spec_CutsOk.mono_l k
 unfold spec_CutsOk.f
 repeat' first
   | (with_reducible exact ih0 _ _)
   | (with_reducible exact LeO.refl _)
   | (with_reducible exact LeO.none _)
   | (with_reducible refine LeO.ite ?_ ?_)
   | (with_reducible refine LeO.bind ?_ (fun _ => ?_))
   | exact ih0 _ _
   | exact LeO.none _
   | refine LeO.ite ?_ ?_
   | refine LeO.bind ?_ (fun _ => ?_)
set_option maxHeartbeats 8000000 in
set_option maxRecDepth 100000 in
theorem spec_CutsOk.calls (k : Nat) (A0 : Option Addr) (c0 : Nat) (l0 : List Int) (r : Bool) (w : World) (hr0 : Kd.C (Kd.int .i64) w A0 l0.length l0) (hc0 : l0.length ≤ c0) (h : spec_CutsOk.f k l0 = some r) :
  Calls Try.prog 35 #[.slice A0 l0.length c0] w fun e w' => e = .returned (.bool r) ∧ Drawn0 w w' := by
 have HR0 := Aside0.mk hr0
 have HC0 := Aside0.mk hc0
 clear hr0 hc0
 have H := h
 clear h
 unfold spec_CutsOk.f at H
 have H' := Aside0.mk H
 clear H
 go_enter Try.func35,Try.ntmps35
 go_wp2
 repeat (go_quiet (fail);try go_wp2)
 go_loopg [3] k (fun kq v3 w' => ∃ (x3_1 : Int),v3 = .int .i64 x3_1 ∧ Aside0 (spec_CutsOk.l0 kq l0 x3_1 = some r) ∧ Aside0 (kq ≤ k) ∧ Drawn0 w w')
 case atStart => exact ⟨(0),Z230,H',⟨Nat.le_refl _⟩,Z224⟩
 case round =>
  clear H'
  obtain ⟨x3_1,rfl,HA,HK1,⟨m1,rfl⟩⟩ := hrel
  cases gk with
  | zero => exact absurd HA.out (by simp [spec_CutsOk.l0])
  | succ k1 =>
   have H := HA.out
   clear HA
   simp only [spec_CutsOk.l0] at H
   by_cases c2 : x3_1 < (l0.length : Int)
   rotate_left
   ·rw [if_neg c2] at H
    have c2b0 : decide (x3_1 < (l0.length : Int)) = false := decide_eq_false c2
    clear c2
    obtain rfl := Option.some.inj H
    go_wp2
    repeat (go_quiet (fail);try go_wp2)
    go_ret
    exact ⟨Z230,Z224⟩
   rw [if_pos c2] at H
   have c2b0 : decide (x3_1 < (l0.length : Int)) = true := decide_eq_true c2
   clear c2
   obtain ⟨c3,H⟩ := ifp H
   have c3b0 : decide (0 ≤ x3_1) = true := decide_eq_true c3
   clear c3
   obtain ⟨t618,A40,H⟩ := Option.bind_eq_some_iff.mp H
   have A4 := Aside0.mk A40
   clear A40
   by_cases c5 : t618 = true
   rotate_left
   ·replace c5 := Bool.eq_false_iff.mpr c5
    subst c5
    rw [if_neg Bool.false_ne_true] at H
    obtain rfl := Option.some.inj H
    have p617 : 0 ≤ (x3_1 : Int) := of_decide_eq_true Z229
    have q617 : x3_1 < (l0.length : Int) := of_decide_eq_true Z229
    obtain ⟨ad617,e617,hx617_0⟩ := Kd.at_int HR0.out x3_1 p617 q617
    cases e617
    replace p617 := eq_true p617
    replace q617 := eq_true q617
    go_wp2_with (first | (go_at_call 30;(with_reducible refine (spec_l6Value.calls (rd l0 x3_1) false _ A4.out).mono ?_);rintro e w' ⟨rfl,⟨nd,rfl⟩⟩;(try first | exact ⟨rfl,_,dD⟩ | exact ⟨rfl,_,dT⟩)))
    repeat (go_quiet (first | (go_at_call 30;(with_reducible refine (spec_l6Value.calls (rd l0 x3_1) false _ A4.out).mono ?_);rintro e w' ⟨rfl,⟨nd,rfl⟩⟩;(try first | exact ⟨rfl,_,dD⟩ | exact ⟨rfl,_,dT⟩)));try go_wp2_with (first | (go_at_call 30;(with_reducible refine (spec_l6Value.calls (rd l0 x3_1) false _ A4.out).mono ?_);rintro e w' ⟨rfl,⟨nd,rfl⟩⟩;(try first | exact ⟨rfl,_,dD⟩ | exact ⟨rfl,_,dT⟩))))
    go_ret
    exact ⟨Z230,Z224⟩
   subst c5
   rw [if_pos rfl] at H
   by_cases c6 : x3_1 > 0
   rotate_left
   ·rw [if_neg c6] at H
    have c6b0 : decide (0 < x3_1) = false := decide_eq_false c6
    clear c6
    have H' := Aside0.mk H
    clear H
    have p617 : 0 ≤ (x3_1 : Int) := of_decide_eq_true Z229
    have q617 : x3_1 < (l0.length : Int) := of_decide_eq_true Z229
    obtain ⟨ad617,e617,hx617_0⟩ := Kd.at_int HR0.out x3_1 p617 q617
    cases e617
    replace p617 := eq_true p617
    replace q617 := eq_true q617
    go_wp2_with (first | (go_at_call 30;(with_reducible refine (spec_l6Value.calls (rd l0 x3_1) true _ A4.out).mono ?_);rintro e w' ⟨rfl,⟨nd,rfl⟩⟩;(try first | exact ⟨rfl,_,dD⟩ | exact ⟨rfl,_,dT⟩)))
    repeat (go_quiet (first | (go_at_call 30;(with_reducible refine (spec_l6Value.calls (rd l0 x3_1) true _ A4.out).mono ?_);rintro e w' ⟨rfl,⟨nd,rfl⟩⟩;(try first | exact ⟨rfl,_,dD⟩ | exact ⟨rfl,_,dT⟩)));try go_wp2_with (first | (go_at_call 30;(with_reducible refine (spec_l6Value.calls (rd l0 x3_1) true _ A4.out).mono ?_);rintro e w' ⟨rfl,⟨nd,rfl⟩⟩;(try first | exact ⟨rfl,_,dD⟩ | exact ⟨rfl,_,dT⟩))))
    go_roundg k1
    case measure => have := HK1.out;omega
    case rel => exact ⟨(wrap64 (x3_1 + 1)),Z230,H',⟨Z251⟩,Z224⟩
   rw [if_pos c6] at H
   have c6b0 : decide (0 < x3_1) = true := decide_eq_true c6
   clear c6
   obtain ⟨ji7,hji7⟩ : ∃ j_ : Int,(wrap64 (x3_1 - 1)) = j_ := ⟨_,rfl⟩
   replace H : (if 0 ≤ (ji7) then (if (ji7) < (l0.length : Int) then (if (rd l0 (ji7)) ≥ (rd l0 x3_1) then (some false) else (spec_CutsOk.l0 k1 l0 (wrap64 (x3_1 + 1)))) else (none)) else (none)) = some r := by first | (rw [hji7] at H;exact H) | (simp only [hji7] at H ⊢;exact H)
   (try rw [hji7] at A4)
   have hji7w : (IntKind.i64.wrap (x3_1 - 1)) = ji7 := (i64_w _).trans hji7
   obtain ⟨c8,H⟩ := ifp H
   have c8b0 : decide (0 ≤ (ji7)) = true := decide_eq_true c8
   clear c8
   obtain ⟨c9,H⟩ := ifp H
   have c9b0 : decide ((ji7) < (l0.length : Int)) = true := decide_eq_true c9
   clear c9
   by_cases c10 : (rd l0 (ji7)) ≥ (rd l0 x3_1)
   ·rw [if_pos c10] at H
    have c10b0 : decide ((rd l0 x3_1) ≤ (rd l0 (ji7))) = true := decide_eq_true c10
    clear c10
    obtain rfl := Option.some.inj H
    have p617 : 0 ≤ (x3_1 : Int) := of_decide_eq_true Z229
    have q617 : x3_1 < (l0.length : Int) := of_decide_eq_true Z229
    obtain ⟨ad617,e617,hx617_0⟩ := Kd.at_int HR0.out x3_1 p617 q617
    cases e617
    replace p617 := eq_true p617
    replace q617 := eq_true q617
    have p619 : 0 ≤ ((ji7) : Int) := of_decide_eq_true Z229
    have q619 : (ji7) < (l0.length : Int) := of_decide_eq_true Z229
    obtain ⟨ad619,e619,hx619_0⟩ := Kd.at_int HR0.out (ji7) p619 q619
    obtain rfl : ad617 = ad619 := (by injection e619)
    replace p619 := eq_true p619
    replace q619 := eq_true q619
    have p620 : 0 ≤ (x3_1 : Int) := of_decide_eq_true Z229
    have q620 : x3_1 < (l0.length : Int) := of_decide_eq_true Z229
    obtain ⟨ad620,e620,hx620_0⟩ := Kd.at_int HR0.out x3_1 p620 q620
    obtain rfl : ad617 = ad620 := (by injection e620)
    replace p620 := eq_true p620
    replace q620 := eq_true q620
    go_wp2_with (first | (go_at_call 30;(with_reducible refine (spec_l6Value.calls (rd l0 x3_1) true _ A4.out).mono ?_);rintro e w' ⟨rfl,⟨nd,rfl⟩⟩;(try first | exact ⟨rfl,_,dD⟩ | exact ⟨rfl,_,dT⟩)))
    repeat (go_quiet (first | (go_at_call 30;(with_reducible refine (spec_l6Value.calls (rd l0 x3_1) true _ A4.out).mono ?_);rintro e w' ⟨rfl,⟨nd,rfl⟩⟩;(try first | exact ⟨rfl,_,dD⟩ | exact ⟨rfl,_,dT⟩)));try go_wp2_with (first | (go_at_call 30;(with_reducible refine (spec_l6Value.calls (rd l0 x3_1) true _ A4.out).mono ?_);rintro e w' ⟨rfl,⟨nd,rfl⟩⟩;(try first | exact ⟨rfl,_,dD⟩ | exact ⟨rfl,_,dT⟩))))
    go_ret
    exact ⟨Z211,Z224⟩
   rw [if_neg c10] at H
   have c10b0 : decide ((rd l0 x3_1) ≤ (rd l0 (ji7))) = false := decide_eq_false c10
   clear c10
   have H' := Aside0.mk H
   clear H
   have p617 : 0 ≤ (x3_1 : Int) := of_decide_eq_true Z229
   have q617 : x3_1 < (l0.length : Int) := of_decide_eq_true Z229
   obtain ⟨ad617,e617,hx617_0⟩ := Kd.at_int HR0.out x3_1 p617 q617
   cases e617
   replace p617 := eq_true p617
   replace q617 := eq_true q617
   have p619 : 0 ≤ ((ji7) : Int) := of_decide_eq_true Z229
   have q619 : (ji7) < (l0.length : Int) := of_decide_eq_true Z229
   obtain ⟨ad619,e619,hx619_0⟩ := Kd.at_int HR0.out (ji7) p619 q619
   obtain rfl : ad617 = ad619 := (by injection e619)
   replace p619 := eq_true p619
   replace q619 := eq_true q619
   have p620 : 0 ≤ (x3_1 : Int) := of_decide_eq_true Z229
   have q620 : x3_1 < (l0.length : Int) := of_decide_eq_true Z229
   obtain ⟨ad620,e620,hx620_0⟩ := Kd.at_int HR0.out x3_1 p620 q620
   obtain rfl : ad617 = ad620 := (by injection e620)
   replace p620 := eq_true p620
   replace q620 := eq_true q620
   go_wp2_with (first | (go_at_call 30;(with_reducible refine (spec_l6Value.calls (rd l0 x3_1) true _ A4.out).mono ?_);rintro e w' ⟨rfl,⟨nd,rfl⟩⟩;(try first | exact ⟨rfl,_,dD⟩ | exact ⟨rfl,_,dT⟩)))
   repeat (go_quiet (first | (go_at_call 30;(with_reducible refine (spec_l6Value.calls (rd l0 x3_1) true _ A4.out).mono ?_);rintro e w' ⟨rfl,⟨nd,rfl⟩⟩;(try first | exact ⟨rfl,_,dD⟩ | exact ⟨rfl,_,dT⟩)));try go_wp2_with (first | (go_at_call 30;(with_reducible refine (spec_l6Value.calls (rd l0 x3_1) true _ A4.out).mono ?_);rintro e w' ⟨rfl,⟨nd,rfl⟩⟩;(try first | exact ⟨rfl,_,dD⟩ | exact ⟨rfl,_,dT⟩))))
   go_roundg k1
   case measure => have := HK1.out;omega
   case rel => exact ⟨(wrap64 (x3_1 + 1)),Z230,H',⟨Z251⟩,Z224⟩

end Go.Proofs.Ytlflcgdcegohjab.QFnGrid
