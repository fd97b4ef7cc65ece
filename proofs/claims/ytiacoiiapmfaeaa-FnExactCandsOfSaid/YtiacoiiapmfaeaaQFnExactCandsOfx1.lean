/- The machine side of FnExactCandsOf: what each Go function that it reaches comes to. Conditions: none. -/
import Derived.Test.YtiacoiiapmfaeaaQFnExactCandsOfx0
namespace Go.Proofs.Ytiacoiiapmfaeaa.QFnExactCandsOf
open Go.RowKit Go.Proofs.YtiacoiiapmfaeaaW.PrintWords Go.Proofs.YtiacoiiapmfaeaaW.PrintLast Go.Proofs.YtiacoiiapmfaeaaW.PrintMore
attribute [local go_sem] max2_int min2_int max_two min_two max_three min_three max_four min_four   -- for this text's walks alone
set_option linter.unusedVariables false
set_option linter.unusedSimpArgs false

/-! ### laws_szSlotS: function 65 -/
def laws_szSlotS.f (l0 : List (S108)) (a1 : Int) : Option (Int) := if (wrap64 (a1 - (l0.length : Int))) < 0 then (some (-1)) else (some (wrap64 (a1 - (l0.length : Int))))
set_option maxHeartbeats 8000000 in
set_option maxRecDepth 100000 in
theorem laws_szSlotS.calls (A0 : Option Addr) (c0 : Nat) (l0 : List (S108)) (a1 : Int) (r : Int) (w : World) (hr0 : Kd.C k108 w A0 l0.length l0) (hc0 : l0.length ≤ c0) (h : laws_szSlotS.f l0 a1 = some r) :
    Calls Try.prog 65 #[.slice A0 l0.length c0,.int .i64 a1] w fun e w' => e = .returned (.int .i64 r) ∧ Drawn0 w w' := by
  have HR0 := Aside0.mk hr0
  have HC0 := Aside0.mk hc0
  clear hr0 hc0
  have H : (if (wrap64 (a1 - (l0.length : Int))) < 0 then (some (-1)) else (some (wrap64 (a1 - (l0.length : Int))))) = some r := h
  clear h
  by_cases c3 : (wrap64 (a1 - (l0.length : Int))) < 0
  · rw [if_pos c3] at H
    have c3b0 : decide ((wrap64 (a1 - (l0.length : Int))) < 0) = true := decide_eq_true c3
    clear c3
    obtain rfl := Option.some.inj H
    go_enter Try.func65,Try.ntmps65
    go_wp2
    go_ret
    exact ⟨by first | rfl | (simp;done) | (simp [*];done),by repeat (first | exact Drawn0.refl _ | apply Drawn0.step)⟩
  · rw [if_neg c3] at H
    have c3b0 : decide ((wrap64 (a1 - (l0.length : Int))) < 0) = false := decide_eq_false c3
    clear c3
    obtain rfl := Option.some.inj H
    go_enter Try.func65,Try.ntmps65
    go_wp2
    go_ret
    exact ⟨by first | rfl | (simp;done) | (simp [*];done),by repeat (first | exact Drawn0.refl _ | apply Drawn0.step)⟩

/-! ### laws_szSlotSS: function 27 -/
def laws_szSlotSS.l0 : Nat → List (List (S108)) → Int → Int → Option (Int)
  | 0,_,_,_ => none
  | k + 1,x0,x1,x5 => if x5 < (x0.length : Int) then (if 0 ≤ x5 then ((laws_szSlotS.f (rd_L2 x0 x5) x1).bind fun t102 => (if t102 < 0 then (some (-1)) else (laws_szSlotSS.l0 k x0 t102 (wrap64 (x5 + 1))))) else (none)) else (some x1)
def laws_szSlotSS.f (k : Nat) (l0 : List (List (S108))) (a1 : Int) : Option (Int) := if (wrap64 (a1 - (l0.length : Int))) < 0 then (some (-1)) else (laws_szSlotSS.l0 k l0 (wrap64 (a1 - (l0.length : Int))) 0)
theorem laws_szSlotSS.mono_l : ∀ k,(∀ y0 y1 y2,LeO (laws_szSlotSS.l0 k y0 y1 y2) (laws_szSlotSS.l0 (k + 1) y0 y1 y2))
  | 0 => fun _ _ _ r h => by simp [laws_szSlotSS.l0] at h
  | k + 1 => by
    have ih0 := laws_szSlotSS.mono_l k
    · intro y0 y1 y2
      unfold laws_szSlotSS.l0
      repeat' first
      | (with_reducible exact ih0 _ _ _)
      | (with_reducible exact LeO.refl _)
      | (with_reducible exact LeO.none _)
      | (with_reducible refine LeO.ite ?_ ?_)
      | (with_reducible refine LeO.bind ?_ (fun _ => ?_))
      | exact ih0 _ _ _
      | exact LeO.none _
      | refine LeO.ite ?_ ?_
      | refine LeO.bind ?_ (fun _ => ?_)
theorem laws_szSlotSS.mono : ∀ a0 a1 k,LeO (laws_szSlotSS.f k a0 a1) (laws_szSlotSS.f (k + 1) a0 a1) := by
  intro a0 a1 k
  have ih0 := laws_szSlotSS.mono_l k
  unfold laws_szSlotSS.f
  repeat' first
      | (with_reducible exact ih0 _ _ _)
      | (with_reducible exact LeO.refl _)
      | (with_reducible exact LeO.none _)
      | (with_reducible refine LeO.ite ?_ ?_)
      | (with_reducible refine LeO.bind ?_ (fun _ => ?_))
      | exact ih0 _ _ _
      | exact LeO.none _
      | refine LeO.ite ?_ ?_
      | refine LeO.bind ?_ (fun _ => ?_)
set_option maxHeartbeats 8000000 in
set_option maxRecDepth 100000 in
theorem laws_szSlotSS.calls (k : Nat) (A0 : Option Addr) (c0 : Nat) (l0 : List (List (S108))) (a1 : Int) (r : Int) (w : World) (hr0 : Kd.C (Kd.slice 108 k108) w A0 l0.length l0) (hc0 : l0.length ≤ c0) (h : laws_szSlotSS.f k l0 a1 = some r) :
    Calls Try.prog 27 #[.slice A0 l0.length c0,.int .i64 a1] w fun e w' => e = .returned (.int .i64 r) ∧ Drawn0 w w' := by
  have HR0 := Aside0.mk hr0
  have HC0 := Aside0.mk hc0
  clear hr0 hc0
  have H : (if (wrap64 (a1 - (l0.length : Int))) < 0 then (some (-1)) else (laws_szSlotSS.l0 k l0 (wrap64 (a1 - (l0.length : Int))) 0)) = some r := h
  clear h
  by_cases c3 : (wrap64 (a1 - (l0.length : Int))) < 0
  · rw [if_pos c3] at H
    have c3b0 : decide ((wrap64 (a1 - (l0.length : Int))) < 0) = true := decide_eq_true c3
    clear c3
    obtain rfl := Option.some.inj H
    go_enter Try.func27,Try.ntmps27
    go_wp2
    go_ret
    exact ⟨by first | rfl | (simp;done) | (simp [*];done),by repeat (first | exact Drawn0.refl _ | apply Drawn0.step)⟩
  · rw [if_neg c3] at H
    have c3b0 : decide ((wrap64 (a1 - (l0.length : Int))) < 0) = false := decide_eq_false c3
    clear c3
    have H' := Aside0.mk H
    clear H
    go_enter Try.func27,Try.ntmps27
    go_wp2
    go_loopg [1,5] k (fun kq v1 v5 w' => ∃ (x1_1 : Int) (x5_1 : Int),v1 = .int .i64 x1_1 ∧ v5 = .int .i64 x5_1 ∧ Aside0 (laws_szSlotSS.l0 kq l0 x1_1 x5_1 = some r) ∧ Aside0 (kq ≤ k) ∧ Drawn0 w w')
    case atStart => exact ⟨(wrap64 (a1 - (l0.length : Int))),(0),(by first | rfl | (simp;done) | (simp [*];done)),(by first | rfl | (simp;done) | (simp [*];done)),H',⟨Nat.le_refl _⟩,by repeat (first | exact Drawn0.refl _ | apply Drawn0.step)⟩
    case round =>
      clear H'
      try clear c2
      try clear p2
      try clear c3
      try clear c3b0
      obtain ⟨x1_1,x5_1,rfl,rfl,HA,HK1,⟨m1,rfl⟩⟩ := hrel
      cases gk with
      | zero => exact absurd HA.out (by simp [laws_szSlotSS.l0])
      | succ k1 =>
        have H := HA.out
        clear HA
        simp only [laws_szSlotSS.l0] at H
        by_cases c4 : x5_1 < (l0.length : Int)
        · rw [if_pos c4] at H
          have c4b0 : decide (x5_1 < (l0.length : Int)) = true := decide_eq_true c4
          clear c4
          by_cases c5 : 0 ≤ x5_1
          · rw [if_pos c5] at H
            have c5b0 : decide (0 ≤ x5_1) = true := decide_eq_true c5
            clear c5
            replace H := Option.bind_eq_some_iff.mp H
            obtain ⟨t102,A60,H⟩ := H
            replace H : (if t102 < 0 then (some (-1)) else (laws_szSlotSS.l0 k1 l0 t102 (wrap64 (x5_1 + 1)))) = some r := H
            have A6 := Aside0.mk A60
            clear A60
            by_cases c7 : t102 < 0
            · rw [if_pos c7] at H
              have c7b0 : decide (t102 < 0) = true := decide_eq_true c7
              clear c7
              obtain rfl := Option.some.inj H
              have p101 : 0 ≤ (x5_1 : Int) := of_decide_eq_true (by first | (with_reducible assumption) | assumption)
              have q101 : x5_1 < (l0.length : Int) := of_decide_eq_true (by first | (with_reducible assumption) | assumption)
              obtain ⟨ad101,A101_0,c101_0,e101,hx101_0,hl101_0,hi101_0⟩ := at_L2 HR0.out x5_1 p101 q101
              cases e101
              have HR101_0 := Aside0.mk hi101_0
              have HC101_0 := Aside0.mk hl101_0
              clear hi101_0 hl101_0
              replace p101 := eq_true p101
              replace q101 := eq_true q101
              go_wp2_with (first | ((with_reducible refine gate_callee (f := 65) rfl ?_);refine goesL_ (some 23) rfl rfl Try.func65 (by kernel_rfl) rfl #[.slice A101_0 (rd_L2 l0 x5_1).length c101_0,.int .i64 x1_1] rfl (by (try simp only [List.map_toArray,List.map_cons,List.map_nil]);first | done | rfl | (simp only [List.length_drop,List.length_take];rfl)) ?_;(with_reducible refine (laws_szSlotS.calls _ _ (rd_L2 l0 x5_1) x1_1 t102 _ ?side1 ?side2 A6.out).mono ?_);(case side1 => repeat (first | exact HR101_0.out | (with_reducible refine Kd.C_alloc ?_ _) | (with_reducible refine Kd.C_drewN ?_ _) | (with_reducible refine Kd.C_drew ?_)));(case side2 => exact HC101_0.out);rintro e w' ⟨rfl,⟨nd,rfl⟩⟩;refine ⟨_,rfl,?_⟩))
              go_ret
              exact ⟨by first | rfl | (simp;done) | (simp [*];done),by repeat (first | exact Drawn0.refl _ | apply Drawn0.step)⟩
            · rw [if_neg c7] at H
              have c7b0 : decide (t102 < 0) = false := decide_eq_false c7
              clear c7
              have H' := Aside0.mk H
              clear H
              have p101 : 0 ≤ (x5_1 : Int) := of_decide_eq_true (by first | (with_reducible assumption) | assumption)
              have q101 : x5_1 < (l0.length : Int) := of_decide_eq_true (by first | (with_reducible assumption) | assumption)
              obtain ⟨ad101,A101_0,c101_0,e101,hx101_0,hl101_0,hi101_0⟩ := at_L2 HR0.out x5_1 p101 q101
              cases e101
              have HR101_0 := Aside0.mk hi101_0
              have HC101_0 := Aside0.mk hl101_0
              clear hi101_0 hl101_0
              replace p101 := eq_true p101
              replace q101 := eq_true q101
              go_wp2_with (first | ((with_reducible refine gate_callee (f := 65) rfl ?_);refine goesL_ (some 23) rfl rfl Try.func65 (by kernel_rfl) rfl #[.slice A101_0 (rd_L2 l0 x5_1).length c101_0,.int .i64 x1_1] rfl (by (try simp only [List.map_toArray,List.map_cons,List.map_nil]);first | done | rfl | (simp only [List.length_drop,List.length_take];rfl)) ?_;(with_reducible refine (laws_szSlotS.calls _ _ (rd_L2 l0 x5_1) x1_1 t102 _ ?side1 ?side2 A6.out).mono ?_);(case side1 => repeat (first | exact HR101_0.out | (with_reducible refine Kd.C_alloc ?_ _) | (with_reducible refine Kd.C_drewN ?_ _) | (with_reducible refine Kd.C_drew ?_)));(case side2 => exact HC101_0.out);rintro e w' ⟨rfl,⟨nd,rfl⟩⟩;refine ⟨_,rfl,?_⟩))
              go_roundg k1
              case measure => have := HK1.out;omega
              case rel => exact ⟨(t102),(wrap64 (x5_1 + 1)),(by first | rfl | (simp;done) | (simp [*];done)),(by first | rfl | (simp;done) | (simp [*];done)),H',⟨by have := HK1.out;omega⟩,by repeat (first | exact Drawn0.refl _ | apply Drawn0.step)⟩
          · rw [if_neg c5] at H
            exact absurd H (by simp)
        · rw [if_neg c4] at H
          have c4b0 : decide (x5_1 < (l0.length : Int)) = false := decide_eq_false c4
          clear c4
          obtain rfl := Option.some.inj H
          go_wp2
          go_ret
          exact ⟨by first | rfl | (simp;done) | (simp [*];done),by repeat (first | exact Drawn0.refl _ | apply Drawn0.step)⟩

/-! ### spec_AddInt: function 94 -/
def spec_AddInt.f (a0 : Int) (a1 : Int) : Option (Int × Bool) := if a1 > 0 then (if a0 > (wrap64 (9223372036854775807 - a1)) then (some (0,false)) else (if a1 < 0 then (if a0 < (wrap64 ((-9223372036854775808) - a1)) then (some (0,false)) else (some (wrap64 (a0 + a1),true))) else (some (wrap64 (a0 + a1),true)))) else (if a1 < 0 then (if a0 < (wrap64 ((-9223372036854775808) - a1)) then (some (0,false)) else (some (wrap64 (a0 + a1),true))) else (some (wrap64 (a0 + a1),true)))
set_option maxHeartbeats 8000000 in
set_option maxRecDepth 100000 in
theorem spec_AddInt.calls (a0 : Int) (a1 : Int) (r1 : Int) (r2 : Bool) (w : World) (h : spec_AddInt.f a0 a1 = some (r1,r2)) :
    Calls Try.prog 94 #[.int .i64 a0,.int .i64 a1] w fun e w' => e = .returned (.tuple #[.int .i64 r1,.bool r2]) ∧ Drawn0 w w' := by
  have H : (if a1 > 0 then (if a0 > (wrap64 (9223372036854775807 - a1)) then (some (0,false)) else (if a1 < 0 then (if a0 < (wrap64 ((-9223372036854775808) - a1)) then (some (0,false)) else (some (wrap64 (a0 + a1),true))) else (some (wrap64 (a0 + a1),true)))) else (if a1 < 0 then (if a0 < (wrap64 ((-9223372036854775808) - a1)) then (some (0,false)) else (some (wrap64 (a0 + a1),true))) else (some (wrap64 (a0 + a1),true)))) = some (r1,r2) := h
  clear h
  by_cases c3 : a1 > 0
  · rw [if_pos c3] at H
    have c3b0 : decide (0 < a1) = true := decide_eq_true c3
    clear c3
    by_cases c4 : a0 > (wrap64 (9223372036854775807 - a1))
    · rw [if_pos c4] at H
      have c4b0 : decide ((wrap64 (9223372036854775807 - a1)) < a0) = true := decide_eq_true c4
      clear c4
      simp only [Option.some.injEq,Prod.mk.injEq] at H
      obtain ⟨rfl,rfl⟩ := H
      go_enter Try.func94,Try.ntmps94
      go_wp2
      go_ret2
      exact ⟨by first | rfl | (simp;done) | (simp [*];done),by repeat (first | exact Drawn0.refl _ | apply Drawn0.step)⟩
    · rw [if_neg c4] at H
      have c4b0 : decide ((wrap64 (9223372036854775807 - a1)) < a0) = false := decide_eq_false c4
      clear c4
      by_cases c5 : a1 < 0
      · rw [if_pos c5] at H
        have c5b0 : decide (a1 < 0) = true := decide_eq_true c5
        clear c5
        by_cases c6 : a0 < (wrap64 ((-9223372036854775808) - a1))
        · rw [if_pos c6] at H
          have c6b0 : decide (a0 < (wrap64 ((-9223372036854775808) - a1))) = true := decide_eq_true c6
          clear c6
          simp only [Option.some.injEq,Prod.mk.injEq] at H
          obtain ⟨rfl,rfl⟩ := H
          go_enter Try.func94,Try.ntmps94
          go_wp2
          go_ret2
          exact ⟨by first | rfl | (simp;done) | (simp [*];done),by repeat (first | exact Drawn0.refl _ | apply Drawn0.step)⟩
        · rw [if_neg c6] at H
          have c6b0 : decide (a0 < (wrap64 ((-9223372036854775808) - a1))) = false := decide_eq_false c6
          clear c6
          simp only [Option.some.injEq,Prod.mk.injEq] at H
          obtain ⟨rfl,rfl⟩ := H
          go_enter Try.func94,Try.ntmps94
          go_wp2
          go_ret2
          exact ⟨by first | rfl | (simp;done) | (simp [*];done),by repeat (first | exact Drawn0.refl _ | apply Drawn0.step)⟩
      · rw [if_neg c5] at H
        have c5b0 : decide (a1 < 0) = false := decide_eq_false c5
        clear c5
        simp only [Option.some.injEq,Prod.mk.injEq] at H
        obtain ⟨rfl,rfl⟩ := H
        go_enter Try.func94,Try.ntmps94
        go_wp2
        go_ret2
        exact ⟨by first | rfl | (simp;done) | (simp [*];done),by repeat (first | exact Drawn0.refl _ | apply Drawn0.step)⟩
  · rw [if_neg c3] at H
    have c3b0 : decide (0 < a1) = false := decide_eq_false c3
    clear c3
    by_cases c7 : a1 < 0
    · rw [if_pos c7] at H
      have c7b0 : decide (a1 < 0) = true := decide_eq_true c7
      clear c7
      by_cases c8 : a0 < (wrap64 ((-9223372036854775808) - a1))
      · rw [if_pos c8] at H
        have c8b0 : decide (a0 < (wrap64 ((-9223372036854775808) - a1))) = true := decide_eq_true c8
        clear c8
        simp only [Option.some.injEq,Prod.mk.injEq] at H
        obtain ⟨rfl,rfl⟩ := H
        go_enter Try.func94,Try.ntmps94
        go_wp2
        go_ret2
        exact ⟨by first | rfl | (simp;done) | (simp [*];done),by repeat (first | exact Drawn0.refl _ | apply Drawn0.step)⟩
      · rw [if_neg c8] at H
        have c8b0 : decide (a0 < (wrap64 ((-9223372036854775808) - a1))) = false := decide_eq_false c8
        clear c8
        simp only [Option.some.injEq,Prod.mk.injEq] at H
        obtain ⟨rfl,rfl⟩ := H
        go_enter Try.func94,Try.ntmps94
        go_wp2
        go_ret2
        exact ⟨by first | rfl | (simp;done) | (simp [*];done),by repeat (first | exact Drawn0.refl _ | apply Drawn0.step)⟩
    · rw [if_neg c7] at H
      have c7b0 : decide (a1 < 0) = false := decide_eq_false c7
      clear c7
      simp only [Option.some.injEq,Prod.mk.injEq] at H
      obtain ⟨rfl,rfl⟩ := H
      go_enter Try.func94,Try.ntmps94
      go_wp2
      go_ret2
      exact ⟨by first | rfl | (simp;done) | (simp [*];done),by repeat (first | exact Drawn0.refl _ | apply Drawn0.step)⟩

/-! ### spec_l13Add: function 85 -/
theorem spec_l13Add.cells2 {w : World} {g : Nat} {t : TypeId} {a0 a1 : Value} (h : w.heap[g]? = some (.cells #[a0,a1] t (0,0))) : w.cell? ⟨g,0,none⟩ = some a0 ∧ w.cell? ⟨g,1,none⟩ = some a1 ∧ w.frozen? ⟨g,0,none⟩ = false ∧ w.frozen? ⟨g,1,none⟩ = false := ⟨(blk_cell h 0).trans rfl,(blk_cell h 1).trans rfl,blk_frozen h 0,blk_frozen h 1⟩
def spec_l13Add.f (a0_0 : Int) (a0_1 : Int) (a1_0 : Int) (a1_1 : Int) : Option (Int × Int × Bool) := (spec_AddInt.f a0_0 a1_0).bind fun bt106 => ((spec_AddInt.f a0_1 a1_1).bind fun bt108 => (if bt106.2 = true then (if bt108.2 = true then (some (bt106.1,bt108.1,true)) else (some (0,0,false))) else (some (0,0,false))))
set_option maxHeartbeats 8000000 in
set_option maxRecDepth 100000 in
theorem spec_l13Add.calls (a0_0 : Int) (a0_1 : Int) (a1_0 : Int) (a1_1 : Int) (r1 : Int) (r2 : Int) (r3 : Bool) (w : World) (h : spec_l13Add.f a0_0 a0_1 a1_0 a1_1 = some (r1,r2,r3)) :
    Calls Try.prog 85 #[.agg #[.int .i64 a0_0,.int .i64 a0_1],.agg #[.int .i64 a1_0,.int .i64 a1_1]] w fun e w' => e = .returned (.tuple #[.agg #[.int .i64 r1,.int .i64 r2],.bool r3]) ∧ Below w.heap.size w w' := by
  have hu87 := Try.underlying87
  have HB := Aside0.mk (Below.refl w.heap.size w)
  have H : ((spec_AddInt.f a0_0 a1_0).bind fun bt106 => ((spec_AddInt.f a0_1 a1_1).bind fun bt108 => (if bt106.2 = true then (if bt108.2 = true then (some (bt106.1,bt108.1,true)) else (some (0,0,false))) else (some (0,0,false))))) = some (r1,r2,r3) := h
  clear h
  replace H := Option.bind_eq_some_iff.mp H
  obtain ⟨⟨t106,t107⟩,A30,H⟩ := H
  replace H : ((spec_AddInt.f a0_1 a1_1).bind fun bt108 => (if t107 = true then (if bt108.2 = true then (some (t106,bt108.1,true)) else (some (0,0,false))) else (some (0,0,false)))) = some (r1,r2,r3) := H
  have A3 := Aside0.mk A30
  clear A30
  replace H := Option.bind_eq_some_iff.mp H
  obtain ⟨⟨t108,t109⟩,A40,H⟩ := H
  replace H : (if t107 = true then (if t109 = true then (some (t106,t108,true)) else (some (0,0,false))) else (some (0,0,false))) = some (r1,r2,r3) := H
  have A4 := Aside0.mk A40
  clear A40
  by_cases c5 : t107 = true
  · subst c5
    have H1 : (if t109 = true then (some (t106,t108,true)) else (some (0,0,false))) = some (r1,r2,r3) := by rw [if_pos rfl] at H;exact H
    clear H
    have H := H1
    clear H1
    by_cases c6 : t109 = true
    · subst c6
      have H1 : (some (t106,t108,true)) = some (r1,r2,r3) := by rw [if_pos rfl] at H;exact H
      clear H
      have H := H1
      clear H1
      simp only [Option.some.injEq,Prod.mk.injEq] at H
      obtain ⟨rfl,rfl,rfl⟩ := H
      go_enter Try.func85,Try.ntmps85
      go_wp2_with (first | ((with_reducible refine gate_dst (N := 2) rfl ?_);refine box_event ?hg (N := 2) ?hd (cs := #[.int .i64 a0_0,.int .i64 a0_1]) (t := 87) ?hr ?_;(case hd => rfl);(case hg => rfl);(case hr => first | (go_simp;done) | (go_simp;rfl));intro gb103 hg w7 hbox hb;have n0_ := Aside0.mk (below_step (by repeat (first | (with_reducible first | exact HB.out | apply below_alloc | apply pw_below_drewN | apply below_drew1) | exact HB.out)) hb);have n1_ := Aside0.mk (hbox);have n2_ := Aside0.mk ((by rw [hg];exact (below_size (by repeat (first | (with_reducible first | exact HB.out | apply below_alloc | apply pw_below_drewN | apply below_drew1) | exact HB.out))) : w.heap.size ≤ gb103));have n3_ := Aside0.mk ((by rw [hg];exact (below_size (by repeat (first | (with_reducible first | exact HB.out | apply below_alloc | apply pw_below_drewN | apply below_drew1) | exact HB.out))) : w.heap.size ≤ gb103));clear HB;have HB := n0_;have BK103 := n1_;have GW103 := n2_;have GE103 := n3_;clear n0_ n1_ n2_ n3_;clear hb hbox hg) | ((with_reducible refine gate_dst (N := 3) rfl ?_);refine box_event ?hg (N := 3) ?hd (cs := #[.int .i64 a1_0,.int .i64 a1_1]) (t := 87) ?hr ?_;(case hd => rfl);(case hg => rfl);(case hr => first | (go_simp;done) | (go_simp;rfl));intro gb104 hg w8 hbox hb;have n0_ := Aside0.mk (blk_below (g := gb103) (o := .cells #[.int .i64 a0_0,.int .i64 a0_1] 87 (0,0)) (by refine bP ?_;exact BK103.out) hb);have n1_ := Aside0.mk (below_step (by repeat (first | (with_reducible first | exact HB.out | apply below_alloc | apply pw_below_drewN | apply below_drew1 | refine below_set ?_ GE103.out) | exact HB.out)) hb);have n2_ := Aside0.mk (hbox);have n3_ := Aside0.mk ((by rw [hg];exact (below_size (by repeat (first | (with_reducible first | exact HB.out | apply below_alloc | apply pw_below_drewN | apply below_drew1 | refine below_set ?_ GE103.out) | exact HB.out))) : w.heap.size ≤ gb104));have n4_ := Aside0.mk ((by rw [hg];exact (below_size (by repeat (first | (with_reducible first | exact HB.out | apply below_alloc | apply pw_below_drewN | apply below_drew1 | refine below_set ?_ GE103.out) | exact HB.out))) : w.heap.size ≤ gb104));have n5_ := Aside0.mk ((by rw [hg];exact Nat.ne_of_lt (blk_lt (g := gb103) (o := .cells #[.int .i64 a0_0,.int .i64 a0_1] 87 (0,0)) (by refine bP ?_;exact BK103.out)) : gb103 ≠ gb104));have n6_ := Aside0.mk ((by rw [hg];exact Nat.ne_of_gt (blk_lt (g := gb103) (o := .cells #[.int .i64 a0_0,.int .i64 a0_1] 87 (0,0)) (by refine bP ?_;exact BK103.out)) : gb104 ≠ gb103));clear BK103;clear HB;have BK103 := n0_;have HB := n1_;have BK104 := n2_;have GW104 := n3_;have GE104 := n4_;have NB103_104 := n5_;have NB104_103 := n6_;clear n0_ n1_ n2_ n3_ n4_ n5_ n6_;clear hb hbox hg) | ((with_reducible refine gate_dst (N := 4) rfl ?_);refine box_event ?hg (N := 4) ?hd (cs := #[.int .i64 0,.int .i64 0]) (t := 87) ?hr ?_;(case hd => rfl);(case hg => rfl);(case hr => first | (go_simp;done) | (go_simp;rfl));intro gb105 hg w9 hbox hb;have n0_ := Aside0.mk (blk_below (g := gb103) (o := .cells #[.int .i64 a0_0,.int .i64 a0_1] 87 (0,0)) (by refine bP ?_;exact BK103.out) hb);have n1_ := Aside0.mk (blk_below (g := gb104) (o := .cells #[.int .i64 a1_0,.int .i64 a1_1] 87 (0,0)) (by refine bP ?_;exact BK104.out) hb);have n2_ := Aside0.mk (below_step (by repeat (first | (with_reducible first | exact HB.out | apply below_alloc | apply pw_below_drewN | apply below_drew1 | refine below_set ?_ GE103.out | refine below_set ?_ GE104.out) | exact HB.out)) hb);have n3_ := Aside0.mk (hbox);have n4_ := Aside0.mk ((by rw [hg];exact (below_size (by repeat (first | (with_reducible first | exact HB.out | apply below_alloc | apply pw_below_drewN | apply below_drew1 | refine below_set ?_ GE103.out | refine below_set ?_ GE104.out) | exact HB.out))) : w.heap.size ≤ gb105));have n5_ := Aside0.mk ((by rw [hg];exact (below_size (by repeat (first | (with_reducible first | exact HB.out | apply below_alloc | apply pw_below_drewN | apply below_drew1 | refine below_set ?_ GE103.out | refine below_set ?_ GE104.out) | exact HB.out))) : w.heap.size ≤ gb105));have n6_ := Aside0.mk ((by rw [hg];exact Nat.ne_of_lt (blk_lt (g := gb103) (o := .cells #[.int .i64 a0_0,.int .i64 a0_1] 87 (0,0)) (by refine bP ?_;exact BK103.out)) : gb103 ≠ gb105));have n7_ := Aside0.mk ((by rw [hg];exact Nat.ne_of_gt (blk_lt (g := gb103) (o := .cells #[.int .i64 a0_0,.int .i64 a0_1] 87 (0,0)) (by refine bP ?_;exact BK103.out)) : gb105 ≠ gb103));have n8_ := Aside0.mk ((by rw [hg];exact Nat.ne_of_lt (blk_lt (g := gb104) (o := .cells #[.int .i64 a1_0,.int .i64 a1_1] 87 (0,0)) (by refine bP ?_;exact BK104.out)) : gb104 ≠ gb105));have n9_ := Aside0.mk ((by rw [hg];exact Nat.ne_of_gt (blk_lt (g := gb104) (o := .cells #[.int .i64 a1_0,.int .i64 a1_1] 87 (0,0)) (by refine bP ?_;exact BK104.out)) : gb105 ≠ gb104));clear BK103;clear BK104;clear HB;have BK103 := n0_;have BK104 := n1_;have HB := n2_;have BK105 := n3_;have GW105 := n4_;have GE105 := n5_;have NB103_105 := n6_;have NB105_103 := n7_;have NB104_105 := n8_;have NB105_104 := n9_;clear n0_ n1_ n2_ n3_ n4_ n5_ n6_ n7_ n8_ n9_;clear hb hbox hg;have hnb10 := NB103_104.out;have hnc10 := NB104_103.out;have hnb11 := NB103_105.out;have hnc11 := NB105_103.out;obtain ⟨hcz12_0,hcz12_1,hfz12_0,hfz12_1⟩ := spec_l13Add.cells2 BK103.out;have hnb13 := NB104_105.out;have hnc13 := NB105_104.out;obtain ⟨hcz14_0,hcz14_1,hfz14_0,hfz14_1⟩ := spec_l13Add.cells2 BK104.out) | ((with_reducible refine gate_callee (f := 94) rfl ?_);refine goesL_ (some 15) rfl rfl Try.func94 (by kernel_rfl) rfl #[.int .i64 a0_0,.int .i64 a1_0] rfl (by (try simp only [List.map_toArray,List.map_cons,List.map_nil]);first | done | rfl | (simp only [List.length_drop,List.length_take];rfl)) ?_;(with_reducible refine (spec_AddInt.calls a0_0 a1_0 t106 true _ A3.out).mono ?_);rintro e w' ⟨rfl,⟨nd,rfl⟩⟩;refine ⟨_,rfl,?_⟩;(iterate 4 (try (rw [drewN_self w9];generalize hq_ : World.drewN w9 _ = w9;have n0_ : Aside0 (w9.heap[gb103]? = some (.cells #[.int .i64 a0_0,.int .i64 a0_1] 87 (0,0))) := ⟨by rw [← hq_];exact (by refine bP ?_;exact BK103.out)⟩;have n1_ : Aside0 (w9.heap[gb104]? = some (.cells #[.int .i64 a1_0,.int .i64 a1_1] 87 (0,0))) := ⟨by rw [← hq_];exact (by refine bP ?_;exact BK104.out)⟩;have n2_ : Aside0 (w9.heap[gb105]? = some (.cells #[.int .i64 0,.int .i64 0] 87 (0,0))) := ⟨by rw [← hq_];exact (by refine bP ?_;exact BK105.out)⟩;have n3_ : Aside0 (Below w.heap.size w w9) := ⟨by rw [← hq_];exact (by repeat (first | (with_reducible first | exact HB.out | apply below_alloc | apply pw_below_drewN | apply below_drew1 | refine below_set ?_ GE103.out | refine below_set ?_ GE104.out | refine below_set ?_ GE105.out) | exact HB.out))⟩;clear BK103 BK104 BK105 HB hq_;have BK103 := n0_;have BK104 := n1_;have BK105 := n2_;have HB := n3_;clear n0_ n1_ n2_ n3_)));(try (obtain ⟨hcz12_0,hcz12_1,hfz12_0,hfz12_1⟩ := spec_l13Add.cells2 BK103.out));(try (obtain ⟨hcz14_0,hcz14_1,hfz14_0,hfz14_1⟩ := spec_l13Add.cells2 BK104.out))) | ((with_reducible refine gate_callee (f := 94) rfl ?_);refine goesL_ (some 23) rfl rfl Try.func94 (by kernel_rfl) rfl #[.int .i64 a0_1,.int .i64 a1_1] rfl (by (try simp only [List.map_toArray,List.map_cons,List.map_nil]);first | done | rfl | (simp only [List.length_drop,List.length_take];rfl)) ?_;(with_reducible refine (spec_AddInt.calls a0_1 a1_1 t108 true _ A4.out).mono ?_);rintro e w' ⟨rfl,⟨nd,rfl⟩⟩;refine ⟨_,rfl,?_⟩;(iterate 4 (try (rw [drewN_self w9];generalize hq_ : World.drewN w9 _ = w9;have n0_ : Aside0 (w9.heap[gb103]? = some (.cells #[.int .i64 a0_0,.int .i64 a0_1] 87 (0,0))) := ⟨by rw [← hq_];exact (by refine bP ?_;exact BK103.out)⟩;have n1_ : Aside0 (w9.heap[gb104]? = some (.cells #[.int .i64 a1_0,.int .i64 a1_1] 87 (0,0))) := ⟨by rw [← hq_];exact (by refine bP ?_;exact BK104.out)⟩;have n2_ : Aside0 (w9.heap[gb105]? = some (.cells #[.int .i64 0,.int .i64 0] 87 (0,0))) := ⟨by rw [← hq_];exact (by refine bP ?_;exact BK105.out)⟩;have n3_ : Aside0 (Below w.heap.size w w9) := ⟨by rw [← hq_];exact (by repeat (first | (with_reducible first | exact HB.out | apply below_alloc | apply pw_below_drewN | apply below_drew1 | refine below_set ?_ GE103.out | refine below_set ?_ GE104.out | refine below_set ?_ GE105.out) | exact HB.out))⟩;clear BK103 BK104 BK105 HB hq_;have BK103 := n0_;have BK104 := n1_;have BK105 := n2_;have HB := n3_;clear n0_ n1_ n2_ n3_)));(try (obtain ⟨hcz12_0,hcz12_1,hfz12_0,hfz12_1⟩ := spec_l13Add.cells2 BK103.out));(try (obtain ⟨hcz14_0,hcz14_1,hfz14_0,hfz14_1⟩ := spec_l13Add.cells2 BK104.out));obtain ⟨hcz15_0,hcz15_1,hfz15_0,hfz15_1⟩ := spec_l13Add.cells2 BK105.out))
      refine bodyPost_ret (results_ct rfl _ _ gb105 87 #[.int .i64 t106,.int .i64 t108] (0,0) _ rfl (by refine bP ?_;refine blk_put (cs := #[.int .i64 t106,.int .i64 0]) ?_ 1 _ rfl;refine bP ?_;refine blk_put (cs := #[.int .i64 0,.int .i64 0]) ?_ 0 _ rfl;refine bP ?_;exact BK105.out) Try.underlying87 rfl (by kernel_rfl)) rfl ?_
      exact ⟨by first | rfl | (simp [errW_none,errW_some] <;> rfl) | (simp [*,errW_none,errW_some] <;> rfl),by repeat (first | (with_reducible first | exact HB.out | apply below_alloc | apply pw_below_drewN | apply below_drew1 | refine below_set ?_ GE103.out | refine below_set ?_ GE104.out | refine below_set ?_ GE105.out) | exact HB.out)⟩
    · replace c6 := Bool.eq_false_iff.mpr c6
      subst c6
      have H1 : (some (0,0,false)) = some (r1,r2,r3) := by rw [if_neg (show ¬ (false = true) by decide)] at H;exact H
      clear H
      have H := H1
      clear H1
      simp only [Option.some.injEq,Prod.mk.injEq] at H
      obtain ⟨rfl,rfl,rfl⟩ := H
      go_enter Try.func85,Try.ntmps85
      go_wp2_with (first | ((with_reducible refine gate_dst (N := 2) rfl ?_);refine box_event ?hg (N := 2) ?hd (cs := #[.int .i64 a0_0,.int .i64 a0_1]) (t := 87) ?hr ?_;(case hd => rfl);(case hg => rfl);(case hr => first | (go_simp;done) | (go_simp;rfl));intro gb103 hg w16 hbox hb;have n0_ := Aside0.mk (below_step (by repeat (first | (with_reducible first | exact HB.out | apply below_alloc | apply pw_below_drewN | apply below_drew1) | exact HB.out)) hb);have n1_ := Aside0.mk (hbox);have n2_ := Aside0.mk ((by rw [hg];exact (below_size (by repeat (first | (with_reducible first | exact HB.out | apply below_alloc | apply pw_below_drewN | apply below_drew1) | exact HB.out))) : w.heap.size ≤ gb103));have n3_ := Aside0.mk ((by rw [hg];exact (below_size (by repeat (first | (with_reducible first | exact HB.out | apply below_alloc | apply pw_below_drewN | apply below_drew1) | exact HB.out))) : w.heap.size ≤ gb103));clear HB;have HB := n0_;have BK103 := n1_;have GW103 := n2_;have GE103 := n3_;clear n0_ n1_ n2_ n3_;clear hb hbox hg) | ((with_reducible refine gate_dst (N := 3) rfl ?_);refine box_event ?hg (N := 3) ?hd (cs := #[.int .i64 a1_0,.int .i64 a1_1]) (t := 87) ?hr ?_;(case hd => rfl);(case hg => rfl);(case hr => first | (go_simp;done) | (go_simp;rfl));intro gb104 hg w17 hbox hb;have n0_ := Aside0.mk (blk_below (g := gb103) (o := .cells #[.int .i64 a0_0,.int .i64 a0_1] 87 (0,0)) (by refine bP ?_;exact BK103.out) hb);have n1_ := Aside0.mk (below_step (by repeat (first | (with_reducible first | exact HB.out | apply below_alloc | apply pw_below_drewN | apply below_drew1 | refine below_set ?_ GE103.out) | exact HB.out)) hb);have n2_ := Aside0.mk (hbox);have n3_ := Aside0.mk ((by rw [hg];exact (below_size (by repeat (first | (with_reducible first | exact HB.out | apply below_alloc | apply pw_below_drewN | apply below_drew1 | refine below_set ?_ GE103.out) | exact HB.out))) : w.heap.size ≤ gb104));have n4_ := Aside0.mk ((by rw [hg];exact (below_size (by repeat (first | (with_reducible first | exact HB.out | apply below_alloc | apply pw_below_drewN | apply below_drew1 | refine below_set ?_ GE103.out) | exact HB.out))) : w.heap.size ≤ gb104));have n5_ := Aside0.mk ((by rw [hg];exact Nat.ne_of_lt (blk_lt (g := gb103) (o := .cells #[.int .i64 a0_0,.int .i64 a0_1] 87 (0,0)) (by refine bP ?_;exact BK103.out)) : gb103 ≠ gb104));have n6_ := Aside0.mk ((by rw [hg];exact Nat.ne_of_gt (blk_lt (g := gb103) (o := .cells #[.int .i64 a0_0,.int .i64 a0_1] 87 (0,0)) (by refine bP ?_;exact BK103.out)) : gb104 ≠ gb103));clear BK103;clear HB;have BK103 := n0_;have HB := n1_;have BK104 := n2_;have GW104 := n3_;have GE104 := n4_;have NB103_104 := n5_;have NB104_103 := n6_;clear n0_ n1_ n2_ n3_ n4_ n5_ n6_;clear hb hbox hg) | ((with_reducible refine gate_dst (N := 4) rfl ?_);refine box_event ?hg (N := 4) ?hd (cs := #[.int .i64 0,.int .i64 0]) (t := 87) ?hr ?_;(case hd => rfl);(case hg => rfl);(case hr => first | (go_simp;done) | (go_simp;rfl));intro gb105 hg w18 hbox hb;have n0_ := Aside0.mk (blk_below (g := gb103) (o := .cells #[.int .i64 a0_0,.int .i64 a0_1] 87 (0,0)) (by refine bP ?_;exact BK103.out) hb);have n1_ := Aside0.mk (blk_below (g := gb104) (o := .cells #[.int .i64 a1_0,.int .i64 a1_1] 87 (0,0)) (by refine bP ?_;exact BK104.out) hb);have n2_ := Aside0.mk (below_step (by repeat (first | (with_reducible first | exact HB.out | apply below_alloc | apply pw_below_drewN | apply below_drew1 | refine below_set ?_ GE103.out | refine below_set ?_ GE104.out) | exact HB.out)) hb);have n3_ := Aside0.mk (hbox);have n4_ := Aside0.mk ((by rw [hg];exact (below_size (by repeat (first | (with_reducible first | exact HB.out | apply below_alloc | apply pw_below_drewN | apply below_drew1 | refine below_set ?_ GE103.out | refine below_set ?_ GE104.out) | exact HB.out))) : w.heap.size ≤ gb105));have n5_ := Aside0.mk ((by rw [hg];exact (below_size (by repeat (first | (with_reducible first | exact HB.out | apply below_alloc | apply pw_below_drewN | apply below_drew1 | refine below_set ?_ GE103.out | refine below_set ?_ GE104.out) | exact HB.out))) : w.heap.size ≤ gb105));have n6_ := Aside0.mk ((by rw [hg];exact Nat.ne_of_lt (blk_lt (g := gb103) (o := .cells #[.int .i64 a0_0,.int .i64 a0_1] 87 (0,0)) (by refine bP ?_;exact BK103.out)) : gb103 ≠ gb105));have n7_ := Aside0.mk ((by rw [hg];exact Nat.ne_of_gt (blk_lt (g := gb103) (o := .cells #[.int .i64 a0_0,.int .i64 a0_1] 87 (0,0)) (by refine bP ?_;exact BK103.out)) : gb105 ≠ gb103));have n8_ := Aside0.mk ((by rw [hg];exact Nat.ne_of_lt (blk_lt (g := gb104) (o := .cells #[.int .i64 a1_0,.int .i64 a1_1] 87 (0,0)) (by refine bP ?_;exact BK104.out)) : gb104 ≠ gb105));have n9_ := Aside0.mk ((by rw [hg];exact Nat.ne_of_gt (blk_lt (g := gb104) (o := .cells #[.int .i64 a1_0,.int .i64 a1_1] 87 (0,0)) (by refine bP ?_;exact BK104.out)) : gb105 ≠ gb104));clear BK103;clear BK104;clear HB;have BK103 := n0_;have BK104 := n1_;have HB := n2_;have BK105 := n3_;have GW105 := n4_;have GE105 := n5_;have NB103_105 := n6_;have NB105_103 := n7_;have NB104_105 := n8_;have NB105_104 := n9_;clear n0_ n1_ n2_ n3_ n4_ n5_ n6_ n7_ n8_ n9_;clear hb hbox hg;have hnb19 := NB103_104.out;have hnc19 := NB104_103.out;have hnb20 := NB103_105.out;have hnc20 := NB105_103.out;obtain ⟨hcz21_0,hcz21_1,hfz21_0,hfz21_1⟩ := spec_l13Add.cells2 BK103.out;have hnb22 := NB104_105.out;have hnc22 := NB105_104.out;obtain ⟨hcz23_0,hcz23_1,hfz23_0,hfz23_1⟩ := spec_l13Add.cells2 BK104.out) | ((with_reducible refine gate_callee (f := 94) rfl ?_);refine goesL_ (some 15) rfl rfl Try.func94 (by kernel_rfl) rfl #[.int .i64 a0_0,.int .i64 a1_0] rfl (by (try simp only [List.map_toArray,List.map_cons,List.map_nil]);first | done | rfl | (simp only [List.length_drop,List.length_take];rfl)) ?_;(with_reducible refine (spec_AddInt.calls a0_0 a1_0 t106 true _ A3.out).mono ?_);rintro e w' ⟨rfl,⟨nd,rfl⟩⟩;refine ⟨_,rfl,?_⟩;(iterate 4 (try (rw [drewN_self w18];generalize hq_ : World.drewN w18 _ = w18;have n0_ : Aside0 (w18.heap[gb103]? = some (.cells #[.int .i64 a0_0,.int .i64 a0_1] 87 (0,0))) := ⟨by rw [← hq_];exact (by refine bP ?_;exact BK103.out)⟩;have n1_ : Aside0 (w18.heap[gb104]? = some (.cells #[.int .i64 a1_0,.int .i64 a1_1] 87 (0,0))) := ⟨by rw [← hq_];exact (by refine bP ?_;exact BK104.out)⟩;have n2_ : Aside0 (w18.heap[gb105]? = some (.cells #[.int .i64 0,.int .i64 0] 87 (0,0))) := ⟨by rw [← hq_];exact (by refine bP ?_;exact BK105.out)⟩;have n3_ : Aside0 (Below w.heap.size w w18) := ⟨by rw [← hq_];exact (by repeat (first | (with_reducible first | exact HB.out | apply below_alloc | apply pw_below_drewN | apply below_drew1 | refine below_set ?_ GE103.out | refine below_set ?_ GE104.out | refine below_set ?_ GE105.out) | exact HB.out))⟩;clear BK103 BK104 BK105 HB hq_;have BK103 := n0_;have BK104 := n1_;have BK105 := n2_;have HB := n3_;clear n0_ n1_ n2_ n3_)));(try (obtain ⟨hcz21_0,hcz21_1,hfz21_0,hfz21_1⟩ := spec_l13Add.cells2 BK103.out));(try (obtain ⟨hcz23_0,hcz23_1,hfz23_0,hfz23_1⟩ := spec_l13Add.cells2 BK104.out))) | ((with_reducible refine gate_callee (f := 94) rfl ?_);refine goesL_ (some 23) rfl rfl Try.func94 (by kernel_rfl) rfl #[.int .i64 a0_1,.int .i64 a1_1] rfl (by (try simp only [List.map_toArray,List.map_cons,List.map_nil]);first | done | rfl | (simp only [List.length_drop,List.length_take];rfl)) ?_;(with_reducible refine (spec_AddInt.calls a0_1 a1_1 t108 false _ A4.out).mono ?_);rintro e w' ⟨rfl,⟨nd,rfl⟩⟩;refine ⟨_,rfl,?_⟩;(iterate 4 (try (rw [drewN_self w18];generalize hq_ : World.drewN w18 _ = w18;have n0_ : Aside0 (w18.heap[gb103]? = some (.cells #[.int .i64 a0_0,.int .i64 a0_1] 87 (0,0))) := ⟨by rw [← hq_];exact (by refine bP ?_;exact BK103.out)⟩;have n1_ : Aside0 (w18.heap[gb104]? = some (.cells #[.int .i64 a1_0,.int .i64 a1_1] 87 (0,0))) := ⟨by rw [← hq_];exact (by refine bP ?_;exact BK104.out)⟩;have n2_ : Aside0 (w18.heap[gb105]? = some (.cells #[.int .i64 0,.int .i64 0] 87 (0,0))) := ⟨by rw [← hq_];exact (by refine bP ?_;exact BK105.out)⟩;have n3_ : Aside0 (Below w.heap.size w w18) := ⟨by rw [← hq_];exact (by repeat (first | (with_reducible first | exact HB.out | apply below_alloc | apply pw_below_drewN | apply below_drew1 | refine below_set ?_ GE103.out | refine below_set ?_ GE104.out | refine below_set ?_ GE105.out) | exact HB.out))⟩;clear BK103 BK104 BK105 HB hq_;have BK103 := n0_;have BK104 := n1_;have BK105 := n2_;have HB := n3_;clear n0_ n1_ n2_ n3_)));(try (obtain ⟨hcz21_0,hcz21_1,hfz21_0,hfz21_1⟩ := spec_l13Add.cells2 BK103.out));(try (obtain ⟨hcz23_0,hcz23_1,hfz23_0,hfz23_1⟩ := spec_l13Add.cells2 BK104.out));obtain ⟨hcz24_0,hcz24_1,hfz24_0,hfz24_1⟩ := spec_l13Add.cells2 BK105.out))
      refine bodyPost_ret (results_ct rfl _ _ gb105 87 #[.int .i64 0,.int .i64 0] (0,0) _ rfl (by refine bP ?_;refine blk_put (cs := #[.int .i64 0,.int .i64 0]) ?_ 1 _ rfl;refine bP ?_;refine blk_put (cs := #[.int .i64 0,.int .i64 0]) ?_ 0 _ rfl;refine bP ?_;exact BK105.out) Try.underlying87 rfl (by kernel_rfl)) rfl ?_
      exact ⟨by first | rfl | (simp [errW_none,errW_some] <;> rfl) | (simp [*,errW_none,errW_some] <;> rfl),by repeat (first | (with_reducible first | exact HB.out | apply below_alloc | apply pw_below_drewN | apply below_drew1 | refine below_set ?_ GE103.out | refine below_set ?_ GE104.out | refine below_set ?_ GE105.out) | exact HB.out)⟩
  · replace c5 := Bool.eq_false_iff.mpr c5
    subst c5
    have H1 : (some (0,0,false)) = some (r1,r2,r3) := by rw [if_neg (show ¬ (false = true) by decide)] at H;exact H
    clear H
    have H := H1
    clear H1
    simp only [Option.some.injEq,Prod.mk.injEq] at H
    obtain ⟨rfl,rfl,rfl⟩ := H
    go_enter Try.func85,Try.ntmps85
    go_wp2_with (first | ((with_reducible refine gate_dst (N := 2) rfl ?_);refine box_event ?hg (N := 2) ?hd (cs := #[.int .i64 a0_0,.int .i64 a0_1]) (t := 87) ?hr ?_;(case hd => rfl);(case hg => rfl);(case hr => first | (go_simp;done) | (go_simp;rfl));intro gb103 hg w25 hbox hb;have n0_ := Aside0.mk (below_step (by repeat (first | (with_reducible first | exact HB.out | apply below_alloc | apply pw_below_drewN | apply below_drew1) | exact HB.out)) hb);have n1_ := Aside0.mk (hbox);have n2_ := Aside0.mk ((by rw [hg];exact (below_size (by repeat (first | (with_reducible first | exact HB.out | apply below_alloc | apply pw_below_drewN | apply below_drew1) | exact HB.out))) : w.heap.size ≤ gb103));have n3_ := Aside0.mk ((by rw [hg];exact (below_size (by repeat (first | (with_reducible first | exact HB.out | apply below_alloc | apply pw_below_drewN | apply below_drew1) | exact HB.out))) : w.heap.size ≤ gb103));clear HB;have HB := n0_;have BK103 := n1_;have GW103 := n2_;have GE103 := n3_;clear n0_ n1_ n2_ n3_;clear hb hbox hg) | ((with_reducible refine gate_dst (N := 3) rfl ?_);refine box_event ?hg (N := 3) ?hd (cs := #[.int .i64 a1_0,.int .i64 a1_1]) (t := 87) ?hr ?_;(case hd => rfl);(case hg => rfl);(case hr => first | (go_simp;done) | (go_simp;rfl));intro gb104 hg w26 hbox hb;have n0_ := Aside0.mk (blk_below (g := gb103) (o := .cells #[.int .i64 a0_0,.int .i64 a0_1] 87 (0,0)) (by refine bP ?_;exact BK103.out) hb);have n1_ := Aside0.mk (below_step (by repeat (first | (with_reducible first | exact HB.out | apply below_alloc | apply pw_below_drewN | apply below_drew1 | refine below_set ?_ GE103.out) | exact HB.out)) hb);have n2_ := Aside0.mk (hbox);have n3_ := Aside0.mk ((by rw [hg];exact (below_size (by repeat (first | (with_reducible first | exact HB.out | apply below_alloc | apply pw_below_drewN | apply below_drew1 | refine below_set ?_ GE103.out) | exact HB.out))) : w.heap.size ≤ gb104));have n4_ := Aside0.mk ((by rw [hg];exact (below_size (by repeat (first | (with_reducible first | exact HB.out | apply below_alloc | apply pw_below_drewN | apply below_drew1 | refine below_set ?_ GE103.out) | exact HB.out))) : w.heap.size ≤ gb104));have n5_ := Aside0.mk ((by rw [hg];exact Nat.ne_of_lt (blk_lt (g := gb103) (o := .cells #[.int .i64 a0_0,.int .i64 a0_1] 87 (0,0)) (by refine bP ?_;exact BK103.out)) : gb103 ≠ gb104));have n6_ := Aside0.mk ((by rw [hg];exact Nat.ne_of_gt (blk_lt (g := gb103) (o := .cells #[.int .i64 a0_0,.int .i64 a0_1] 87 (0,0)) (by refine bP ?_;exact BK103.out)) : gb104 ≠ gb103));clear BK103;clear HB;have BK103 := n0_;have HB := n1_;have BK104 := n2_;have GW104 := n3_;have GE104 := n4_;have NB103_104 := n5_;have NB104_103 := n6_;clear n0_ n1_ n2_ n3_ n4_ n5_ n6_;clear hb hbox hg) | ((with_reducible refine gate_dst (N := 4) rfl ?_);refine box_event ?hg (N := 4) ?hd (cs := #[.int .i64 0,.int .i64 0]) (t := 87) ?hr ?_;(case hd => rfl);(case hg => rfl);(case hr => first | (go_simp;done) | (go_simp;rfl));intro gb105 hg w27 hbox hb;have n0_ := Aside0.mk (blk_below (g := gb103) (o := .cells #[.int .i64 a0_0,.int .i64 a0_1] 87 (0,0)) (by refine bP ?_;exact BK103.out) hb);have n1_ := Aside0.mk (blk_below (g := gb104) (o := .cells #[.int .i64 a1_0,.int .i64 a1_1] 87 (0,0)) (by refine bP ?_;exact BK104.out) hb);have n2_ := Aside0.mk (below_step (by repeat (first | (with_reducible first | exact HB.out | apply below_alloc | apply pw_below_drewN | apply below_drew1 | refine below_set ?_ GE103.out | refine below_set ?_ GE104.out) | exact HB.out)) hb);have n3_ := Aside0.mk (hbox);have n4_ := Aside0.mk ((by rw [hg];exact (below_size (by repeat (first | (with_reducible first | exact HB.out | apply below_alloc | apply pw_below_drewN | apply below_drew1 | refine below_set ?_ GE103.out | refine below_set ?_ GE104.out) | exact HB.out))) : w.heap.size ≤ gb105));have n5_ := Aside0.mk ((by rw [hg];exact (below_size (by repeat (first | (with_reducible first | exact HB.out | apply below_alloc | apply pw_below_drewN | apply below_drew1 | refine below_set ?_ GE103.out | refine below_set ?_ GE104.out) | exact HB.out))) : w.heap.size ≤ gb105));have n6_ := Aside0.mk ((by rw [hg];exact Nat.ne_of_lt (blk_lt (g := gb103) (o := .cells #[.int .i64 a0_0,.int .i64 a0_1] 87 (0,0)) (by refine bP ?_;exact BK103.out)) : gb103 ≠ gb105));have n7_ := Aside0.mk ((by rw [hg];exact Nat.ne_of_gt (blk_lt (g := gb103) (o := .cells #[.int .i64 a0_0,.int .i64 a0_1] 87 (0,0)) (by refine bP ?_;exact BK103.out)) : gb105 ≠ gb103));have n8_ := Aside0.mk ((by rw [hg];exact Nat.ne_of_lt (blk_lt (g := gb104) (o := .cells #[.int .i64 a1_0,.int .i64 a1_1] 87 (0,0)) (by refine bP ?_;exact BK104.out)) : gb104 ≠ gb105));have n9_ := Aside0.mk ((by rw [hg];exact Nat.ne_of_gt (blk_lt (g := gb104) (o := .cells #[.int .i64 a1_0,.int .i64 a1_1] 87 (0,0)) (by refine bP ?_;exact BK104.out)) : gb105 ≠ gb104));clear BK103;clear BK104;clear HB;have BK103 := n0_;have BK104 := n1_;have HB := n2_;have BK105 := n3_;have GW105 := n4_;have GE105 := n5_;have NB103_105 := n6_;have NB105_103 := n7_;have NB104_105 := n8_;have NB105_104 := n9_;clear n0_ n1_ n2_ n3_ n4_ n5_ n6_ n7_ n8_ n9_;clear hb hbox hg;have hnb28 := NB103_104.out;have hnc28 := NB104_103.out;have hnb29 := NB103_105.out;have hnc29 := NB105_103.out;obtain ⟨hcz30_0,hcz30_1,hfz30_0,hfz30_1⟩ := spec_l13Add.cells2 BK103.out;have hnb31 := NB104_105.out;have hnc31 := NB105_104.out;obtain ⟨hcz32_0,hcz32_1,hfz32_0,hfz32_1⟩ := spec_l13Add.cells2 BK104.out) | ((with_reducible refine gate_callee (f := 94) rfl ?_);refine goesL_ (some 15) rfl rfl Try.func94 (by kernel_rfl) rfl #[.int .i64 a0_0,.int .i64 a1_0] rfl (by (try simp only [List.map_toArray,List.map_cons,List.map_nil]);first | done | rfl | (simp only [List.length_drop,List.length_take];rfl)) ?_;(with_reducible refine (spec_AddInt.calls a0_0 a1_0 t106 false _ A3.out).mono ?_);rintro e w' ⟨rfl,⟨nd,rfl⟩⟩;refine ⟨_,rfl,?_⟩;(iterate 4 (try (rw [drewN_self w27];generalize hq_ : World.drewN w27 _ = w27;have n0_ : Aside0 (w27.heap[gb103]? = some (.cells #[.int .i64 a0_0,.int .i64 a0_1] 87 (0,0))) := ⟨by rw [← hq_];exact (by refine bP ?_;exact BK103.out)⟩;have n1_ : Aside0 (w27.heap[gb104]? = some (.cells #[.int .i64 a1_0,.int .i64 a1_1] 87 (0,0))) := ⟨by rw [← hq_];exact (by refine bP ?_;exact BK104.out)⟩;have n2_ : Aside0 (w27.heap[gb105]? = some (.cells #[.int .i64 0,.int .i64 0] 87 (0,0))) := ⟨by rw [← hq_];exact (by refine bP ?_;exact BK105.out)⟩;have n3_ : Aside0 (Below w.heap.size w w27) := ⟨by rw [← hq_];exact (by repeat (first | (with_reducible first | exact HB.out | apply below_alloc | apply pw_below_drewN | apply below_drew1 | refine below_set ?_ GE103.out | refine below_set ?_ GE104.out | refine below_set ?_ GE105.out) | exact HB.out))⟩;clear BK103 BK104 BK105 HB hq_;have BK103 := n0_;have BK104 := n1_;have BK105 := n2_;have HB := n3_;clear n0_ n1_ n2_ n3_)));(try (obtain ⟨hcz30_0,hcz30_1,hfz30_0,hfz30_1⟩ := spec_l13Add.cells2 BK103.out));(try (obtain ⟨hcz32_0,hcz32_1,hfz32_0,hfz32_1⟩ := spec_l13Add.cells2 BK104.out))) | ((with_reducible refine gate_callee (f := 94) rfl ?_);refine goesL_ (some 23) rfl rfl Try.func94 (by kernel_rfl) rfl #[.int .i64 a0_1,.int .i64 a1_1] rfl (by (try simp only [List.map_toArray,List.map_cons,List.map_nil]);first | done | rfl | (simp only [List.length_drop,List.length_take];rfl)) ?_;(with_reducible refine (spec_AddInt.calls a0_1 a1_1 t108 t109 _ A4.out).mono ?_);rintro e w' ⟨rfl,⟨nd,rfl⟩⟩;refine ⟨_,rfl,?_⟩;(iterate 4 (try (rw [drewN_self w27];generalize hq_ : World.drewN w27 _ = w27;have n0_ : Aside0 (w27.heap[gb103]? = some (.cells #[.int .i64 a0_0,.int .i64 a0_1] 87 (0,0))) := ⟨by rw [← hq_];exact (by refine bP ?_;exact BK103.out)⟩;have n1_ : Aside0 (w27.heap[gb104]? = some (.cells #[.int .i64 a1_0,.int .i64 a1_1] 87 (0,0))) := ⟨by rw [← hq_];exact (by refine bP ?_;exact BK104.out)⟩;have n2_ : Aside0 (w27.heap[gb105]? = some (.cells #[.int .i64 0,.int .i64 0] 87 (0,0))) := ⟨by rw [← hq_];exact (by refine bP ?_;exact BK105.out)⟩;have n3_ : Aside0 (Below w.heap.size w w27) := ⟨by rw [← hq_];exact (by repeat (first | (with_reducible first | exact HB.out | apply below_alloc | apply pw_below_drewN | apply below_drew1 | refine below_set ?_ GE103.out | refine below_set ?_ GE104.out | refine below_set ?_ GE105.out) | exact HB.out))⟩;clear BK103 BK104 BK105 HB hq_;have BK103 := n0_;have BK104 := n1_;have BK105 := n2_;have HB := n3_;clear n0_ n1_ n2_ n3_)));(try (obtain ⟨hcz30_0,hcz30_1,hfz30_0,hfz30_1⟩ := spec_l13Add.cells2 BK103.out));(try (obtain ⟨hcz32_0,hcz32_1,hfz32_0,hfz32_1⟩ := spec_l13Add.cells2 BK104.out));obtain ⟨hcz33_0,hcz33_1,hfz33_0,hfz33_1⟩ := spec_l13Add.cells2 BK105.out))
    refine bodyPost_ret (results_ct rfl _ _ gb105 87 #[.int .i64 0,.int .i64 0] (0,0) _ rfl (by refine bP ?_;refine blk_put (cs := #[.int .i64 0,.int .i64 0]) ?_ 1 _ rfl;refine bP ?_;refine blk_put (cs := #[.int .i64 0,.int .i64 0]) ?_ 0 _ rfl;refine bP ?_;exact BK105.out) Try.underlying87 rfl (by kernel_rfl)) rfl ?_
    exact ⟨by first | rfl | (simp [errW_none,errW_some] <;> rfl) | (simp [*,errW_none,errW_some] <;> rfl),by repeat (first | (with_reducible first | exact HB.out | apply below_alloc | apply pw_below_drewN | apply below_drew1 | refine below_set ?_ GE103.out | refine below_set ?_ GE104.out | refine below_set ?_ GE105.out) | exact HB.out)⟩

end Go.Proofs.Ytiacoiiapmfaeaa.QFnExactCandsOf
