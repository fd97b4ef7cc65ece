/- The machine side of FnGrid: what each Go function that it reaches comes to. Conditions: none. -/
import Derived.Test.YtlflcgdcegohjabShelfB
import Derived.Test.YtlflcgdcegohjabQFnGridx0
import Derived.Test.YtlflcgdcegohjabQFnGridx1
import Derived.Test.YtlflcgdcegohjabQFnGridx5
namespace Go.Proofs.Ytlflcgdcegohjab.QFnGrid
open Go.RowKit Go.Proofs.YtlflcgdcegohjabW.PrintWords Go.Proofs.YtlflcgdcegohjabW.PrintLast Go.Proofs.YtlflcgdcegohjabW.PrintMore
attribute [local go_sem] max2_int min2_int max_two min_two max_three min_three max_four min_four   -- for this text's walks alone
set_option linter.unusedVariables false
set_option linter.unusedSimpArgs false

/-! ### impl_CutsOk: function 31 -/
def impl_CutsOk.l0 : Nat → List Int → Int → Option (Bool)
 | 0,_,_ => none
 | k + 1,x0,x3 => if x3 < (x0.length : Int) then (if 0 ≤ (wrap64 (x3 - 1)) then (if (wrap64 (x3 - 1)) < (x0.length : Int) then (if 0 ≤ x3 then (if (rd x0 (wrap64 (x3 - 1))) ≥ (rd x0 x3) then (some false) else (impl_CutsOk.l0 k x0 (wrap64 (x3 + 1)))) else (none)) else (none)) else (none)) else (if (x0.length : Int) ≤ 7 then ((impl_areDecimals.f k x0).bind fun t603 => (some t603)) else (some false))
def impl_CutsOk.f (k : Nat) (l0 : List Int) : Option (Bool) := impl_CutsOk.l0 k l0 1
theorem impl_CutsOk.mono_l : ∀ k,(∀ y0 y1,LeO (impl_CutsOk.l0 k y0 y1) (impl_CutsOk.l0 (k + 1) y0 y1))
 | 0 => fun _ _ r h => by simp [impl_CutsOk.l0] at h
 | k + 1 => by
  have ih0 := impl_CutsOk.mono_l k
  ·intro y0 y1
   unfold impl_CutsOk.l0
   repeat' first
   | (with_reducible exact ih0 _ _)
   | (with_reducible exact impl_areDecimals.mono _ _)
   | (with_reducible exact LeO.refl _)
   | (with_reducible exact LeO.none _)
   | (with_reducible refine LeO.ite ?_ ?_)
   | (with_reducible refine LeO.bind ?_ (fun _ => ?_))
   | exact ih0 _ _
   | exact impl_areDecimals.mono _ _
   | exact LeO.none _
   | refine LeO.ite ?_ ?_
   | refine LeO.bind ?_ (fun _ => ?_)
theorem impl_CutsOk.mono : ∀ a0 k,LeO (impl_CutsOk.f k a0) (impl_CutsOk.f (k + 1) a0) := by
 intro a0 k
 have ih0 := impl_CutsOk.mono_l k
 unfold impl_CutsOk.f
 repeat' first
   | (with_reducible exact ih0 _ _)
   | (with_reducible exact impl_areDecimals.mono _ _)
   | (with_reducible exact LeO.refl _)
   | (with_reducible exact LeO.none _)
   | (with_reducible refine LeO.ite ?_ ?_)
   | (with_reducible refine LeO.bind ?_ (fun _ => ?_))
   | exact ih0 _ _
   | exact impl_areDecimals.mono _ _
   | exact LeO.none _
   | refine LeO.ite ?_ ?_
   | refine LeO.bind ?_ (fun _ => ?_)
set_option maxHeartbeats 8000000 in
set_option maxRecDepth 100000 in
theorem impl_CutsOk.calls (k : Nat) (A0 : Option Addr) (c0 : Nat) (l0 : List Int) (r : Bool) (w : World) (hr0 : Kd.C (Kd.int .i64) w A0 l0.length l0) (hc0 : l0.length ≤ c0) (h : impl_CutsOk.f k l0 = some r) :
  Calls Try.prog 31 #[.slice A0 l0.length c0] w fun e w' => e = .returned (.bool r) ∧ Drawn0 w w' := by
 have HR0 := Aside0.mk hr0
 have HC0 := Aside0.mk hc0
 clear hr0 hc0
 have H := h
 clear h
 unfold impl_CutsOk.f at H
 have H' := Aside0.mk H
 clear H
 go_enter Try.func31,Try.ntmps31
 go_wp2
 repeat (go_quiet (fail);try go_wp2)
 go_loopg [3] k (fun kq v3 w' => ∃ (x3_1 : Int),v3 = .int .i64 x3_1 ∧ Aside0 (impl_CutsOk.l0 kq l0 x3_1 = some r) ∧ Aside0 (kq ≤ k) ∧ Drawn0 w w')
 case atStart => exact ⟨(1),Z230,H',⟨Nat.le_refl _⟩,Z224⟩
 case round =>
  clear H'
  obtain ⟨x3_1,rfl,HA,HK1,⟨m1,rfl⟩⟩ := hrel
  cases gk with
  | zero => exact absurd HA.out (by simp [impl_CutsOk.l0])
  | succ k1 =>
   have H := HA.out
   clear HA
   simp only [impl_CutsOk.l0] at H
   by_cases c2 : x3_1 < (l0.length : Int)
   rotate_left
   ·rw [if_neg c2] at H
    have c2b0 : decide (x3_1 < (l0.length : Int)) = false := decide_eq_false c2
    clear c2
    by_cases c8 : (l0.length : Int) ≤ 7
    rotate_left
    ·rw [if_neg c8] at H
     have c8b0 : decide ((l0.length : Int) ≤ 7) = false := decide_eq_false c8
     have c8b1 : decide (l0.length ≤ 7) = false := decide_eq_false Z331
     clear c8
     obtain rfl := Option.some.inj H
     go_wp2
     repeat (go_quiet (fail);try go_wp2)
     go_ret
     exact ⟨Z230,Z224⟩
    rw [if_pos c8] at H
    have c8b0 : decide ((l0.length : Int) ≤ 7) = true := decide_eq_true c8
    have c8b1 : decide (l0.length ≤ 7) = true := decide_eq_true Z331
    clear c8
    obtain ⟨t603,A90,H⟩ := Option.bind_eq_some_iff.mp H
    have A9 := Aside0.mk A90
    clear A90
    obtain rfl := Option.some.inj H
    go_wp2_with (first | (go_at_call 42;(with_reducible refine (impl_areDecimals.calls k1 _ _ l0 t603 _ ?side1 ?side2 A9.out).mono ?_);(case side1 => exact Z141);(case side2 => exact Z254);rintro e w' ⟨rfl,⟨nd,rfl⟩⟩;(try first | exact ⟨rfl,_,dD⟩ | exact ⟨rfl,_,dT⟩)))
    repeat (go_quiet (first | (go_at_call 42;(with_reducible refine (impl_areDecimals.calls k1 _ _ l0 t603 _ ?side1 ?side2 A9.out).mono ?_);(case side1 => exact Z141);(case side2 => exact Z254);rintro e w' ⟨rfl,⟨nd,rfl⟩⟩;(try first | exact ⟨rfl,_,dD⟩ | exact ⟨rfl,_,dT⟩)));try go_wp2_with (first | (go_at_call 42;(with_reducible refine (impl_areDecimals.calls k1 _ _ l0 t603 _ ?side1 ?side2 A9.out).mono ?_);(case side1 => exact Z141);(case side2 => exact Z254);rintro e w' ⟨rfl,⟨nd,rfl⟩⟩;(try first | exact ⟨rfl,_,dD⟩ | exact ⟨rfl,_,dT⟩))))
    go_ret
    exact ⟨Z230,Z224⟩
   rw [if_pos c2] at H
   have c2b0 : decide (x3_1 < (l0.length : Int)) = true := decide_eq_true c2
   clear c2
   obtain ⟨ji3,hji3⟩ : ∃ j_ : Int,(wrap64 (x3_1 - 1)) = j_ := ⟨_,rfl⟩
   replace H : (if 0 ≤ (ji3) then (if (ji3) < (l0.length : Int) then (if 0 ≤ x3_1 then (if (rd l0 (ji3)) ≥ (rd l0 x3_1) then (some false) else (impl_CutsOk.l0 k1 l0 (wrap64 (x3_1 + 1)))) else (none)) else (none)) else (none)) = some r := by first | (rw [hji3] at H;exact H) | (simp only [hji3] at H ⊢;exact H)
   have hji3w : (IntKind.i64.wrap (x3_1 - 1)) = ji3 := (i64_w _).trans hji3
   obtain ⟨c4,H⟩ := ifp H
   have c4b0 : decide (0 ≤ (ji3)) = true := decide_eq_true c4
   clear c4
   obtain ⟨c5,H⟩ := ifp H
   have c5b0 : decide ((ji3) < (l0.length : Int)) = true := decide_eq_true c5
   clear c5
   obtain ⟨c6,H⟩ := ifp H
   have c6b0 : decide (0 ≤ x3_1) = true := decide_eq_true c6
   clear c6
   by_cases c7 : (rd l0 (ji3)) ≥ (rd l0 x3_1)
   ·rw [if_pos c7] at H
    have c7b0 : decide ((rd l0 x3_1) ≤ (rd l0 (ji3))) = true := decide_eq_true c7
    clear c7
    obtain rfl := Option.some.inj H
    have p601 : 0 ≤ ((ji3) : Int) := of_decide_eq_true Z229
    have q601 : (ji3) < (l0.length : Int) := of_decide_eq_true Z229
    obtain ⟨ad601,e601,hx601_0⟩ := Kd.at_int HR0.out (ji3) p601 q601
    cases e601
    replace p601 := eq_true p601
    replace q601 := eq_true q601
    have p602 : 0 ≤ (x3_1 : Int) := of_decide_eq_true Z229
    have q602 : x3_1 < (l0.length : Int) := of_decide_eq_true Z229
    obtain ⟨ad602,e602,hx602_0⟩ := Kd.at_int HR0.out x3_1 p602 q602
    obtain rfl : ad601 = ad602 := (by injection e602)
    replace p602 := eq_true p602
    replace q602 := eq_true q602
    go_wp2
    repeat (go_quiet (fail);try go_wp2)
    go_ret
    exact ⟨by first | rfl | (simp;done) | (simp only [← hji3] <;> (first | rfl | simp)) | (simp [*];done),Z224⟩
   rw [if_neg c7] at H
   have c7b0 : decide ((rd l0 x3_1) ≤ (rd l0 (ji3))) = false := decide_eq_false c7
   clear c7
   have H' := Aside0.mk H
   clear H
   have p601 : 0 ≤ ((ji3) : Int) := of_decide_eq_true Z229
   have q601 : (ji3) < (l0.length : Int) := of_decide_eq_true Z229
   obtain ⟨ad601,e601,hx601_0⟩ := Kd.at_int HR0.out (ji3) p601 q601
   cases e601
   replace p601 := eq_true p601
   replace q601 := eq_true q601
   have p602 : 0 ≤ (x3_1 : Int) := of_decide_eq_true Z229
   have q602 : x3_1 < (l0.length : Int) := of_decide_eq_true Z229
   obtain ⟨ad602,e602,hx602_0⟩ := Kd.at_int HR0.out x3_1 p602 q602
   obtain rfl : ad601 = ad602 := (by injection e602)
   replace p602 := eq_true p602
   replace q602 := eq_true q602
   go_wp2
   repeat (go_quiet (fail);try go_wp2)
   go_roundg k1
   case measure => have := HK1.out;omega
   case rel => exact ⟨(wrap64 (x3_1 + 1)),Z230,H',⟨Z251⟩,Z224⟩

/-! ### impl_GridOk_1: function 33 -/
def impl_GridOk_1.f (l0 : List Int) (l1 : List Int) : Option (Bool) := some (l0.any fun b => !decide (0 ≤ b ∧ b ≤ (l1.length : Int)))
theorem impl_GridOk_1.in_ (b : Int) (n : Int) : impl_within.f b 0 n = some (decide (0 ≤ b ∧ b ≤ n)) := by
 unfold impl_within.f
 by_cases h : b ≥ 0
 rotate_left
 ·rw [if_neg h]
  congr 1
  simp
  omega
 rw [if_pos h]
 congr 1
 by_cases h2 : b ≤ n <;> simp [h2] <;> omega
set_option maxHeartbeats 2000000 in
theorem impl_GridOk_1.at_ (g : Nat) (A1 : Option Addr) (c1 : Nat) (l1 : List Int) (w : World) (hx : w.cell? ⟨g,0,none⟩ = some (.slice A1 l1.length c1)) (b : Int) (q : Bool) (hq : impl_within.f b 0 (l1.length : Int) = some q) :
  Calls Try.prog 33 #[.int .i64 b,.pointer (some ⟨g,0,none⟩)] w fun e w' => e = .returned (.bool (!q)) ∧ Drawn0 w w' := by
 have A2 := Aside0.mk hq
 clear hq
 go_enter Try.func33,Try.ntmps33
 go_wp2_with (first | ((with_reducible refine gate_callee (f := 18) rfl ?_);refine goesL_ (some 7) rfl rfl Try.func18 Z256 rfl #[.int .i64 b,.int .i64 0,.int .i64 (l1.length : Int)] rfl Z315 ?_;(with_reducible refine (impl_within.calls b 0 (l1.length : Int) q _ A2.out).mono ?_);rintro e w' ⟨rfl,⟨nd,rfl⟩⟩;refine ⟨_,rfl,?_⟩))
 go_ret
 exact ⟨Z230,Z224⟩
theorem impl_GridOk_1.calls (A0 : Option Addr) (c0 : Nat) (l0 : List Int) (g : Nat) (A1 : Option Addr) (c1 : Nat) (l1 : List Int) (r : Bool) (w : World) (hr0 : Kd.C (Kd.int .i64) w A0 l0.length l0) (hc0 : l0.length ≤ c0) (hx : w.cell? ⟨g,0,none⟩ = some (.slice A1 l1.length c1)) (h : impl_GridOk_1.f l0 l1 = some r) :
  Calls Try.prog 32 #[.slice A0 l0.length c0,.func (.func 33) #[] #[.pointer (some ⟨g,0,none⟩)]] w fun e w' => e = .returned (.bool r) ∧ Below w.heap.size w w' := by
 unfold impl_GridOk_1.f at h
 obtain rfl := Option.some.inj h
 obtain ⟨_,hn,hc'⟩ := hr0
 rcases Nat.eq_zero_or_pos l0.length with h0 | h0
 ·obtain rfl := List.length_eq_zero_iff.mp h0
  exact (Try.slices_ContainsFunc_empty_f32 (α := Int) A0 c0 _ w).mono fun e w' ⟨he,hw⟩ => ⟨he,hw ▸ Below.refl _ _⟩
 obtain ⟨⟨b,off,f⟩,rfl,hc⟩ := hc' h0
 clear hc'
 have hk : ∀ j,j < l0.length → w.cell? (if j = 0 then ⟨b,off,f⟩ else ⟨b,off + j,none⟩) = some (.int .i64 (l0.getD j 0)) := by
  intro j hj
  obtain ⟨c,_,hcr,hcell⟩ := hc j _ (List.getElem?_eq_getElem hj)
  have hcr : c = [Value.int .i64 l0[j]] := hcr
  have := hcell 0 (.int .i64 l0[j]) (by rw [hcr];rfl)
  simpa [Kd.int,Kd.scalar,Addr.add,List.getD,List.getElem?_eq_getElem hj] using this
 obtain rfl : f = none := by
  have := hk 0 h0
  cases f with
  | none => rfl
  | some _ =>
   simp only [if_true,World.cell?,Option.isSome_some] at this
   split at this <;> simp at this
 have hk : ∀ j,j < l0.length → w.cell? ⟨b,off + j,none⟩ = some (.int .i64 l0[j]!) := by
  intro j hj
  have := hk j hj
  rw [getElem!_pos l0 j hj]
  rw [List.getD,List.getElem?_eq_getElem hj] at this
  by_cases e : j = 0
  rotate_left
  ·rwa [if_neg e] at this
  subst e;simpa using this
 have hp : PredAt Try.prog 33 #[.pointer (some ⟨g,0,none⟩)] (Value.int .i64) (fun b => !decide (0 ≤ b ∧ b ≤ (l1.length : Int))) w := by
  intro W x hb
  have hx' := (hb.cell (World.block_lt_of_cell? _ _ hx)).trans hx
  exact (impl_GridOk_1.at_ g A1 c1 l1 W hx' x _ (impl_GridOk_1.in_ x _)).mono fun e w' ⟨he,hd⟩ => ⟨he,hd.out⟩
 refine (Try.slices_ContainsFunc_f32 (Value.int .i64) _ 33 _ (fun args w => enters_ Try.func33 Z256 rfl args w) b off l0.length c0 l0 w hp (Nat.le_refl _) hn hk).mono fun e w' ⟨he,q,hw⟩ => ?_
 rw [List.take_length] at he
 refine ⟨he,?_⟩
 rw [hw]
 exact pw_below_drewN (Below.refl _ _) q

end Go.Proofs.Ytlflcgdcegohjab.QFnGrid
