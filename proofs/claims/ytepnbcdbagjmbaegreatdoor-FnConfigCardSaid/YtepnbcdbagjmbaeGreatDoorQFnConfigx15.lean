/- The machine side of FnConfig: what each Go function that it reaches comes to. Conditions: none. -/
import Derived.Test.YtepnbcdbagjmbaeGreatDoorQFnConfigx0
import Derived.Test.YtepnbcdbagjmbaeGreatDoorQFnConfigx7
import Derived.Test.YtepnbcdbagjmbaeGreatDoorQFnConfigx13
import Derived.Test.YtepnbcdbagjmbaeGreatDoorQFnConfigx14
namespace Go.Proofs.YtepnbcdbagjmbaeGreatDoor.QFnConfig
open Go.RowKit Go.Proofs.YtepnbcdbagjmbaeGreatDoorW.PrintWords Go.Proofs.YtepnbcdbagjmbaeGreatDoorW.PrintLast Go.Proofs.YtepnbcdbagjmbaeGreatDoorW.PrintMore
attribute [local go_sem] max2_int min2_int max_two min_two max_three min_three max_four min_four   -- for this text's walks alone
set_option linter.unusedVariables false
set_option linter.unusedSimpArgs false

/-! ### spec_l8Rate: function 57 -/
def spec_l8Rate.j0 : Nat → Int → Int → Bool → Option (Int × Int × Int)
 | 0,_,_,_ => none
 | k + 1,x6,x8,x34 => if x34 = true then (some (0,0,12)) else ((spec_l1In.f x6 1 1000).bind fun t551 => (if t551 = true then ((spec_l1In.f x8 1 1000).bind fun t552 => (if t552 = true then (if x6 > x8 then (some (0,0,13)) else (some (x6,x8,0))) else (some (0,0,13)))) else (some (0,0,13))))
def spec_l8Rate.f (k : Nat) (a0 : ByteArray) : Option (Int × Int × Int) := (spec_Parts.f k a0 47).bind fun t542 => (if (t542.length : Int) = 2 then (if 0 < (t542.length : Int) then ((spec_Number.f k (rdOf ByteArray.empty t542 0)).bind fun bt546 => (if 1 < (t542.length : Int) then ((spec_Number.f k (rdOf ByteArray.empty t542 1)).bind fun bt549 => (if bt546.2 = true then (spec_l8Rate.j0 k bt546.1 bt549.1 (!bt549.2)) else (spec_l8Rate.j0 k bt546.1 bt549.1 true))) else (none))) else (none)) else (some (0,0,12)))
theorem spec_l8Rate.mono_l : ∀ k,(∀ y0 y1 y2,LeO (spec_l8Rate.j0 k y0 y1 y2) (spec_l8Rate.j0 (k + 1) y0 y1 y2))
 | 0 => fun _ _ _ r h => by simp [spec_l8Rate.j0] at h
 | k + 1 => by
  have ih0 := spec_l8Rate.mono_l k
  ·intro y0 y1 y2
   unfold spec_l8Rate.j0
   repeat' first
   | (with_reducible exact ih0 _ _ _)
   | (with_reducible exact spec_Number.mono _ _)
   | (with_reducible exact spec_Parts.mono _ _ _)
   | (with_reducible exact LeO.refl _)
   | (with_reducible exact LeO.none _)
   | (with_reducible refine LeO.ite ?_ ?_)
   | (with_reducible refine LeO.bind ?_ (fun _ => ?_))
   | exact ih0 _ _ _
   | exact spec_Number.mono _ _
   | exact spec_Parts.mono _ _ _
   | exact LeO.none _
   | refine LeO.ite ?_ ?_
   | refine LeO.bind ?_ (fun _ => ?_)
theorem spec_l8Rate.mono : ∀ a0 k,LeO (spec_l8Rate.f k a0) (spec_l8Rate.f (k + 1) a0) := by
 intro a0 k
 have ih0 := spec_l8Rate.mono_l k
 unfold spec_l8Rate.f
 repeat' first
   | (with_reducible exact ih0 _ _ _)
   | (with_reducible exact spec_Number.mono _ _)
   | (with_reducible exact spec_Parts.mono _ _ _)
   | (with_reducible exact LeO.refl _)
   | (with_reducible exact LeO.none _)
   | (with_reducible refine LeO.ite ?_ ?_)
   | (with_reducible refine LeO.bind ?_ (fun _ => ?_))
   | exact ih0 _ _ _
   | exact spec_Number.mono _ _
   | exact spec_Parts.mono _ _ _
   | exact LeO.none _
   | refine LeO.ite ?_ ?_
   | refine LeO.bind ?_ (fun _ => ?_)
set_option maxHeartbeats 8000000 in
set_option maxRecDepth 100000 in
theorem spec_l8Rate.calls (k : Nat) (a0 : ByteArray) (r1 : Int) (r2 : Int) (r3 : Int) (w : World) (h : spec_l8Rate.f k a0 = some (r1,r2,r3)) :
  Calls Tryz.prog 57 #[.string a0] w fun e w' => e = .returned (.tuple #[.int .i64 r1,.int .i64 r2,.int .i64 r3]) ∧ Below w.heap.size w w' := by
 have HB := Aside0.mk (Below.refl w.heap.size w)
 have H := h
 clear h
 unfold spec_l8Rate.f at H
 obtain ⟨t542,A20,H⟩ := Option.bind_eq_some_iff.mp H
 have A2 := Aside0.mk A20
 clear A20
 by_cases c3 : (t542.length : Int) = 2
 rotate_left
 ·rw [if_neg c3] at H
  have c3b0 : ((t542.length : Int) == 2) = false := beq_eq_false_iff_ne.mpr c3
  have c3b1 : ((t542.length : Int) != 2) = true := bne_iff_ne.mpr c3
  simp only [Option.some.injEq,Prod.mk.injEq] at H
  obtain ⟨rfl,rfl,rfl⟩ := H
  go_enter Tryz.func57,Tryz.ntmps57
  go_wp2_with (first | ((with_reducible refine gate_callee (f := 35) rfl ?_);refine goesL_ (some 11) rfl rfl Tryz.func35 Z190 rfl #[.string a0,.int .u8 47] rfl Z130 ?_;(with_reducible refine (spec_Parts.calls k a0 47 t542 _ A2.out).mono ?_);rintro e wq1 ⟨vq2,rfl,hoq3,hb⟩;refine ⟨_,rfl,?_⟩;have n_ := Z56;clear HB;obtain ⟨HO544,HB⟩ := n_;(try clear hb);(try clear hb2);(try clear hk);(try clear hi);(try clear hoq3);obtain ⟨Aoq4,coq4,eoq4⟩ := Kd.R_slice HO544.out;subst eoq4))
  go_ret3
  exact ⟨Z152,Z298⟩
 rw [if_pos c3] at H
 have c3b0 : ((t542.length : Int) == 2) = true := beq_iff_eq.mpr c3
 have c3b1 : ((t542.length : Int) != 2) = false := bne_eq_false_iff_eq.mpr c3
 clear c3
 obtain ⟨c4,H⟩ := ifp H
 have c4b0 : decide (0 < (t542.length : Int)) = true := decide_eq_true c4
 have c4b1 : decide (0 < t542.length) = true := decide_eq_true Z285
 clear c4
 obtain ⟨⟨t546,t547⟩,A50,H⟩ := Option.bind_eq_some_iff.mp H
 try dsimp only at H
 have A5 := Aside0.mk A50
 clear A50
 obtain ⟨c6,H⟩ := ifp H
 have c6b0 : decide (1 < (t542.length : Int)) = true := decide_eq_true c6
 have c6b1 : decide (1 < t542.length) = true := decide_eq_true Z285
 clear c6
 obtain ⟨⟨t549,t550⟩,A70,H⟩ := Option.bind_eq_some_iff.mp H
 try dsimp only at H
 have A7 := Aside0.mk A70
 clear A70
 have HC8 := Aside0.mk H
 clear H
 go_enter Tryz.func57,Tryz.ntmps57
 go_upto_region 6 with (first | ((with_reducible refine gate_callee (f := 35) rfl ?_);refine goesL_ (some 11) rfl rfl Tryz.func35 Z190 rfl #[.string a0,.int .u8 47] rfl Z130 ?_;(with_reducible refine (spec_Parts.calls k a0 47 t542 _ A2.out).mono ?_);rintro e w9 ⟨v543,rfl,ho0,hb⟩;refine ⟨_,rfl,?_⟩;have n_ := Z58;clear HB;obtain ⟨HO544,HB⟩ := n_;(try clear hb);(try clear hb2);(try clear hk);(try clear hi);(try clear ho0);obtain ⟨Ao10,co10,eo10⟩ := Kd.R_slice HO544.out;subst eo10;have p545 : 0 ≤ (0 : Int) := Z285;have q545 : 0 < (t542.length : Int) := of_decide_eq_true Z164;obtain ⟨ad545,e545,hx545_0⟩ := Kd.at_string (Kd.R_reads' HO544.out).2.2 0 p545 q545;cases e545;have qi545 : (0 < t542.length) = True := eq_true Z285;(try rw [show ((0 : Int)).toNat = 0 from rfl] at hx545_0);(try rw [Addr.add_zero'] at hx545_0);replace p545 := eq_true p545;replace q545 := eq_true q545) | ((with_reducible refine gate_callee (f := 58) rfl ?_);refine goesL_ (some 19) rfl rfl Tryz.func58 Z190 rfl #[.string (rdOf ByteArray.empty t542 0)] rfl Z130 ?_;(with_reducible refine (spec_Number.calls k (rdOf ByteArray.empty t542 0) t546 t547 _ A5.out).mono ?_);rintro e w11 ⟨rfl,hb⟩;refine ⟨_,rfl,?_⟩;have n_ := Z61;clear HO544 HB;obtain ⟨HO544,HB⟩ := n_;(try clear hb);(try clear hb2);(try clear hk);(try clear hi);have p548 : 0 ≤ (1 : Int) := Z285;have q548 : 1 < (t542.length : Int) := of_decide_eq_true Z164;obtain ⟨ad548,e548,hx548_0⟩ := Kd.at_string (Kd.R_reads' HO544.out).2.2 1 p548 q548;obtain rfl : ad545 = ad548 := (by injection e548);(try simp only [show (1 : Int).toNat = 1 from rfl,Nat.reduceMul,Nat.reduceEqDiff,Go.Addr.add,↓reduceIte] at hx548_0);have qi548 : (1 < t542.length) = True := eq_true Z285;(try rw [show ((1 : Int)).toNat = 1 from rfl] at hx548_0);replace p548 := eq_true p548;replace q548 := eq_true q548) | ((with_reducible refine gate_callee (f := 58) rfl ?_);refine goesL_ (some 26) rfl rfl Tryz.func58 Z190 rfl #[.string (rdOf ByteArray.empty t542 1)] rfl Z130 ?_;(with_reducible refine (spec_Number.calls k (rdOf ByteArray.empty t542 1) t549 t550 _ A7.out).mono ?_);rintro e w12 ⟨rfl,hb⟩;refine ⟨_,rfl,?_⟩;have n_ := Z61;clear HO544 HB;obtain ⟨HO544,HB⟩ := n_;(try clear hb);(try clear hb2);(try clear hk);(try clear hi)))
 (try simp only [Act.put,List.setIfInBounds_toArray,List.set_cons_zero,List.set_cons_succ])
 go_cut [34] (fun v34 wc => ∃ (kq : Nat) (x34_7 : Bool),v34 = .bool x34_7 ∧ Aside0 (spec_l8Rate.j0 kq t546 t549 x34_7 = some (r1,r2,r3)) ∧ Aside0 (kq ≤ k) ∧ Aside0 (Below w.heap.size w wc))
 case first =>
  have H := HC8.out
  clear HC8
  by_cases c13 : t547 = true
  ·subst c13
   rw [if_pos rfl] at H
   have H' := Aside0.mk H
   clear H
   go_wp2
   go_meet
   case rel => exact ⟨_,(!t550),Z165,H',⟨Z169⟩,⟨Z298⟩⟩
  replace c13 := Bool.eq_false_iff.mpr c13
  subst c13
  rw [if_neg Bool.false_ne_true] at H
  have H' := Aside0.mk H
  clear H
  go_wp2
  go_meet
  case rel => exact ⟨_,(true),Z165,H',⟨Z169⟩,⟨Z298⟩⟩
 case rest =>
  clear HC8
  try clear c1
  try clear p2
  try clear c3
  try clear c3b0
  try clear c3b1
  try clear c4
  try clear c4b0
  try clear c4b1
  try clear c5
  try clear p5
  try clear q5
  try clear hx5
  try clear qi5
  try clear c6
  try clear c6b0
  try clear c6b1
  try clear c13
  try clear hx545_0
  try clear hx548_0
  try clear p545
  try clear p548
  try clear q545
  try clear q548
  obtain ⟨kq,x34_7,rfl,HA,HJ7,HB⟩ := hcut
  cases kq with
  | zero => exact absurd HA.out (by simp [spec_l8Rate.j0])
  | succ kj7 =>
   have H := HA.out
   clear HA
   simp only [spec_l8Rate.j0] at H
   by_cases c14 : x34_7 = true
   ·subst c14
    rw [if_pos rfl] at H
    simp only [Option.some.injEq,Prod.mk.injEq] at H
    obtain ⟨rfl,rfl,rfl⟩ := H
    go_wp2
    go_ret3
    exact ⟨Z152,Z298⟩
   replace c14 := Bool.eq_false_iff.mpr c14
   subst c14
   rw [if_neg Bool.false_ne_true] at H
   obtain ⟨t551,A150,H⟩ := Option.bind_eq_some_iff.mp H
   have A15 := Aside0.mk A150
   clear A150
   by_cases c16 : t551 = true
   rotate_left
   ·replace c16 := Bool.eq_false_iff.mpr c16
    subst c16
    rw [if_neg Bool.false_ne_true] at H
    simp only [Option.some.injEq,Prod.mk.injEq] at H
    obtain ⟨rfl,rfl,rfl⟩ := H
    go_wp2_with (first | ((with_reducible refine gate_callee (f := 40) rfl ?_);refine goesL_ (some 36) rfl rfl Tryz.func40 Z190 rfl #[.int .i64 t546,.int .i64 1,.int .i64 1000] rfl Z130 ?_;(with_reducible refine (spec_l1In.calls t546 1 1000 false _ A15.out).mono ?_);rintro e w' ⟨rfl,⟨nd,rfl⟩⟩;refine ⟨_,rfl,?_⟩))
    go_ret3
    exact ⟨Z152,Z298⟩
   subst c16
   rw [if_pos rfl] at H
   obtain ⟨t552,A170,H⟩ := Option.bind_eq_some_iff.mp H
   have A17 := Aside0.mk A170
   clear A170
   by_cases c18 : t552 = true
   rotate_left
   ·replace c18 := Bool.eq_false_iff.mpr c18
    subst c18
    rw [if_neg Bool.false_ne_true] at H
    simp only [Option.some.injEq,Prod.mk.injEq] at H
    obtain ⟨rfl,rfl,rfl⟩ := H
    go_wp2_with (first | ((with_reducible refine gate_callee (f := 40) rfl ?_);refine goesL_ (some 36) rfl rfl Tryz.func40 Z190 rfl #[.int .i64 t546,.int .i64 1,.int .i64 1000] rfl Z130 ?_;(with_reducible refine (spec_l1In.calls t546 1 1000 true _ A15.out).mono ?_);rintro e w' ⟨rfl,⟨nd,rfl⟩⟩;refine ⟨_,rfl,?_⟩) | (go_at_call 40;(with_reducible refine (spec_l1In.calls t549 1 1000 false _ A17.out).mono ?_);rintro e w' ⟨rfl,⟨nd,rfl⟩⟩))
    go_ret3
    exact ⟨Z152,Z298⟩
   subst c18
   rw [if_pos rfl] at H
   by_cases c19 : t546 > t549
   ·rw [if_pos c19] at H
    have c19b0 : decide (t549 < t546) = true := decide_eq_true c19
    clear c19
    simp only [Option.some.injEq,Prod.mk.injEq] at H
    obtain ⟨rfl,rfl,rfl⟩ := H
    go_wp2_with (first | ((with_reducible refine gate_callee (f := 40) rfl ?_);refine goesL_ (some 36) rfl rfl Tryz.func40 Z190 rfl #[.int .i64 t546,.int .i64 1,.int .i64 1000] rfl Z130 ?_;(with_reducible refine (spec_l1In.calls t546 1 1000 true _ A15.out).mono ?_);rintro e w' ⟨rfl,⟨nd,rfl⟩⟩;refine ⟨_,rfl,?_⟩) | (go_at_call 40;(with_reducible refine (spec_l1In.calls t549 1 1000 true _ A17.out).mono ?_);rintro e w' ⟨rfl,⟨nd,rfl⟩⟩))
    go_ret3
    exact ⟨Z152,Z298⟩
   rw [if_neg c19] at H
   have c19b0 : decide (t549 < t546) = false := decide_eq_false c19
   clear c19
   simp only [Option.some.injEq,Prod.mk.injEq] at H
   obtain ⟨rfl,rfl,rfl⟩ := H
   go_wp2_with (first | ((with_reducible refine gate_callee (f := 40) rfl ?_);refine goesL_ (some 36) rfl rfl Tryz.func40 Z190 rfl #[.int .i64 t546,.int .i64 1,.int .i64 1000] rfl Z130 ?_;(with_reducible refine (spec_l1In.calls t546 1 1000 true _ A15.out).mono ?_);rintro e w' ⟨rfl,⟨nd,rfl⟩⟩;refine ⟨_,rfl,?_⟩) | (go_at_call 40;(with_reducible refine (spec_l1In.calls t549 1 1000 true _ A17.out).mono ?_);rintro e w' ⟨rfl,⟨nd,rfl⟩⟩))
   go_ret3
   exact ⟨Z152,Z298⟩

end Go.Proofs.YtepnbcdbagjmbaeGreatDoor.QFnConfig
