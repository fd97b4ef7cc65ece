/- The machine side of FnExactReadTable: what each Go function that it reaches comes to. Conditions: none. -/
import Derived.Test.YtepnbcdbagjmbaaDoorQFnExactReadTablex0
import Derived.Test.YtepnbcdbagjmbaaDoorQFnExactReadTablex8
import Derived.Test.YtepnbcdbagjmbaaDoorQFnExactReadTablex10
namespace Go.Proofs.YtepnbcdbagjmbaaDoor.QFnExactReadTable
open Go.RowKit Go.Proofs.YtepnbcdbagjmbaaDoorW.PrintWords Go.Proofs.YtepnbcdbagjmbaaDoorW.PrintLast Go.Proofs.YtepnbcdbagjmbaaDoorW.PrintMore
attribute [local go_sem] max2_int min2_int max_two min_two max_three min_three max_four min_four   -- for this text's walks alone
set_option linter.unusedVariables false
set_option linter.unusedSimpArgs false

/-! ### impl_csvReader_after: function 38 -/
def impl_csvReader_after.f (s0_0 : ByteArray) (s0_1 : Int) : Option (Int × ByteArray × Int) := if 0 ≤ s0_1 then (if s0_1 ≤ (s0_0.size : Int) then (if (s0_0.extract (s0_1 : Int).toNat s0_0.size).toList = ([] : List UInt8) then (some (2,s0_0,s0_1)) else (if 0 < ((s0_0.extract (s0_1 : Int).toNat s0_0.size).size : Int) then (if (bt (s0_0.extract (s0_1 : Int).toNat s0_0.size) 0) = 44 then (some (1,s0_0,wrap64 (s0_1 + 1))) else (if (bt (s0_0.extract (s0_1 : Int).toNat s0_0.size) 0) = 10 then (some (2,s0_0,wrap64 (s0_1 + 1))) else ((strings_HasPrefix.f (s0_0.extract (s0_1 : Int).toNat s0_0.size) (⟨#[13,10]⟩ : ByteArray)).bind fun t252 => (if t252 = true then (some (2,s0_0,wrap64 (s0_1 + 2))) else (some (3,s0_0,s0_1)))))) else (none))) else (none)) else (none)
set_option maxHeartbeats 8000000 in
set_option maxRecDepth 100000 in
theorem impl_csvReader_after.calls (g : Nat) (s0_0 : ByteArray) (s0_1 : Int) (r1 : Int) (r2 : ByteArray) (r3 : Int) (w0 w : World) (hI : IsS59 w0 w g s0_0 s0_1) (hB : Below w0.heap.size w0 w) (h : impl_csvReader_after.f s0_0 s0_1 = some (r1,r2,r3)) :
  Calls Tryd.prog 38 #[.pointer (some ⟨g,0,none⟩)] w fun e w' => e = .returned (.int .i64 r1) ∧ IsS59 w0 w' g r2 r3 ∧ Below w0.heap.size w0 w' ∧ KeepBut w w' g none := by
 have HI0 := Aside0.mk hI
 have HK := Aside0.mk (KeepBut.refl w g none)
 have HL := Aside0.mk hB.size
 clear hI
 have HW0 := Aside0.mk hB.size
 have HB := Aside0.mk hB
 clear hB
 have H := h
 clear h
 unfold impl_csvReader_after.f at H
 obtain ⟨c2,H⟩ := ifp H
 have c2b0 := eq_true c2
 have c2b1 : decide (0 ≤ s0_1) = true := decide_eq_true c2
 clear c2
 obtain ⟨c3,H⟩ := ifp H
 have c3b0 := eq_true c3
 have c3b1 : decide (s0_1 ≤ (s0_0.size : Int)) = true := decide_eq_true c3
 clear c3
 obtain ⟨sx, hsx⟩ : ∃ sx : ByteArray, s0_0.extract (s0_1 : Int).toNat s0_0.size = sx := ⟨_, rfl⟩
 rw [hsx] at H
 by_cases c4 : sx.toList = ([] : List UInt8)
 ·rw [if_pos c4] at H
  have c4b0 : (sx.toList == ([] : List UInt8)) = true := beq_iff_eq.mpr c4
  have c4b1 : (sx.toList != ([] : List UInt8)) = false := bne_eq_false_iff_eq.mpr c4
  clear c4
  simp only [Option.some.injEq,Prod.mk.injEq] at H
  obtain ⟨rfl,rfl,rfl⟩ := H
  obtain ⟨HGz5,hgz5⟩ := HI0.out
  have hcz5_0 := cellS59_0 HGz5
  have hcz5_1 := cellS59_1 HGz5
  have hfz5_0 := blk_frozen HGz5 0
  have hfz5_1 := blk_frozen HGz5 1
  clear HGz5 hgz5
  go_enter Tryd.func38,Tryd.ntmps38
  go_wp2
  repeat (go_quiet (fail);try go_wp2)
  go_ret
  exact ⟨Z218,Z142,Z139,Z300⟩
 rw [if_neg c4] at H
 have c4b0 : (sx.toList == ([] : List UInt8)) = false := beq_eq_false_iff_ne.mpr c4
 have c4b1 : (sx.toList != ([] : List UInt8)) = true := bne_iff_ne.mpr c4
 obtain ⟨c6,H⟩ := ifp H
 have c6b0 : decide (0 < (sx.size : Int)) = true := decide_eq_true c6
 have c6b1 : decide (0 < sx.size) = true := decide_eq_true Z254
 clear c6
 by_cases c8 : (bt sx 0) = 44
 ·rw [if_pos c8] at H
  have c8b0 : ((bt sx 0) == 44) = true := beq_iff_eq.mpr c8
  have c8b1 : ((bt sx 0) != 44) = false := bne_eq_false_iff_eq.mpr c8
  clear c8
  simp only [Option.some.injEq,Prod.mk.injEq] at H
  obtain ⟨rfl,rfl,rfl⟩ := H
  obtain ⟨HGz9,hgz9⟩ := HI0.out
  have hcz9_0 := cellS59_0 HGz9
  have hcz9_1 := cellS59_1 HGz9
  have hfz9_0 := blk_frozen HGz9 0
  have hfz9_1 := blk_frozen HGz9 1
  clear HGz9 hgz9
  have p7 : 0 ≤ (0 : Int) := Z254
  have q7 : 0 < sx.size := (by have : (0 : Int) < (sx.size : Int) := of_decide_eq_true Z330;omega)
  have hx7 : ∀ h : 0 < sx.size,((sx[0]'h).toNat : Int) = bt sx 0 := bt_at sx 0
  clear p7
  have qi7 : (0 < (sx.size : Int)) = True := eq_true (of_decide_eq_true Z330)
  replace q7 := eq_true q7
  go_enter Tryd.func38,Tryd.ntmps38
  go_wp2
  repeat (go_quiet (fail);try go_wp2)
  go_ret
  exact ⟨Z218,Z142,Z139,Z300⟩
 rw [if_neg c8] at H
 have c8b0 : ((bt sx 0) == 44) = false := beq_eq_false_iff_ne.mpr c8
 have c8b1 : ((bt sx 0) != 44) = true := bne_iff_ne.mpr c8
 by_cases c11 : (bt sx 0) = 10
 ·rw [if_pos c11] at H
  have c11b0 : ((bt sx 0) == 10) = true := beq_iff_eq.mpr c11
  have c11b1 : ((bt sx 0) != 10) = false := bne_eq_false_iff_eq.mpr c11
  clear c11
  simp only [Option.some.injEq,Prod.mk.injEq] at H
  obtain ⟨rfl,rfl,rfl⟩ := H
  obtain ⟨HGz12,hgz12⟩ := HI0.out
  have hcz12_0 := cellS59_0 HGz12
  have hcz12_1 := cellS59_1 HGz12
  have hfz12_0 := blk_frozen HGz12 0
  have hfz12_1 := blk_frozen HGz12 1
  clear HGz12 hgz12
  have p7 : 0 ≤ (0 : Int) := Z254
  have q7 : 0 < sx.size := (by have : (0 : Int) < (sx.size : Int) := of_decide_eq_true Z330;omega)
  have hx7 : ∀ h : 0 < sx.size,((sx[0]'h).toNat : Int) = bt sx 0 := bt_at sx 0
  clear p7
  have qi7 : (0 < (sx.size : Int)) = True := eq_true (of_decide_eq_true Z330)
  replace q7 := eq_true q7
  have p10 : 0 ≤ (0 : Int) := Z254
  have q10 : 0 < sx.size := (by have : (0 : Int) < (sx.size : Int) := of_decide_eq_true Z330;omega)
  have hx10 : ∀ h : 0 < sx.size,((sx[0]'h).toNat : Int) = bt sx 0 := bt_at sx 0
  clear p10
  have qi10 : (0 < (sx.size : Int)) = True := eq_true (of_decide_eq_true Z330)
  replace q10 := eq_true q10
  go_enter Tryd.func38,Tryd.ntmps38
  go_wp2
  repeat (go_quiet (fail);try go_wp2)
  go_ret
  exact ⟨Z218,Z142,Z139,Z300⟩
 rw [if_neg c11] at H
 have c11b0 : ((bt sx 0) == 10) = false := beq_eq_false_iff_ne.mpr c11
 have c11b1 : ((bt sx 0) != 10) = true := bne_iff_ne.mpr c11
 obtain ⟨t252,A130,H⟩ := Option.bind_eq_some_iff.mp H
 have A13 := Aside0.mk A130
 clear A130
 by_cases c14 : t252 = true
 ·subst c14
  rw [if_pos rfl] at H
  simp only [Option.some.injEq,Prod.mk.injEq] at H
  obtain ⟨rfl,rfl,rfl⟩ := H
  obtain ⟨HGz15,hgz15⟩ := HI0.out
  have hcz15_0 := cellS59_0 HGz15
  have hcz15_1 := cellS59_1 HGz15
  have hfz15_0 := blk_frozen HGz15 0
  have hfz15_1 := blk_frozen HGz15 1
  clear HGz15 hgz15
  have p7 : 0 ≤ (0 : Int) := Z254
  have q7 : 0 < sx.size := (by have : (0 : Int) < (sx.size : Int) := of_decide_eq_true Z330;omega)
  have hx7 : ∀ h : 0 < sx.size,((sx[0]'h).toNat : Int) = bt sx 0 := bt_at sx 0
  clear p7
  have qi7 : (0 < (sx.size : Int)) = True := eq_true (of_decide_eq_true Z330)
  replace q7 := eq_true q7
  have p10 : 0 ≤ (0 : Int) := Z254
  have q10 : 0 < sx.size := (by have : (0 : Int) < (sx.size : Int) := of_decide_eq_true Z330;omega)
  have hx10 : ∀ h : 0 < sx.size,((sx[0]'h).toNat : Int) = bt sx 0 := bt_at sx 0
  clear p10
  have qi10 : (0 < (sx.size : Int)) = True := eq_true (of_decide_eq_true Z330)
  replace q10 := eq_true q10
  go_enter Tryd.func38,Tryd.ntmps38
  go_wp2_with (first | (go_at_call 44;(with_reducible refine (strings_HasPrefix.calls sx (⟨#[13,10]⟩ : ByteArray) true _ A13.out).mono ?_);rintro e w' ⟨rfl,⟨nd,rfl⟩⟩;(try first | exact ⟨rfl,_,dD⟩ | exact ⟨rfl,_,dT⟩)))
  repeat (go_quiet (first | (go_at_call 44;(with_reducible refine (strings_HasPrefix.calls sx (⟨#[13,10]⟩ : ByteArray) true _ A13.out).mono ?_);rintro e w' ⟨rfl,⟨nd,rfl⟩⟩;(try first | exact ⟨rfl,_,dD⟩ | exact ⟨rfl,_,dT⟩)));try go_wp2_with (first | (go_at_call 44;(with_reducible refine (strings_HasPrefix.calls sx (⟨#[13,10]⟩ : ByteArray) true _ A13.out).mono ?_);rintro e w' ⟨rfl,⟨nd,rfl⟩⟩;(try first | exact ⟨rfl,_,dD⟩ | exact ⟨rfl,_,dT⟩))))
  go_ret
  exact ⟨Z218,Z142,Z139,Z300⟩
 replace c14 := Bool.eq_false_iff.mpr c14
 subst c14
 rw [if_neg Bool.false_ne_true] at H
 simp only [Option.some.injEq,Prod.mk.injEq] at H
 obtain ⟨rfl,rfl,rfl⟩ := H
 obtain ⟨HGz16,hgz16⟩ := HI0.out
 have hcz16_0 := cellS59_0 HGz16
 have hcz16_1 := cellS59_1 HGz16
 have hfz16_0 := blk_frozen HGz16 0
 have hfz16_1 := blk_frozen HGz16 1
 clear HGz16 hgz16
 have p7 : 0 ≤ (0 : Int) := Z254
 have q7 : 0 < sx.size := (by have : (0 : Int) < (sx.size : Int) := of_decide_eq_true Z330;omega)
 have hx7 : ∀ h : 0 < sx.size,((sx[0]'h).toNat : Int) = bt sx 0 := bt_at sx 0
 clear p7
 have qi7 : (0 < (sx.size : Int)) = True := eq_true (of_decide_eq_true Z330)
 replace q7 := eq_true q7
 have p10 : 0 ≤ (0 : Int) := Z254
 have q10 : 0 < sx.size := (by have : (0 : Int) < (sx.size : Int) := of_decide_eq_true Z330;omega)
 have hx10 : ∀ h : 0 < sx.size,((sx[0]'h).toNat : Int) = bt sx 0 := bt_at sx 0
 clear p10
 have qi10 : (0 < (sx.size : Int)) = True := eq_true (of_decide_eq_true Z330)
 replace q10 := eq_true q10
 go_enter Tryd.func38,Tryd.ntmps38
 go_wp2_with (first | (go_at_call 44;(with_reducible refine (strings_HasPrefix.calls sx (⟨#[13,10]⟩ : ByteArray) false _ A13.out).mono ?_);rintro e w' ⟨rfl,⟨nd,rfl⟩⟩;(try first | exact ⟨rfl,_,dD⟩ | exact ⟨rfl,_,dT⟩)))
 repeat (go_quiet (first | (go_at_call 44;(with_reducible refine (strings_HasPrefix.calls sx (⟨#[13,10]⟩ : ByteArray) false _ A13.out).mono ?_);rintro e w' ⟨rfl,⟨nd,rfl⟩⟩;(try first | exact ⟨rfl,_,dD⟩ | exact ⟨rfl,_,dT⟩)));try go_wp2_with (first | (go_at_call 44;(with_reducible refine (strings_HasPrefix.calls sx (⟨#[13,10]⟩ : ByteArray) false _ A13.out).mono ?_);rintro e w' ⟨rfl,⟨nd,rfl⟩⟩;(try first | exact ⟨rfl,_,dD⟩ | exact ⟨rfl,_,dT⟩))))
 go_ret
 exact ⟨Z218,Z142,Z139,Z300⟩

/-! ### impl_ReadCsv: function 14 -/
mutual
def impl_ReadCsv.l0 : Nat → ByteArray → List (List ByteArray) → List ByteArray → ByteArray → Int → Option ((List (List ByteArray)) × Int × Int × Int)
 | 0,_,_,_,_,_ => none
 | k + 1,x0,x5,x6,x255000,x255001 => if x255001 < (x0.size : Int) then (impl_ReadCsv.j1 k x0 x5 x6 true x255000 x255001) else (impl_ReadCsv.j1 k x0 x5 x6 (decide ((x6.length : Int) > 0)) x255000 x255001)
def impl_ReadCsv.j1 : Nat → ByteArray → List (List ByteArray) → List ByteArray → Bool → ByteArray → Int → Option ((List (List ByteArray)) × Int × Int × Int)
 | 0,_,_,_,_,_,_ => none
 | k + 1,x0,x5,x6,x30,x255000,x255001 => if x30 = true then (if x255001 < (x0.size : Int) then (if 0 ≤ x255001 then (impl_ReadCsv.j2 k x0 x5 x6 true ((bt x0 x255001) == 34) x255000 x255001) else (none)) else (impl_ReadCsv.j2 k x0 x5 x6 true false x255000 x255001)) else (some (x5,0,0,0))
def impl_ReadCsv.j2 : Nat → ByteArray → List (List ByteArray) → List ByteArray → Bool → Bool → ByteArray → Int → Option ((List (List ByteArray)) × Int × Int × Int)
 | 0,_,_,_,_,_,_,_ => none
 | k + 1,x0,x5,x6,x8,x46,x255000,x255001 => if x46 = true then ((impl_csvReader_quoted.f k x255000 x255001).bind fun bt261 => (impl_ReadCsv.j3 k x0 x5 x6 bt261.1 bt261.2.1 bt261.2.2.1 bt261.2.2.2)) else ((impl_csvReader_plain.f x255000 x255001).bind fun bt265 => (impl_ReadCsv.j3 k x0 x5 x6 bt265.1 x8 bt265.2.1 bt265.2.2))
def impl_ReadCsv.j3 : Nat → ByteArray → List (List ByteArray) → List ByteArray → ByteArray → Bool → ByteArray → Int → Option ((List (List ByteArray)) × Int × Int × Int)
 | 0,_,_,_,_,_,_,_ => none
 | k + 1,x0,x5,x6,x7,x8,x255000,x255001 => if x8 = true then (if x6.length < 8796093022208 then ((some (x6 ++ [x7] : List ByteArray)).bind fun y269 => ((impl_csvReader_after.f x255000 x255001).bind fun bt272 => (if bt272.1 = 3 then (some (([] : List (List ByteArray)),2,(x5.length : Int),(x6.length : Int))) else (if bt272.1 = 2 then (if x5.length < 5864062014805 then (impl_ReadCsv.l0 k x0 (x5 ++ [y269]) ([] : List ByteArray) bt272.2.1 bt272.2.2) else (none)) else (impl_ReadCsv.l0 k x0 x5 y269 bt272.2.1 bt272.2.2))))) else (none)) else (some (([] : List (List ByteArray)),2,(x5.length : Int),(x6.length : Int)))
end
def impl_ReadCsv.f (k : Nat) (a0 : ByteArray) : Option ((List (List ByteArray)) × Int × Int × Int) := if (a0.size : Int) > 4000 then (some (([] : List (List ByteArray)),1,0,0)) else (impl_ReadCsv.l0 k a0 (([] : List (List ByteArray))) (([] : List ByteArray)) a0 0)
theorem impl_ReadCsv.mono_l : ∀ k,(∀ y0 y1 y2 y3 y4,LeO (impl_ReadCsv.l0 k y0 y1 y2 y3 y4) (impl_ReadCsv.l0 (k + 1) y0 y1 y2 y3 y4)) ∧ (∀ y0 y1 y2 y3 y4 y5,LeO (impl_ReadCsv.j1 k y0 y1 y2 y3 y4 y5) (impl_ReadCsv.j1 (k + 1) y0 y1 y2 y3 y4 y5)) ∧ (∀ y0 y1 y2 y3 y4 y5 y6,LeO (impl_ReadCsv.j2 k y0 y1 y2 y3 y4 y5 y6) (impl_ReadCsv.j2 (k + 1) y0 y1 y2 y3 y4 y5 y6)) ∧ (∀ y0 y1 y2 y3 y4 y5 y6,LeO (impl_ReadCsv.j3 k y0 y1 y2 y3 y4 y5 y6) (impl_ReadCsv.j3 (k + 1) y0 y1 y2 y3 y4 y5 y6))
 | 0 => ⟨fun _ _ _ _ _ r h => by simp [impl_ReadCsv.l0] at h,fun _ _ _ _ _ _ r h => by simp [impl_ReadCsv.j1] at h,fun _ _ _ _ _ _ _ r h => by simp [impl_ReadCsv.j2] at h,fun _ _ _ _ _ _ _ r h => by simp [impl_ReadCsv.j3] at h⟩
 | k + 1 => by
  obtain ⟨ih0,ih1,ih2,ih3⟩ := impl_ReadCsv.mono_l k
  refine ⟨?_,?_,?_,?_⟩
  ·intro y0 y1 y2 y3 y4
   unfold impl_ReadCsv.l0
   repeat' first
   | (with_reducible exact ih0 _ _ _ _ _)
   | (with_reducible exact ih1 _ _ _ _ _ _)
   | (with_reducible exact ih2 _ _ _ _ _ _ _)
   | (with_reducible exact ih3 _ _ _ _ _ _ _)
   | (with_reducible exact impl_csvReader_quoted.mono _ _ _)
   | (with_reducible exact LeO.refl _)
   | (with_reducible exact LeO.none _)
   | (with_reducible refine LeO.ite ?_ ?_)
   | (with_reducible refine LeO.bind ?_ (fun _ => ?_))
   | exact ih0 _ _ _ _ _
   | exact ih1 _ _ _ _ _ _
   | exact ih2 _ _ _ _ _ _ _
   | exact ih3 _ _ _ _ _ _ _
   | exact impl_csvReader_quoted.mono _ _ _
   | exact LeO.none _
   | refine LeO.ite ?_ ?_
   | refine LeO.bind ?_ (fun _ => ?_)
  ·intro y0 y1 y2 y3 y4 y5
   unfold impl_ReadCsv.j1
   repeat' first
   | (with_reducible exact ih0 _ _ _ _ _)
   | (with_reducible exact ih1 _ _ _ _ _ _)
   | (with_reducible exact ih2 _ _ _ _ _ _ _)
   | (with_reducible exact ih3 _ _ _ _ _ _ _)
   | (with_reducible exact impl_csvReader_quoted.mono _ _ _)
   | (with_reducible exact LeO.refl _)
   | (with_reducible exact LeO.none _)
   | (with_reducible refine LeO.ite ?_ ?_)
   | (with_reducible refine LeO.bind ?_ (fun _ => ?_))
   | exact ih0 _ _ _ _ _
   | exact ih1 _ _ _ _ _ _
   | exact ih2 _ _ _ _ _ _ _
   | exact ih3 _ _ _ _ _ _ _
   | exact impl_csvReader_quoted.mono _ _ _
   | exact LeO.none _
   | refine LeO.ite ?_ ?_
   | refine LeO.bind ?_ (fun _ => ?_)
  ·intro y0 y1 y2 y3 y4 y5 y6
   unfold impl_ReadCsv.j2
   repeat' first
   | (with_reducible exact ih0 _ _ _ _ _)
   | (with_reducible exact ih1 _ _ _ _ _ _)
   | (with_reducible exact ih2 _ _ _ _ _ _ _)
   | (with_reducible exact ih3 _ _ _ _ _ _ _)
   | (with_reducible exact impl_csvReader_quoted.mono _ _ _)
   | (with_reducible exact LeO.refl _)
   | (with_reducible exact LeO.none _)
   | (with_reducible refine LeO.ite ?_ ?_)
   | (with_reducible refine LeO.bind ?_ (fun _ => ?_))
   | exact ih0 _ _ _ _ _
   | exact ih1 _ _ _ _ _ _
   | exact ih2 _ _ _ _ _ _ _
   | exact ih3 _ _ _ _ _ _ _
   | exact impl_csvReader_quoted.mono _ _ _
   | exact LeO.none _
   | refine LeO.ite ?_ ?_
   | refine LeO.bind ?_ (fun _ => ?_)
  ·intro y0 y1 y2 y3 y4 y5 y6
   unfold impl_ReadCsv.j3
   repeat' first
   | (with_reducible exact ih0 _ _ _ _ _)
   | (with_reducible exact ih1 _ _ _ _ _ _)
   | (with_reducible exact ih2 _ _ _ _ _ _ _)
   | (with_reducible exact ih3 _ _ _ _ _ _ _)
   | (with_reducible exact impl_csvReader_quoted.mono _ _ _)
   | (with_reducible exact LeO.refl _)
   | (with_reducible exact LeO.none _)
   | (with_reducible refine LeO.ite ?_ ?_)
   | (with_reducible refine LeO.bind ?_ (fun _ => ?_))
   | exact ih0 _ _ _ _ _
   | exact ih1 _ _ _ _ _ _
   | exact ih2 _ _ _ _ _ _ _
   | exact ih3 _ _ _ _ _ _ _
   | exact impl_csvReader_quoted.mono _ _ _
   | exact LeO.none _
   | refine LeO.ite ?_ ?_
   | refine LeO.bind ?_ (fun _ => ?_)
theorem impl_ReadCsv.mono : ∀ a0 k,LeO (impl_ReadCsv.f k a0) (impl_ReadCsv.f (k + 1) a0) := by
 intro a0 k
 obtain ⟨ih0,ih1,ih2,ih3⟩ := impl_ReadCsv.mono_l k
 unfold impl_ReadCsv.f
 repeat' first
   | (with_reducible exact ih0 _ _ _ _ _)
   | (with_reducible exact ih1 _ _ _ _ _ _)
   | (with_reducible exact ih2 _ _ _ _ _ _ _)
   | (with_reducible exact ih3 _ _ _ _ _ _ _)
   | (with_reducible exact impl_csvReader_quoted.mono _ _ _)
   | (with_reducible exact LeO.refl _)
   | (with_reducible exact LeO.none _)
   | (with_reducible refine LeO.ite ?_ ?_)
   | (with_reducible refine LeO.bind ?_ (fun _ => ?_))
   | exact ih0 _ _ _ _ _
   | exact ih1 _ _ _ _ _ _
   | exact ih2 _ _ _ _ _ _ _
   | exact ih3 _ _ _ _ _ _ _
   | exact impl_csvReader_quoted.mono _ _ _
   | exact LeO.none _
   | refine LeO.ite ?_ ?_
   | refine LeO.bind ?_ (fun _ => ?_)
set_option maxHeartbeats 8000000 in
set_option maxRecDepth 100000 in
theorem impl_ReadCsv.calls (k : Nat) (a0 : ByteArray) (r1 : List (List ByteArray)) (r2 : Int) (r3 : Int) (r4 : Int) (w : World) (h : impl_ReadCsv.f k a0 = some (r1,r2,r3,r4)) :
  Calls Tryd.prog 14 #[.string a0] w fun e w' => ∃ v0_ : Value,e = .returned (.tuple #[v0_,.agg #[.int .i64 r2,.int .i64 r3,.int .i64 r4]]) ∧ Kd.S (Kd.slice 9 Kd.string) 22 w' w.heap.size (fun _ => True) v0_ r1 ∧ Below w.heap.size w w' := by
 have hu28 := Tryd.underlying28
 have hu59 := Tryd.underlying59
 have HB := Aside0.mk (Below.refl w.heap.size w)
 have H := h
 clear h
 unfold impl_ReadCsv.f at H
 by_cases c2 : (a0.size : Int) > 4000
 ·rw [if_pos c2] at H
  have c2b0 : decide (4000 < (a0.size : Int)) = true := decide_eq_true c2
  have c2b1 : decide (4000 < a0.size) = true := decide_eq_true Z254
  clear c2
  simp only [Option.some.injEq,Prod.mk.injEq] at H
  obtain ⟨rfl,rfl,rfl,rfl⟩ := H
  go_enter Tryd.func14,Tryd.ntmps14
  go_wp2_with (first | ((with_reducible refine gate_dst (N := 3) rfl ?_);(try (refine gate_guard Z255 ?_;dsimp only));refine bE 3 #[.int .i64 0,.int .i64 0,.int .i64 0] 28 (h := ?_);intro gb253 hg wq1 hbox hb;have n_ := Z49;clear HB;obtain ⟨HB,BK253,GW253,GE253⟩ := n_;clear hb hbox hg;obtain ⟨hczq2_0,hczq2_1,hczq2_2,hfzq2_0,hfzq2_1,hfzq2_2⟩ := cells3 BK253.out))
  refine bodyPost_ret (results_tc rfl _ _ gb253 28 #[.int .i64 1,.int .i64 0,.int .i64 0] (0,0) _ rfl (by refine bP ?_;refine blk_put (cs := #[.int .i64 1,.int .i64 0,.int .i64 0]) ?_ 2 _ rfl;refine bP ?_;refine blk_put (cs := #[.int .i64 1,.int .i64 0,.int .i64 0]) ?_ 1 _ rfl;refine bP ?_;refine blk_put (cs := #[.int .i64 0,.int .i64 0,.int .i64 0]) ?_ 0 _ rfl;refine bP ?_;exact BK253.out) Tryd.underlying28 rfl Z253) rfl ?_
  exact ⟨_,Z218,Z170,Z298⟩
 rw [if_neg c2] at H
 have c2b0 : decide (4000 < (a0.size : Int)) = false := decide_eq_false c2
 have c2b1 : decide (4000 < a0.size) = false := decide_eq_false Z254
 clear c2
 obtain ⟨y255,hyy⟩ : ∃ y_ : List (List ByteArray),y_ = (([] : List (List ByteArray))) := ⟨_,rfl⟩
 replace H : (impl_ReadCsv.l0 k a0 y255 (([] : List ByteArray)) a0 0) = some (r1,r2,r3,r4) := zR
 have Ny255 := Aside0.mk hyy
 clear hyy
 obtain ⟨y258,hyy⟩ : ∃ y_ : List ByteArray,y_ = (([] : List ByteArray)) := ⟨_,rfl⟩
 replace H : (impl_ReadCsv.l0 k a0 y255 y258 a0 0) = some (r1,r2,r3,r4) := zR
 have Ny258 := Aside0.mk hyy
 clear hyy
 have H' := Aside0.mk H
 clear H
 go_enter Tryd.func14,Tryd.ntmps14
 go_wp2_with (first | ((with_reducible refine gate_dst (N := 3) rfl ?_);(try (refine gate_guard Z255 ?_;dsimp only));refine bE 3 #[.int .i64 0,.int .i64 0,.int .i64 0] 28 (h := ?_);intro gb253 hg w5 hbox hb;have n_ := Z49;clear HB;obtain ⟨HB,BK253,GW253,GE253⟩ := n_;clear hb hbox hg) | ((with_reducible refine gate_dst (N := 16) rfl ?_);(try (refine gate_guard Z255 ?_;dsimp only));refine bE 16 #[.string a0,.int .i64 0] 59 (h := ?_);intro gb254 hg w6 hbox hb;have n_ := jA (blk_below (g := gb253) (o := .cells #[.int .i64 0,.int .i64 0,.int .i64 0] 28 (0,0)) Z335 hb) (jA (below_step Z298 hb) (jA ((Z120 : w.heap.size ≤ gb254)) (jA ((Z120 : w.heap.size ≤ gb254)) (jA ((by rw [hg];exact Nat.ne_of_lt (blk_lt (g := gb253) (o := .cells #[.int .i64 0,.int .i64 0,.int .i64 0] 28 (0,0)) Z335) : gb253 ≠ gb254)) (jA ((by rw [hg];exact Nat.ne_of_gt (blk_lt (g := gb253) (o := .cells #[.int .i64 0,.int .i64 0,.int .i64 0] 28 (0,0)) Z335) : gb254 ≠ gb253)) (Aside0.mk ((show IsS59 w _ gb254 a0 0 from ⟨hbox,Z120⟩))))))));clear BK253 HB;obtain ⟨BK253,HB,GW254,GE254,NB253_254,NB254_253,HI254⟩ := n_;clear hb hbox hg) | ((with_reducible refine gate_dst (N := 17) rfl ?_);(try (refine gate_guard Z255 ?_;dsimp only));refine Kd.S_lit (Kd.slice 9 Kd.string) _ 22 ?hg (N := 17) ?hd (xs := ([] : List (List ByteArray))) (inner := []) (ok := fun _ => True) (okp := fun _ => True) ?hr ?hp (fun _ hk => hk) trivial (Below.refl _ _) (Nat.le_refl _) Z342 ?_;(case hd => rfl);(case hg => rfl);(case hr => exact Z239);(case hp => exact Z249);intro v256 w7 ho8 hb hg_ hnew_;clear hg_ hnew_;(first | rw [← Ny255.out] at ho8 | (simp only [Int.reduceToNat] at ho8;rw [← Ny255.out] at ho8));have n_ := jA (Kd.S_lower ho8 (below_size Z343)) (jA (blk_below (g := gb253) (o := .cells #[.int .i64 0,.int .i64 0,.int .i64 0] 28 (0,0)) Z335 hb) (jA (IsS59.below Z273 hb) (Aside0.mk (below_step Z343 hb))));clear BK253 HI254 HB;obtain ⟨HO257,BK253,HI254,HB⟩ := n_;clear hb ho8) | ((with_reducible refine gate_dst (N := 18) rfl ?_);(try (refine gate_guard Z255 ?_;dsimp only));refine Kd.R_lit Kd.string _ 9 ?hg (N := 18) ?hd (xs := ([] : List ByteArray)) (inner := []) (ok := fun _ => True) (okp := fun _ => True) ?hr ?hp (fun _ hk => hk) trivial (Below.refl _ _) (Nat.le_refl _) Z342 ?_;(case hd => rfl);(case hg => rfl);(case hr => exact Z239);(case hp => exact Z249);intro v259 w9 ho10 hb hg_ hnew_;clear hg_ hnew_;(first | rw [← Ny258.out] at ho10 | (simp only [Int.reduceToNat] at ho10;rw [← Ny258.out] at ho10));have n_ := jA (Kd.S_elder' (by (with_reducible repeat (first | apply Kd.S_alloc | apply Kd.S_drewN | apply Kd.S_drew));exact HO257.out) (Kd.R_base ho10) hb) (jA (Kd.R_lower ho10 (below_size Z343)) (jA (blk_below (g := gb253) (o := .cells #[.int .i64 0,.int .i64 0,.int .i64 0] 28 (0,0)) Z335 hb) (jA (IsS59.below Z273 hb) (Aside0.mk (below_step Z343 hb)))));clear HO257 BK253 HI254 HB;obtain ⟨HO257,HO260,BK253,HI254,HB⟩ := n_;clear hb ho10))
 go_loopg [5,6] k (fun kq v5 v6 w' => ∃ (x5_1 : List (List ByteArray)) (x6_1 : List ByteArray) (x254000_1 : Int) (x254001_1 : Int) (x254002_1 : Int) (x255000_1 : ByteArray) (x255001_1 : Int),Aside0 (impl_ReadCsv.l0 kq a0 x5_1 x6_1 x255000_1 x255001_1 = some (r1,r2,r3,r4)) ∧ Aside0 (kq ≤ k) ∧ Aside0 (Kd.S (Kd.slice 9 Kd.string) 22 w' w.heap.size (fun k_ => some k_ ≠ (v6 : Value).ownBlock) v5 x5_1) ∧ Aside0 (Kd.R Kd.string 9 w' w.heap.size (fun _ => True) v6 x6_1) ∧ Aside0 (w'.heap[gb253]? = some (.cells #[.int .i64 x254000_1,.int .i64 x254001_1,.int .i64 x254002_1] 28 (0,0))) ∧ Aside0 (IsS59 w w' gb254 x255000_1 x255001_1) ∧ Aside0 (Below w.heap.size w w'))
 case atStart => exact ⟨(y255),(y258),(0),(0),(0),(a0),(0),H',⟨Nat.le_refl _⟩,⟨by (with_reducible repeat (first | apply Kd.S_alloc | apply Kd.S_drewN | apply Kd.S_drew));exact Kd.S_mono HO257.out (fun _ hk => hk.2)⟩,⟨by (with_reducible repeat (first | apply Kd.R_alloc | apply Kd.R_drewN | apply Kd.R_drew));exact HO260.out⟩,⟨Z335⟩,⟨Z273⟩,⟨Z343⟩⟩
 case round =>
  clear H'
  try clear c1
  try clear c2
  try clear c2b0
  try clear c2b1
  try clear p2
  obtain ⟨x5_1,x6_1,x254000_1,x254001_1,x254002_1,x255000_1,x255001_1,HA,HK1,HO_5,HO_6,BK253,HI254,HB⟩ := hrel
  cases gk with
  | zero => exact absurd HA.out (by simp [impl_ReadCsv.l0])
  | succ k1 =>
   have H := HA.out
   clear HA
   simp only [impl_ReadCsv.l0] at H
   have HC11 := Aside0.mk H
   clear H
   go_upto_region 4 with (fail)
   go_cut [30] (fun v30 wc => ∃ (kq : Nat) (x30_10 : Bool),v30 = .bool x30_10 ∧ Aside0 (impl_ReadCsv.j1 kq a0 x5_1 x6_1 x30_10 x255000_1 x255001_1 = some (r1,r2,r3,r4)) ∧ Aside0 (kq ≤ k1) ∧ Aside0 (Kd.S (Kd.slice 9 Kd.string) 22 wc w.heap.size (fun k_ => some k_ ≠ (u6 : Value).ownBlock) u5 x5_1) ∧ Aside0 (Kd.R Kd.string 9 wc w.heap.size (fun _ => True) u6 x6_1) ∧ Aside0 (wc.heap[gb253]? = some (.cells #[.int .i64 x254000_1,.int .i64 x254001_1,.int .i64 x254002_1] 28 (0,0))) ∧ Aside0 (IsS59 w wc gb254 x255000_1 x255001_1) ∧ Aside0 (Below w.heap.size w wc))
   case first =>
    have H := HC11.out
    clear HC11
    by_cases c12 : x255001_1 < (a0.size : Int)
    ·rw [if_pos c12] at H
     have c12b0 : decide (x255001_1 < (a0.size : Int)) = true := decide_eq_true c12
     clear c12
     (first | rw [c12b0] | (simp only [i64_w,i32_w];rw [c12b0]) | skip)
     have H' := Aside0.mk H
     clear H
     obtain ⟨HGz13,hgz13⟩ := HI254.out
     have hcz13_0 := cellS59_0 HGz13
     have hcz13_1 := cellS59_1 HGz13
     have hfz13_0 := blk_frozen HGz13 0
     have hfz13_1 := blk_frozen HGz13 1
     clear HGz13 hgz13
     go_wp2
     go_meet
     case rel => exact ⟨_,(true),Z238,H',⟨Z235⟩,⟨Z323⟩,⟨Z322⟩,⟨Z335⟩,⟨Z273⟩,⟨Z343⟩⟩
    rw [if_neg c12] at H
    have c12b0 : decide (x255001_1 < (a0.size : Int)) = false := decide_eq_false c12
    clear c12
    (first | rw [c12b0] | (simp only [i64_w,i32_w];rw [c12b0]) | skip)
    have H' := Aside0.mk H
    clear H
    obtain ⟨HGz14,hgz14⟩ := HI254.out
    have hcz14_0 := cellS59_0 HGz14
    have hcz14_1 := cellS59_1 HGz14
    have hfz14_0 := blk_frozen HGz14 0
    have hfz14_1 := blk_frozen HGz14 1
    clear HGz14 hgz14
    obtain ⟨Ao15,co15,eo15⟩ := Kd.R_slice HO_6.out
    subst eo15
    go_wp2
    go_meet
    case rel => exact ⟨_,(decide ((x6_1.length : Int) > 0)),Z238,H',⟨Z235⟩,⟨Z323⟩,⟨Z322⟩,⟨Z335⟩,⟨Z273⟩,⟨Z343⟩⟩
   case rest =>
    clear HC11
    try clear c1
    try clear c2
    try clear c2b0
    try clear c2b1
    try clear p2
    try clear c12
    try clear c12b0
    try clear c14
    try clear p2
    obtain ⟨kq,x30_10,rfl,HA,HJ10,HO_5,HO_6,BK253,HI254,HB⟩ := hcut
    cases kq with
    | zero => exact absurd HA.out (by simp [impl_ReadCsv.j1])
    | succ kj10 =>
     have H := HA.out
     clear HA
     simp only [impl_ReadCsv.j1] at H
     by_cases c16 : x30_10 = true
     rotate_left
     ·replace c16 := Bool.eq_false_iff.mpr c16
      subst c16
      rw [if_neg Bool.false_ne_true] at H
      simp only [Option.some.injEq,Prod.mk.injEq] at H
      obtain ⟨rfl,rfl,rfl,rfl⟩ := H
      have hnb76 := NB253_254.out
      have hnc76 := NB254_253.out
      obtain ⟨hcz77_0,hcz77_1,hcz77_2,hfz77_0,hfz77_1,hfz77_2⟩ := cells3 BK253.out
      go_wp2
      refine bodyPost_ret (results_tc rfl _ _ gb253 28 #[.int .i64 0,.int .i64 0,.int .i64 0] (0,0) _ rfl (by refine bP ?_;refine blk_put (cs := #[.int .i64 0,.int .i64 0,.int .i64 x254002_1]) ?_ 2 _ rfl;refine bP ?_;refine blk_put (cs := #[.int .i64 0,.int .i64 x254001_1,.int .i64 x254002_1]) ?_ 1 _ rfl;refine bP ?_;refine blk_put (cs := #[.int .i64 x254000_1,.int .i64 x254001_1,.int .i64 x254002_1]) ?_ 0 _ rfl;refine bP ?_;exact BK253.out) Tryd.underlying28 rfl Z253) rfl ?_
      exact ⟨_,Z218,by (with_reducible repeat (first | apply Kd.S_alloc | apply Kd.S_drewN | apply Kd.S_drew));exact Kd.S_mono (Kd.S_far (p := ⟨gb253,2,none⟩) (Kd.S_far (p := ⟨gb253,1,none⟩) (Kd.S_far (p := ⟨gb253,0,none⟩) (Kd.S_types HO_5.out BK253.out Z355) (fun _ hk => hk.2) (.int .i64 0)) (fun _ hk => hk.2) (.int .i64 0)) (fun _ hk => hk.2) (.int .i64 0)) (fun _ hk => trivial),Z343⟩
     subst c16
     rw [if_pos rfl] at H
     have HC17 := Aside0.mk H
     clear H
     go_upto_region 6 with (fail)
     go_cut [46] (fun v46 wc => ∃ (kq : Nat) (x46_16 : Bool),v46 = .bool x46_16 ∧ Aside0 (impl_ReadCsv.j2 kq a0 x5_1 x6_1 true x46_16 x255000_1 x255001_1 = some (r1,r2,r3,r4)) ∧ Aside0 (kq ≤ kj10) ∧ Aside0 (Kd.S (Kd.slice 9 Kd.string) 22 wc w.heap.size (fun k_ => some k_ ≠ (u6 : Value).ownBlock) u5 x5_1) ∧ Aside0 (Kd.R Kd.string 9 wc w.heap.size (fun _ => True) u6 x6_1) ∧ Aside0 (wc.heap[gb253]? = some (.cells #[.int .i64 x254000_1,.int .i64 x254001_1,.int .i64 x254002_1] 28 (0,0))) ∧ Aside0 (IsS59 w wc gb254 x255000_1 x255001_1) ∧ Aside0 (Below w.heap.size w wc))
     case first =>
      have H := HC17.out
      clear HC17
      by_cases c18 : x255001_1 < (a0.size : Int)
      rotate_left
      ·rw [if_neg c18] at H
       have c18b0 : decide (x255001_1 < (a0.size : Int)) = false := decide_eq_false c18
       clear c18
       (first | rw [c18b0] | (simp only [i64_w,i32_w];rw [c18b0]) | skip)
       have H' := Aside0.mk H
       clear H
       obtain ⟨HGz22,hgz22⟩ := HI254.out
       have hcz22_0 := cellS59_0 HGz22
       have hcz22_1 := cellS59_1 HGz22
       have hfz22_0 := blk_frozen HGz22 0
       have hfz22_1 := blk_frozen HGz22 1
       clear HGz22 hgz22
       go_wp2
       go_meet
       case rel => exact ⟨_,(false),Z238,H',⟨Z226⟩,⟨Z323⟩,⟨Z322⟩,⟨Z335⟩,⟨Z273⟩,⟨Z343⟩⟩
      rw [if_pos c18] at H
      have c18b0 : decide (x255001_1 < (a0.size : Int)) = true := decide_eq_true c18
      clear c18
      (first | rw [c18b0] | (simp only [i64_w,i32_w];rw [c18b0]) | skip)
      obtain ⟨c19,H⟩ := ifp H
      have c19b0 : decide (0 ≤ x255001_1) = true := decide_eq_true c19
      clear c19
      have H' := Aside0.mk H
      clear H
      obtain ⟨HGz21,hgz21⟩ := HI254.out
      have hcz21_0 := cellS59_0 HGz21
      have hcz21_1 := cellS59_1 HGz21
      have hfz21_0 := blk_frozen HGz21 0
      have hfz21_1 := blk_frozen HGz21 1
      clear HGz21 hgz21
      have p20 : 0 ≤ (x255001_1 : Int) := of_decide_eq_true Z330
      have q20 : x255001_1 < (a0.size : Int) := of_decide_eq_true Z330
      have hx20 := bt_at a0 x255001_1
      replace p20 := eq_true p20
      replace q20 := eq_true q20
      go_wp2
      go_meet
      case rel => exact ⟨_,(((bt a0 x255001_1) == 34)),Z238,H',⟨Z226⟩,⟨Z323⟩,⟨Z322⟩,⟨Z335⟩,⟨Z273⟩,⟨Z343⟩⟩
     case rest =>
      clear HC17
      try clear c1
      try clear c2
      try clear c2b0
      try clear c2b1
      try clear p2
      try clear q2
      try clear hx2
      try clear c12
      try clear c12b0
      try clear c14
      try clear c16
      try clear c18
      try clear c18b0
      try clear c19
      try clear c19b0
      try clear p20
      try clear q20
      try clear hx20
      try clear p2
      try clear p20
      try clear q20
      obtain ⟨kq,x46_16,rfl,HA,HJ16,HO_5,HO_6,BK253,HI254,HB⟩ := hcut
      cases kq with
      | zero => exact absurd HA.out (by simp [impl_ReadCsv.j2])
      | succ kj16 =>
       have H := HA.out
       clear HA
       simp only [impl_ReadCsv.j2] at H
       have HC23 := Aside0.mk H
       clear H
       go_upto_if 46 with (fail)
       go_cut [7,8] (fun v7 v8 wc => ∃ (kq : Nat) (x7_22 : ByteArray) (x8_22 : Bool) (x255000_22 : ByteArray) (x255001_22 : Int),v7 = .string x7_22 ∧ v8 = .bool x8_22 ∧ Aside0 (impl_ReadCsv.j3 kq a0 x5_1 x6_1 x7_22 x8_22 x255000_22 x255001_22 = some (r1,r2,r3,r4)) ∧ Aside0 (kq ≤ kj16) ∧ Aside0 (Kd.S (Kd.slice 9 Kd.string) 22 wc w.heap.size (fun k_ => some k_ ≠ (u6 : Value).ownBlock) u5 x5_1) ∧ Aside0 (Kd.R Kd.string 9 wc w.heap.size (fun _ => True) u6 x6_1) ∧ Aside0 (wc.heap[gb253]? = some (.cells #[.int .i64 x254000_1,.int .i64 x254001_1,.int .i64 x254002_1] 28 (0,0))) ∧ Aside0 (IsS59 w wc gb254 x255000_22 x255001_22) ∧ Aside0 (Below w.heap.size w wc))
       case first =>
        have H := HC23.out
        clear HC23
        by_cases c24 : x46_16 = true
        ·subst c24
         rw [if_pos rfl] at H
         obtain ⟨⟨t261,t262,t263,t264⟩,A250,H⟩ := Option.bind_eq_some_iff.mp H
         try dsimp only at H
         have A25 := Aside0.mk A250
         clear A250
         have H' := Aside0.mk H
         clear H
         go_wp2_with (first | ((with_reducible refine gate_callee (f := 36) rfl ?_);refine goesL_ (some 49) rfl rfl Tryd.func36 Z253 rfl #[.pointer (some ⟨gb254,0,none⟩)] rfl Z173 ?_;(with_reducible refine (impl_csvReader_quoted.calls kj16 gb254 x255000_1 x255001_1 t261 t262 t263 t264 w _ ?side1 ?side2 A25.out).mono ?_);(case side1 => exact Z273);(case side2 => exact Z343);rintro e w26 ⟨rfl,hi,hb,hk⟩;refine ⟨_,rfl,?_⟩;have n_ := Z18;clear HO_5 HO_6 BK253 HB HI254;obtain ⟨HO_5,HO_6,BK253,HB,HI254⟩ := n_;(try clear hb);(try clear hb2);(try clear hk);(try clear hi)))
         go_meet
         case rel => exact ⟨_,(t261),(t262),(t263),(t264),Z238,Z238,H',⟨Z220⟩,⟨Z323⟩,⟨Z322⟩,⟨Z335⟩,⟨Z273⟩,⟨Z343⟩⟩
        replace c24 := Bool.eq_false_iff.mpr c24
        subst c24
        rw [if_neg Bool.false_ne_true] at H
        obtain ⟨⟨t265,t266,t267⟩,A270,H⟩ := Option.bind_eq_some_iff.mp H
        try dsimp only at H
        have A27 := Aside0.mk A270
        clear A270
        have H' := Aside0.mk H
        clear H
        go_wp2_with (first | ((with_reducible refine gate_callee (f := 37) rfl ?_);refine goesL_ (some 53) rfl rfl Tryd.func37 Z253 rfl #[.pointer (some ⟨gb254,0,none⟩)] rfl Z173 ?_;(with_reducible refine (impl_csvReader_plain.calls gb254 x255000_1 x255001_1 t265 t266 t267 w _ ?side1 ?side2 A27.out).mono ?_);(case side1 => exact Z273);(case side2 => exact Z343);rintro e w28 ⟨rfl,hi,hb,hk⟩;refine ⟨_,rfl,?_⟩;have n_ := Z18;clear HO_5 HO_6 BK253 HB HI254;obtain ⟨HO_5,HO_6,BK253,HB,HI254⟩ := n_;(try clear hb);(try clear hb2);(try clear hk);(try clear hi)))
        go_meet
        case rel => exact ⟨_,(t265),(true),(t266),(t267),Z238,Z238,H',⟨Z220⟩,⟨Z323⟩,⟨Z322⟩,⟨Z335⟩,⟨Z273⟩,⟨Z343⟩⟩
       case rest =>
        clear HC23
        try clear c1
        try clear c2
        try clear c2b0
        try clear c2b1
        try clear p2
        try clear q2
        try clear hx2
        try clear c3
        try clear c12
        try clear c12b0
        try clear c14
        try clear c16
        try clear c18
        try clear c18b0
        try clear c19
        try clear c19b0
        try clear p20
        try clear q20
        try clear hx20
        try clear c24
        try clear p2
        try clear p20
        try clear q2
        try clear q20
        obtain ⟨kq,x7_22,x8_22,x255000_22,x255001_22,rfl,rfl,HA,HJ22,HO_5,HO_6,BK253,HI254,HB⟩ := hcut
        cases kq with
        | zero => exact absurd HA.out (by simp [impl_ReadCsv.j3])
        | succ kj22 =>
         have H := HA.out
         clear HA
         simp only [impl_ReadCsv.j3] at H
         by_cases c29 : x8_22 = true
         rotate_left
         ·replace c29 := Bool.eq_false_iff.mpr c29
          subst c29
          rw [if_neg Bool.false_ne_true] at H
          simp only [Option.some.injEq,Prod.mk.injEq] at H
          obtain ⟨rfl,rfl,rfl,rfl⟩ := H
          obtain ⟨Ao65,co65,eo65⟩ := Kd.S_slice HO_5.out
          subst eo65
          obtain ⟨Ao66,co66,eo66⟩ := Kd.R_slice HO_6.out
          subst eo66
          try go_wp2_with (first | ((with_reducible refine gate_dst (N := 9) rfl ?_);(try (refine gate_guard Z255 ?_;dsimp only));refine bE 9 #[.int .i64 0,.int .i64 0,.int .i64 0] 28 (h := ?_);intro gb268 hg w67 hbox hb;have n_ := Z2;clear HO_5 HO_6 BK253 HI254 HB;obtain ⟨HO_5,HO_6,BK253,HI254,HB,BK268,GW268,GE268,NB253_268,NB268_253,NB254_268,NB268_254⟩ := n_;clear hb hbox hg;have hnb68 := NB268_253.out;have hnc68 := NB253_268.out;have hnb69 := NB268_254.out;have hnc69 := NB254_268.out;obtain ⟨hcz70_0,hcz70_1,hcz70_2,hfz70_0,hfz70_1,hfz70_2⟩ := cells3 BK268.out))
          have n0_ : Aside0 (Kd.S (Kd.slice 9 Kd.string) 22 (((w67.setCell ⟨gb268,0,none⟩ (.int .i64 2)).setCell ⟨gb268,1,none⟩ (.int .i64 (x5_1.length : Int))).setCell ⟨gb268,2,none⟩ (.int .i64 (x6_1.length : Int))) w.heap.size (fun k_ => some k_ ≠ (.slice Ao66 x6_1.length co66 : Value).ownBlock) (.slice Ao65 x5_1.length co65) x5_1) := ⟨by (with_reducible repeat (first | apply Kd.S_alloc | apply Kd.S_drewN | apply Kd.S_drew));exact Kd.S_mono (Kd.S_far (p := ⟨gb268,2,none⟩) (Kd.S_far (p := ⟨gb268,1,none⟩) (Kd.S_far (p := ⟨gb268,0,none⟩) (Kd.S_types HO_5.out BK268.out Z355) (fun _ hk => hk.2) (.int .i64 2)) (fun _ hk => hk.2) (.int .i64 (x5_1.length : Int))) (fun _ hk => hk.2) (.int .i64 (x6_1.length : Int))) (fun _ hk => hk.1)⟩
          have n1_ : Aside0 (Kd.R Kd.string 9 (((w67.setCell ⟨gb268,0,none⟩ (.int .i64 2)).setCell ⟨gb268,1,none⟩ (.int .i64 (x5_1.length : Int))).setCell ⟨gb268,2,none⟩ (.int .i64 (x6_1.length : Int))) w.heap.size (fun _ => True) (.slice Ao66 x6_1.length co66) x6_1) := ⟨Z257⟩
          have n2_ : Aside0 ((((w67.setCell ⟨gb268,0,none⟩ (.int .i64 2)).setCell ⟨gb268,1,none⟩ (.int .i64 (x5_1.length : Int))).setCell ⟨gb268,2,none⟩ (.int .i64 (x6_1.length : Int))).heap[gb253]? = some (.cells #[.int .i64 x254000_1,.int .i64 x254001_1,.int .i64 x254002_1] 28 (0,0))) := ⟨Z143⟩
          have n3_ : Aside0 ((((w67.setCell ⟨gb268,0,none⟩ (.int .i64 2)).setCell ⟨gb268,1,none⟩ (.int .i64 (x5_1.length : Int))).setCell ⟨gb268,2,none⟩ (.int .i64 (x6_1.length : Int))).heap[gb268]? = some (.cells #[.int .i64 2,.int .i64 (x5_1.length : Int),.int .i64 (x6_1.length : Int)] 28 (0,0))) := ⟨Z87⟩
          have n4_ : Aside0 (IsS59 w (((w67.setCell ⟨gb268,0,none⟩ (.int .i64 2)).setCell ⟨gb268,1,none⟩ (.int .i64 (x5_1.length : Int))).setCell ⟨gb268,2,none⟩ (.int .i64 (x6_1.length : Int))) gb254 x255000_22 x255001_22) := ⟨Z265⟩
          have n5_ : Aside0 (Below w.heap.size w (((w67.setCell ⟨gb268,0,none⟩ (.int .i64 2)).setCell ⟨gb268,1,none⟩ (.int .i64 (x5_1.length : Int))).setCell ⟨gb268,2,none⟩ (.int .i64 (x6_1.length : Int)))) := ⟨Z266⟩
          (try clear HO_5)
          (try clear HO_6)
          (try clear BK253)
          (try clear BK268)
          (try clear HI254)
          (try clear HB)
          generalize (((w67.setCell ⟨gb268,0,none⟩ (.int .i64 2)).setCell ⟨gb268,1,none⟩ (.int .i64 (x5_1.length : Int))).setCell ⟨gb268,2,none⟩ (.int .i64 (x6_1.length : Int))) = w71 at n0_ n1_ n2_ n3_ n4_ n5_ ⊢
          have HO_5 := n0_
          have HO_6 := n1_
          have BK253 := n2_
          have BK268 := n3_
          have HI254 := n4_
          have HB := n5_
          clear n0_ n1_ n2_ n3_ n4_ n5_
          have n_ := jA (Kd.S_drew HO_5.out) (jA (Kd.R_drew HO_6.out) (jA (blk_drew BK253.out) (jA (blk_drew BK268.out) (jA (IsS59.drew HI254.out) (Aside0.mk (below_drew1 HB.out))))))
          clear HO_5 HO_6 BK253 BK268 HI254 HB
          obtain ⟨HO_5,HO_6,BK253,BK268,HI254,HB⟩ := n_
          refine start_ (n := 3) (S := fun w' => w'.cell? ⟨gb268,0,none⟩ = some (.int .i64 2) ∧ w'.cell? ⟨gb268,1,none⟩ = some (.int .i64 (x5_1.length : Int)) ∧ w'.cell? ⟨gb268,2,none⟩ = some (.int .i64 (x6_1.length : Int))) (ds := []) (qM 3 0) Z253 rfl (by kernel_rfl) ⟨bc BK268 0,bc BK268 1,bc BK268 2⟩ (fun hHeld => ?_)
          generalize w71.drew = w72 at HO_5 HO_6 BK253 BK268 HI254 HB hHeld ⊢
          refine sP 1 2 3 2 (h := ?_)
          refine sT3 0 61 3 3 hHeld (h := ?_)
          refine one_ (i := 2) (N := none) #[true,true,true] rfl rfl Z253 Z355 (fun K hK => ?_)
          have hs73 : w72.cell? ⟨gb253,0,none⟩ = some (.int .i64 x254000_1) := bc BK253 0
          have hfs73 := blk_frozen BK253.out 0
          have hns73_1 := NB268_253.out
          have hms73_1 := NB253_268.out
          have hs74 : w72.cell? ⟨gb253,1,none⟩ = some (.int .i64 x254001_1) := bc BK253 1
          have hfs74 := blk_frozen BK253.out 1
          have hns74_1 := NB268_253.out
          have hms74_1 := NB253_268.out
          have hs75 : w72.cell? ⟨gb253,2,none⟩ = some (.int .i64 x254002_1) := bc BK253 2
          have hfs75 := blk_frozen BK253.out 2
          have hns75_1 := NB268_253.out
          have hms75_1 := NB253_268.out
          refine skip_ (w1 := ?_) Z255 rfl ?_ ?_
          rotate_left
          ·go_simp
           rfl
          refine hK.out _ _ ⟨((cell_far (p := ⟨gb253,_,none⟩) NB268_253.out _).trans (((cell_far (p := ⟨gb253,_,none⟩) NB268_253.out _).trans (((cell_far (p := ⟨gb253,_,none⟩) NB268_253.out _).trans (hHeld.1)))))),((cell_far (p := ⟨gb253,_,none⟩) NB268_253.out _).trans (((cell_far (p := ⟨gb253,_,none⟩) NB268_253.out _).trans (((cell_far (p := ⟨gb253,_,none⟩) NB268_253.out _).trans (hHeld.2.1)))))),((cell_far (p := ⟨gb253,_,none⟩) NB268_253.out _).trans (((cell_far (p := ⟨gb253,_,none⟩) NB268_253.out _).trans (((cell_far (p := ⟨gb253,_,none⟩) NB268_253.out _).trans (hHeld.2.2))))))⟩ (fun hHeld => ?_)
          clear hK K
          refine done_ Z253 ?_
          try go_wp2
          refine bodyPost_ret (results_tc rfl _ _ gb253 28 #[.int .i64 2,.int .i64 (x5_1.length : Int),.int .i64 (x6_1.length : Int)] (0,0) _ rfl Z69 Tryd.underlying28 rfl Z253) rfl ?_
          exact ⟨_,Z218,Z170,Z266⟩
         subst c29
         rw [if_pos rfl] at H
         obtain ⟨c30,H⟩ := ifp H
         have LMc30 := Aside0.mk c30
         clear c30
         obtain ⟨y269,hyy⟩ : ∃ y_ : List ByteArray,y_ = (x6_1 ++ [x7_22]) := ⟨_,rfl⟩
         replace H : ((impl_csvReader_after.f x255000_22 x255001_22).bind fun bt272 => (if bt272.1 = 3 then (some (([] : List (List ByteArray)),2,(x5_1.length : Int),(x6_1.length : Int))) else (if bt272.1 = 2 then (if x5_1.length < 5864062014805 then (impl_ReadCsv.l0 kj22 a0 (x5_1 ++ [y269]) ([] : List ByteArray) bt272.2.1 bt272.2.2) else (none)) else (impl_ReadCsv.l0 kj22 a0 x5_1 y269 bt272.2.1 bt272.2.2)))) = some (r1,r2,r3,r4) := zR
         have Ny269 := Aside0.mk hyy
         clear hyy
         obtain ⟨⟨t272,t273,t274⟩,A310,H⟩ := Option.bind_eq_some_iff.mp H
         try dsimp only at H
         have A31 := Aside0.mk A310
         clear A310
         by_cases c32 : t272 = 3
         ·rw [if_pos c32] at H
          have c32b0 : (t272 == 3) = true := beq_iff_eq.mpr c32
          have c32b1 : (t272 != 3) = false := bne_eq_false_iff_eq.mpr c32
          clear c32
          simp only [Option.some.injEq,Prod.mk.injEq] at H
          obtain ⟨rfl,rfl,rfl,rfl⟩ := H
          obtain ⟨Ao33,co33,eo33⟩ := Kd.S_slice HO_5.out
          subst eo33
          obtain ⟨Ao34,co34,eo34⟩ := Kd.R_slice HO_6.out
          subst eo34
          try go_wp2_with (first | ((with_reducible refine gate_dst (N := 9) rfl ?_);(try (refine gate_guard Z255 ?_;dsimp only));refine bE 9 #[.int .i64 0,.int .i64 0,.int .i64 0] 28 (h := ?_);intro gb268 hg w35 hbox hb;have n_ := Z2;clear HO_5 HO_6 BK253 HI254 HB;obtain ⟨HO_5,HO_6,BK253,HI254,HB,BK268,GW268,GE268,NB253_268,NB268_253,NB254_268,NB268_254⟩ := n_;clear hb hbox hg;have hnb36 := NB268_253.out;have hnc36 := NB253_268.out;have hnb37 := NB268_254.out;have hnc37 := NB254_268.out;obtain ⟨hcz38_0,hcz38_1,hcz38_2,hfz38_0,hfz38_1,hfz38_2⟩ := cells3 BK268.out) | ((with_reducible refine gate_builtin (b := .append) (xs := #[.tmp 62,.tmp 64]) rfl ?_);(try (refine gate_guard Z255 ?_;dsimp only));at_builtin;refine Kd.R_append Kd.string (w0 := w) w.heap.size rfl (.tmp 62) (.tmp 64) 22 9 (.string ⟨#[]⟩) 16 rfl Tryd.underlying22 info9 rfl Z355 Z254 (.slice Ao34 x6_1.length co34) x6_1 x7_22 [.string x7_22] (fun _ => True) (fun _ => False) rfl Z239 ?aP (fun _ hk => hk.elim) ?aF ?aO ?aB ?aS ?aL ?_;(case aP => exact rfl);(case aB => exact Z105);(case aF => exact Z244);(case aO => exact Z55);(case aS => exact Z99);(case aL => have := LMc30.out;omega);intro v270 w39 ho hb hg hat;rw [← Ny269.out] at ho;have n_ := jA (Kd.S_after (ok := (fun _ => True)) Z54 hg hat) (jA (blk_grown (g := gb253) (o := .cells #[.int .i64 x254000_1,.int .i64 x254001_1,.int .i64 x254002_1] 28 (0,0)) Z143 hg (Kd.R_ne HO_6.out BK253.out Z355)) (jA (IsS59.grown (show IsS59 w (((w35.setCell ⟨gb268,0,none⟩ (.int .i64 2)).setCell ⟨gb268,1,none⟩ (.int .i64 (x5_1.length : Int))).setCell ⟨gb268,2,none⟩ (.int .i64 (x6_1.length : Int))) gb254 x255000_22 x255001_22 from Z265) hg (IsS59.own_ne HI254.out HO_6.out Z355)) (jA (blk_grown (g := gb268) (o := .cells #[.int .i64 2,.int .i64 (x5_1.length : Int),.int .i64 (x6_1.length : Int)] 28 (0,0)) Z87 hg (Kd.R_ne HO_6.out BK268.out Z355)) (jA (hb) (Aside0.mk (ho))))));clear HO_5 BK253 HI254 BK268 HB HO_6;obtain ⟨HO_5,BK253,HI254,BK268,HB,HO271⟩ := n_;clear ho hb hg hat) | ((with_reducible refine gate_callee (f := 38) rfl ?_);refine goesL_ (some 67) rfl rfl Tryd.func38 Z253 rfl #[.pointer (some ⟨gb254,0,none⟩)] rfl Z173 ?_;(with_reducible refine (impl_csvReader_after.calls gb254 x255000_22 x255001_22 t272 t273 t274 w _ ?side1 ?side2 A31.out).mono ?_);(case side1 => exact Z265);(case side2 => exact Z266);rintro e w40 ⟨rfl,hi,hb,hk⟩;refine ⟨_,rfl,?_⟩;have n_ := Z11;clear HO_5 BK253 BK268 HO271 HB HI254;obtain ⟨HO_5,BK253,BK268,HO271,HB,HI254⟩ := n_;(try clear hb);(try clear hb2);(try clear hk);(try clear hi)))
          have n_ := jA (Kd.S_drew HO_5.out) (jA (Kd.R_drew HO271.out) (jA (blk_drew BK253.out) (jA (blk_drew BK268.out) (jA (IsS59.drew HI254.out) (Aside0.mk (below_drew1 HB.out))))))
          clear HO_5 HO271 BK253 BK268 HI254 HB
          obtain ⟨HO_5,HO271,BK253,BK268,HI254,HB⟩ := n_
          refine start_ (n := 3) (S := fun w' => w'.cell? ⟨gb268,0,none⟩ = some (.int .i64 2) ∧ w'.cell? ⟨gb268,1,none⟩ = some (.int .i64 (x5_1.length : Int)) ∧ w'.cell? ⟨gb268,2,none⟩ = some (.int .i64 (x6_1.length : Int))) (ds := []) (qM 3 0) Z253 rfl (by kernel_rfl) ⟨bc BK268 0,bc BK268 1,bc BK268 2⟩ (fun hHeld => ?_)
          generalize w40.drew = w41 at HO_5 HO271 BK253 BK268 HI254 HB hHeld ⊢
          refine sP 1 2 3 2 (h := ?_)
          refine sT3 0 70 3 3 hHeld (h := ?_)
          refine one_ (i := 2) (N := none) #[true,true,true] rfl rfl Z253 Z355 (fun K hK => ?_)
          have hs42 : w41.cell? ⟨gb253,0,none⟩ = some (.int .i64 x254000_1) := bc BK253 0
          have hfs42 := blk_frozen BK253.out 0
          have hns42_1 := NB268_253.out
          have hms42_1 := NB253_268.out
          have hs43 : w41.cell? ⟨gb253,1,none⟩ = some (.int .i64 x254001_1) := bc BK253 1
          have hfs43 := blk_frozen BK253.out 1
          have hns43_1 := NB268_253.out
          have hms43_1 := NB253_268.out
          have hs44 : w41.cell? ⟨gb253,2,none⟩ = some (.int .i64 x254002_1) := bc BK253 2
          have hfs44 := blk_frozen BK253.out 2
          have hns44_1 := NB268_253.out
          have hms44_1 := NB253_268.out
          refine skip_ (w1 := ?_) Z255 rfl ?_ ?_
          rotate_left
          ·go_simp
           rfl
          refine hK.out _ _ ⟨((cell_far (p := ⟨gb253,_,none⟩) NB268_253.out _).trans (((cell_far (p := ⟨gb253,_,none⟩) NB268_253.out _).trans (((cell_far (p := ⟨gb253,_,none⟩) NB268_253.out _).trans (hHeld.1)))))),((cell_far (p := ⟨gb253,_,none⟩) NB268_253.out _).trans (((cell_far (p := ⟨gb253,_,none⟩) NB268_253.out _).trans (((cell_far (p := ⟨gb253,_,none⟩) NB268_253.out _).trans (hHeld.2.1)))))),((cell_far (p := ⟨gb253,_,none⟩) NB268_253.out _).trans (((cell_far (p := ⟨gb253,_,none⟩) NB268_253.out _).trans (((cell_far (p := ⟨gb253,_,none⟩) NB268_253.out _).trans (hHeld.2.2))))))⟩ (fun hHeld => ?_)
          clear hK K
          refine done_ Z253 ?_
          try go_wp2
          refine bodyPost_ret (results_tc rfl _ _ gb253 28 #[.int .i64 2,.int .i64 (x5_1.length : Int),.int .i64 (x6_1.length : Int)] (0,0) _ rfl Z69 Tryd.underlying28 rfl Z253) rfl ?_
          exact ⟨_,Z218,Z170,Z266⟩
         rw [if_neg c32] at H
         have c32b0 : (t272 == 3) = false := beq_eq_false_iff_ne.mpr c32
         have c32b1 : (t272 != 3) = true := bne_iff_ne.mpr c32
         by_cases c45 : t272 = 2
         rotate_left
         ·rw [if_neg c45] at H
          have c45b0 : (t272 == 2) = false := beq_eq_false_iff_ne.mpr c45
          have c45b1 : (t272 != 2) = true := bne_iff_ne.mpr c45
          have H' := Aside0.mk H
          clear H
          obtain ⟨Ao57,co57,eo57⟩ := Kd.S_slice HO_5.out
          subst eo57
          obtain ⟨Ao58,co58,eo58⟩ := Kd.R_slice HO_6.out
          subst eo58
          go_wp2_with (first | ((with_reducible refine gate_dst (N := 9) rfl ?_);(try (refine gate_guard Z255 ?_;dsimp only));refine bE 9 #[.int .i64 0,.int .i64 0,.int .i64 0] 28 (h := ?_);intro gb268 hg w59 hbox hb;have n_ := Z2;clear HO_5 HO_6 BK253 HI254 HB;obtain ⟨HO_5,HO_6,BK253,HI254,HB,BK268,GW268,GE268,NB253_268,NB268_253,NB254_268,NB268_254⟩ := n_;clear hb hbox hg;have hnb60 := NB268_253.out;have hnc60 := NB253_268.out;have hnb61 := NB268_254.out;have hnc61 := NB254_268.out;obtain ⟨hcz62_0,hcz62_1,hcz62_2,hfz62_0,hfz62_1,hfz62_2⟩ := cells3 BK268.out) | ((with_reducible refine gate_builtin (b := .append) (xs := #[.tmp 62,.tmp 64]) rfl ?_);(try (refine gate_guard Z255 ?_;dsimp only));at_builtin;refine Kd.R_append Kd.string (w0 := w) w.heap.size rfl (.tmp 62) (.tmp 64) 22 9 (.string ⟨#[]⟩) 16 rfl Tryd.underlying22 info9 rfl Z355 Z254 (.slice Ao58 x6_1.length co58) x6_1 x7_22 [.string x7_22] (fun _ => True) (fun _ => False) rfl Z239 ?aP (fun _ hk => hk.elim) ?aF ?aO ?aB ?aS ?aL ?_;(case aP => exact rfl);(case aB => exact Z105);(case aF => exact Z244);(case aO => exact Z55);(case aS => exact Z99);(case aL => have := LMc30.out;omega);intro v270 w63 ho hb hg hat;rw [← Ny269.out] at ho;have n_ := jA (Kd.S_after (ok := (fun _ => True)) Z54 hg hat) (jA (blk_grown (g := gb253) (o := .cells #[.int .i64 x254000_1,.int .i64 x254001_1,.int .i64 x254002_1] 28 (0,0)) Z143 hg (Kd.R_ne HO_6.out BK253.out Z355)) (jA (IsS59.grown (show IsS59 w (((w59.setCell ⟨gb268,0,none⟩ (.int .i64 2)).setCell ⟨gb268,1,none⟩ (.int .i64 (x5_1.length : Int))).setCell ⟨gb268,2,none⟩ (.int .i64 (x6_1.length : Int))) gb254 x255000_22 x255001_22 from Z265) hg (IsS59.own_ne HI254.out HO_6.out Z355)) (jA (blk_grown (g := gb268) (o := .cells #[.int .i64 2,.int .i64 (x5_1.length : Int),.int .i64 (x6_1.length : Int)] 28 (0,0)) Z87 hg (Kd.R_ne HO_6.out BK268.out Z355)) (jA (hb) (Aside0.mk (ho))))));clear HO_5 BK253 HI254 BK268 HB HO_6;obtain ⟨HO_5,BK253,HI254,BK268,HB,HO271⟩ := n_;clear ho hb hg hat) | ((with_reducible refine gate_callee (f := 38) rfl ?_);refine goesL_ (some 67) rfl rfl Tryd.func38 Z253 rfl #[.pointer (some ⟨gb254,0,none⟩)] rfl Z173 ?_;(with_reducible refine (impl_csvReader_after.calls gb254 x255000_22 x255001_22 t272 t273 t274 w _ ?side1 ?side2 A31.out).mono ?_);(case side1 => exact Z265);(case side2 => exact Z266);rintro e w64 ⟨rfl,hi,hb,hk⟩;refine ⟨_,rfl,?_⟩;have n_ := Z11;clear HO_5 BK253 BK268 HO271 HB HI254;obtain ⟨HO_5,BK253,BK268,HO271,HB,HI254⟩ := n_;(try clear hb);(try clear hb2);(try clear hk);(try clear hi)))
          go_roundg kj22
          case measure => have := HK1.out;have := HJ10.out;have := HJ16.out;have := HJ22.out;omega
          case rel => exact ⟨(x5_1),(y269),(x254000_1),(x254001_1),(x254002_1),(t273),(t274),H',⟨Z225⟩,⟨by (with_reducible repeat (first | apply Kd.S_alloc | apply Kd.S_drewN | apply Kd.S_drew));exact Kd.S_mono HO_5.out (fun _ hk => hk.2)⟩,⟨Z320⟩,⟨Z335⟩,⟨Z265⟩,⟨Z266⟩⟩
         rw [if_pos c45] at H
         have c45b0 : (t272 == 2) = true := beq_iff_eq.mpr c45
         have c45b1 : (t272 != 2) = false := bne_eq_false_iff_eq.mpr c45
         clear c45
         obtain ⟨c46,H⟩ := ifp H
         have LMc46 := Aside0.mk c46
         clear c46
         obtain ⟨y275,hyy⟩ : ∃ y_ : List (List ByteArray),y_ = (x5_1 ++ [y269]) := ⟨_,rfl⟩
         replace H : (impl_ReadCsv.l0 kj22 a0 y275 ([] : List ByteArray) t273 t274) = some (r1,r2,r3,r4) := zR
         have Ny275 := Aside0.mk hyy
         clear hyy
         have H' := Aside0.mk H
         clear H
         obtain ⟨Ao47,co47,eo47⟩ := Kd.S_slice HO_5.out
         subst eo47
         obtain ⟨Ao48,co48,eo48⟩ := Kd.R_slice HO_6.out
         subst eo48
         go_wp2_with (first | ((with_reducible refine gate_dst (N := 9) rfl ?_);(try (refine gate_guard Z255 ?_;dsimp only));refine bE 9 #[.int .i64 0,.int .i64 0,.int .i64 0] 28 (h := ?_);intro gb268 hg w49 hbox hb;have n_ := Z2;clear HO_5 HO_6 BK253 HI254 HB;obtain ⟨HO_5,HO_6,BK253,HI254,HB,BK268,GW268,GE268,NB253_268,NB268_253,NB254_268,NB268_254⟩ := n_;clear hb hbox hg;have hnb50 := NB268_253.out;have hnc50 := NB253_268.out;have hnb51 := NB268_254.out;have hnc51 := NB254_268.out;obtain ⟨hcz52_0,hcz52_1,hcz52_2,hfz52_0,hfz52_1,hfz52_2⟩ := cells3 BK268.out) | ((with_reducible refine gate_builtin (b := .append) (xs := #[.tmp 62,.tmp 64]) rfl ?_);(try (refine gate_guard Z255 ?_;dsimp only));at_builtin;refine Kd.R_append Kd.string (w0 := w) w.heap.size rfl (.tmp 62) (.tmp 64) 22 9 (.string ⟨#[]⟩) 16 rfl Tryd.underlying22 info9 rfl Z355 Z254 (.slice Ao48 x6_1.length co48) x6_1 x7_22 [.string x7_22] (fun _ => True) (fun _ => False) rfl Z239 ?aP (fun _ hk => hk.elim) ?aF ?aO ?aB ?aS ?aL ?_;(case aP => exact rfl);(case aB => exact Z105);(case aF => exact Z244);(case aO => exact Z55);(case aS => exact Z99);(case aL => have := LMc30.out;omega);intro v270 w53 ho hb hg hat;rw [← Ny269.out] at ho;have n_ := jA (Kd.S_after (ok := (fun _ => True)) Z54 hg hat) (jA (blk_grown (g := gb253) (o := .cells #[.int .i64 x254000_1,.int .i64 x254001_1,.int .i64 x254002_1] 28 (0,0)) Z143 hg (Kd.R_ne HO_6.out BK253.out Z355)) (jA (IsS59.grown (show IsS59 w (((w49.setCell ⟨gb268,0,none⟩ (.int .i64 2)).setCell ⟨gb268,1,none⟩ (.int .i64 (x5_1.length : Int))).setCell ⟨gb268,2,none⟩ (.int .i64 (x6_1.length : Int))) gb254 x255000_22 x255001_22 from Z265) hg (IsS59.own_ne HI254.out HO_6.out Z355)) (jA (blk_grown (g := gb268) (o := .cells #[.int .i64 2,.int .i64 (x5_1.length : Int),.int .i64 (x6_1.length : Int)] 28 (0,0)) Z87 hg (Kd.R_ne HO_6.out BK268.out Z355)) (jA (hb) (Aside0.mk (ho))))));clear HO_5 BK253 HI254 BK268 HB HO_6;obtain ⟨HO_5,BK253,HI254,BK268,HB,HO271⟩ := n_;clear ho hb hg hat) | ((with_reducible refine gate_callee (f := 38) rfl ?_);refine goesL_ (some 67) rfl rfl Tryd.func38 Z253 rfl #[.pointer (some ⟨gb254,0,none⟩)] rfl Z173 ?_;(with_reducible refine (impl_csvReader_after.calls gb254 x255000_22 x255001_22 t272 t273 t274 w _ ?side1 ?side2 A31.out).mono ?_);(case side1 => exact Z265);(case side2 => exact Z266);rintro e w54 ⟨rfl,hi,hb,hk⟩;refine ⟨_,rfl,?_⟩;have n_ := Z11;clear HO_5 BK253 BK268 HO271 HB HI254;obtain ⟨HO_5,BK253,BK268,HO271,HB,HI254⟩ := n_;(try clear hb);(try clear hb2);(try clear hk);(try clear hi);obtain ⟨Ao56,co56,eo56⟩ := Kd.R_slice HO271.out;subst eo56) | ((with_reducible refine gate_builtin (b := .append) (xs := #[.tmp 73,.tmp 75]) rfl ?_);(try (refine gate_guard Z255 ?_;dsimp only));at_builtin;refine Kd.S_append (Kd.slice 9 Kd.string) (w0 := w) w.heap.size rfl (.tmp 73) (.tmp 75) 35 22 (.slice none 0 0) 24 rfl Tryd.underlying35 info22 rfl Z355 Z254 (.slice Ao47 x5_1.length co47) x5_1 y269 [.slice Ao56 y269.length co56] (fun _ => True) (fun k_ => some k_ = (.slice Ao56 y269.length co56 : Value).ownBlock) rfl rfl ?aP (fun k_ hk_ => ((Kd.R_mono (ok' := fun k_ => ((fun _ => True)) k_ ∧ some k_ ≠ (.slice Ao47 x5_1.length co47 : Value).ownBlock) (Kd.R_apart' (HO271.out) (Kd.S_typed HO_5.out) Z355) (fun k_ hk => ⟨trivial,hk.2⟩))).1 k_ hk_.symm) ?aF ?aO ?aB ?aS ?aL ?_;(case aP => exact Kd.M_row (Kd.R_mono (Kd.R_tight rfl (Kd.R_mono (ok' := fun k_ => ((fun _ => True)) k_ ∧ some k_ ≠ (.slice Ao47 x5_1.length co47 : Value).ownBlock) (Kd.R_apart' (HO271.out) (Kd.S_typed HO_5.out) Z355) (fun k_ hk => ⟨trivial,hk.2⟩))) (fun _ h_ => h_)));(case aB => exact Z105);(case aF => exact Z244);(case aO => exact (by (with_reducible repeat (first | apply Kd.S_alloc | apply Kd.S_drewN | apply Kd.S_drew));exact Kd.S_mono HO_5.out (fun k_ hk => ⟨trivial,fun e_ => hk.2 e_⟩)));(case aS => exact Z99);(case aL => have := LMc46.out;omega);intro v276 w55 ho hb hg hat;rw [← Ny275.out] at ho;have n_ := jA (blk_grown (g := gb253) (o := .cells #[.int .i64 x254000_1,.int .i64 x254001_1,.int .i64 x254002_1] 28 (0,0)) Z335 hg (Kd.S_ne HO_5.out BK253.out Z355)) (jA (IsS59.grown (by repeat (first | (with_reducible first | exact HI254.out | exact IsS59.far HI254.out NB254_253.out _ | exact IsS59.far HI254.out NB254_268.out _ | apply IsS59.alloc | apply IsS59.drewN | apply IsS59.drew | apply IsS59.set_0 | apply IsS59.set_1 | refine IsS59.far ?_ NB254_253.out _ | refine IsS59.far ?_ NB254_268.out _) | exact HI254.out)) hg (IsS59.own_neS HI254.out HO_5.out Z355)) (jA (blk_grown (g := gb268) (o := .cells #[.int .i64 2,.int .i64 (x5_1.length : Int),.int .i64 (x6_1.length : Int)] 28 (0,0)) (by refine bP ?_;exact BK268.out) hg (Kd.S_ne HO_5.out BK268.out Z355)) (jA (hb) (Aside0.mk (ho)))));clear BK253 HI254 BK268 HB HO_5 HO271;obtain ⟨BK253,HI254,BK268,HB,HO277⟩ := n_;clear ho hb hg hat))
         go_roundg kj22
         case measure => have := HK1.out;have := HJ10.out;have := HJ16.out;have := HJ22.out;omega
         case rel => exact ⟨(y275),(([] : List ByteArray)),(x254000_1),(x254001_1),(x254002_1),(t273),(t274),H',⟨Z225⟩,⟨by (with_reducible repeat (first | apply Kd.S_alloc | apply Kd.S_drewN | apply Kd.S_drew));exact Kd.S_mono HO277.out (fun _ hk => Z250)⟩,⟨Z169⟩,⟨Z335⟩,⟨Z265⟩,⟨Z266⟩⟩

end Go.Proofs.YtepnbcdbagjmbaaDoor.QFnExactReadTable
