/- The machine side of FnExactReadTable: what each Go function that it reaches comes to. Conditions: none. -/
import Derived.Test.YtepnbcdbagjmbaaDoorQFnExactReadTablex0
import Derived.Test.YtepnbcdbagjmbaaDoorQFnExactReadTablex8
import Derived.Test.YtepnbcdbagjmbaaDoorQFnExactReadTablex9
namespace Go.Proofs.YtepnbcdbagjmbaaDoor.QFnExactReadTable
open Go.RowKit Go.Proofs.YtepnbcdbagjmbaaDoorW.PrintWords Go.Proofs.YtepnbcdbagjmbaaDoorW.PrintLast Go.Proofs.YtepnbcdbagjmbaaDoorW.PrintMore
attribute [local go_sem] max2_int min2_int max_two min_two max_three min_three max_four min_four   -- for this text's walks alone
set_option linter.unusedVariables false
set_option linter.unusedSimpArgs false

/-! ### impl_csvReader_plain: function 37 -/
def impl_csvReader_plain.f (s0_0 : ByteArray) (s0_1 : Int) : Option (ByteArray × ByteArray × Int) := if 0 ≤ s0_1 then (if s0_1 ≤ (s0_0.size : Int) then ((strings_IndexAny.f (s0_0.extract (s0_1 : Int).toNat s0_0.size) (⟨#[44,34,10,13]⟩ : ByteArray)).bind fun t250 => (if t250 < 0 then (if s0_1 ≤ (wrap64 (s0_1 + (wrap64 ((s0_0.size : Int) - s0_1)))) then (if (wrap64 (s0_1 + (wrap64 ((s0_0.size : Int) - s0_1)))) ≤ (s0_0.size : Int) then (some (s0_0.extract (s0_1 : Int).toNat ((wrap64 (s0_1 + (wrap64 ((s0_0.size : Int) - s0_1)))) : Int).toNat,s0_0,wrap64 (s0_1 + (wrap64 ((s0_0.size : Int) - s0_1))))) else (none)) else (none)) else (if s0_1 ≤ (wrap64 (s0_1 + t250)) then (if (wrap64 (s0_1 + t250)) ≤ (s0_0.size : Int) then (some (s0_0.extract (s0_1 : Int).toNat ((wrap64 (s0_1 + t250)) : Int).toNat,s0_0,wrap64 (s0_1 + t250))) else (none)) else (none)))) else (none)) else (none)
def impl_csvReader_plain.T1 : Bool × List (List Nat × List Nat) := (true,[([],[]),([0],[0]),([1],[1]),([2],[2]),([],[]),([4],[4]),([5],[5]),([6],[6]),([3,7],[3,7]),([8],[8]),([9,9,0,1,2,3,4,5,6,7,8,9],[9])])
def impl_csvReader_plain.B1 : List Nat := [0,1,3,7,0,16,48,112,255,511,1023]
theorem impl_csvReader_plain.tab1 : rtab .any (opsOf Tryd.f37 1) = impl_csvReader_plain.T1 := by kernel_rfl
theorem impl_csvReader_plain.bits1 : waitsOk impl_csvReader_plain.T1.2 impl_csvReader_plain.B1 = true := by kernel_rfl
def impl_csvReader_plain.T3 : Bool × List (List Nat × List Nat) := (true,[([],[]),([0],[0]),([1],[1]),([2],[2]),([3],[3]),([],[]),([5],[5]),([6],[6]),([7],[7]),([4,8],[4,8]),([9,0,1,2,3,4,5,6,7,8,9],[9])])
def impl_csvReader_plain.B3 : List Nat := [0,1,3,7,15,0,32,96,224,511,1023]
theorem impl_csvReader_plain.tab3 : rtab .any (opsOf Tryd.f37 3) = impl_csvReader_plain.T3 := by kernel_rfl
theorem impl_csvReader_plain.bits3 : waitsOk impl_csvReader_plain.T3.2 impl_csvReader_plain.B3 = true := by kernel_rfl
def impl_csvReader_plain.T4 : Bool × List (List Nat × List Nat) := (true,[([],[]),([0],[0]),([1],[1]),([2],[2]),([],[]),([4],[4]),([5],[5]),([6],[6]),([],[]),([8],[8]),([9],[9]),([10],[10]),([],[]),([11,12],[11,12]),([3,7,13],[3,7,13]),([14,0,1,2,3,4,5,6,7,8,9,10,11,12,13,14],[14])])
def impl_csvReader_plain.B4 : List Nat := [0,1,3,7,0,16,48,112,0,256,768,1792,0,7936,16383,32767]
theorem impl_csvReader_plain.tab4 : rtab .any (opsOf Tryd.f37 4) = impl_csvReader_plain.T4 := by kernel_rfl
theorem impl_csvReader_plain.bits4 : waitsOk impl_csvReader_plain.T4.2 impl_csvReader_plain.B4 = true := by kernel_rfl
set_option maxHeartbeats 8000000 in
set_option maxRecDepth 100000 in
theorem impl_csvReader_plain.calls (g : Nat) (s0_0 : ByteArray) (s0_1 : Int) (r1 : ByteArray) (r2 : ByteArray) (r3 : Int) (w0 w : World) (hI : IsS59 w0 w g s0_0 s0_1) (hB : Below w0.heap.size w0 w) (h : impl_csvReader_plain.f s0_0 s0_1 = some (r1,r2,r3)) :
  Calls Tryd.prog 37 #[.pointer (some ⟨g,0,none⟩)] w fun e w' => e = .returned (.string r1) ∧ IsS59 w0 w' g r2 r3 ∧ Below w0.heap.size w0 w' ∧ KeepBut w w' g none := by
 have HI0 := Aside0.mk hI
 have HK := Aside0.mk (KeepBut.refl w g none)
 have HL := Aside0.mk hB.size
 clear hI
 have HW0 := Aside0.mk hB.size
 have HB := Aside0.mk hB
 clear hB
 have H := h
 clear h
 unfold impl_csvReader_plain.f at H
 obtain ⟨c2,H⟩ := ifp H
 have c2b0 := eq_true c2
 have c2b1 : decide (0 ≤ s0_1) = true := decide_eq_true c2
 clear c2
 obtain ⟨c3,H⟩ := ifp H
 have c3b0 := eq_true c3
 have c3b1 : decide (s0_1 ≤ (s0_0.size : Int)) = true := decide_eq_true c3
 clear c3
 obtain ⟨t250,A40,H⟩ := Option.bind_eq_some_iff.mp H
 have A4 := Aside0.mk A40
 clear A40
 by_cases c5 : t250 < 0
 rotate_left
 ·rw [if_neg c5] at H
  have c5b0 : decide (t250 < 0) = false := decide_eq_false c5
  clear c5
  have c14b0 := eq_true (of_decide_eq_true Z330 : 0 ≤ s0_1)
  obtain ⟨c15,H⟩ := ifp H
  have c15b0 := eq_true c15
  have c15b1 : decide (s0_1 ≤ (wrap64 (s0_1 + t250))) = true := decide_eq_true c15
  obtain ⟨c16,H⟩ := ifp H
  have c16b0 := eq_true c16
  have c16b1 : decide ((wrap64 (s0_1 + t250)) ≤ (s0_0.size : Int)) = true := decide_eq_true c16
  simp only [Option.some.injEq,Prod.mk.injEq] at H
  obtain ⟨rfl,rfl,rfl⟩ := H
  go_enter Tryd.func37,Tryd.ntmps37
  try go_wp2
  have n_ := jA (IsS59.drew HI0.out) (jA (keep_drew HK.out) (Aside0.mk (below_drew1 HB.out)))
  clear HI0 HK HB
  obtain ⟨HI0,HK,HB⟩ := n_
  refine start_ (n := 11) (S := fun w' => w'.cell? ⟨g,0,none⟩ = some (.string s0_0) ∧ w'.cell? ⟨g,1,none⟩ = some (.int .i64 s0_1)) (ds := []) (qM 11 0) Z253 rfl (by kernel_rfl) ⟨(blk_cell (Aside0.mk (show IsS59 w0 _ g s0_0 s0_1 from Z142).1).out 0).trans rfl,(blk_cell (Aside0.mk (show IsS59 w0 _ g s0_0 s0_1 from Z142).1).out 1).trans rfl⟩ (fun hHeld => ?_);refine with_tabW impl_csvReader_plain.tab1 impl_csvReader_plain.bits1 (fun HT_ HW_ => ?_)
  generalize w.drew = w17 at HI0 HK HB hHeld ⊢
  refine rP 0 5 11 1 HT_ (h := ?_)
  refine rP 1 6 11 3 HT_ (h := ?_)
  refine rP 2 7 11 7 HT_ (h := ?_)
  refine rP 4 9 11 23 HT_ (h := ?_)
  refine rP 5 10 11 55 HT_ (h := ?_)
  refine rP 6 11 11 119 HT_ (h := ?_)
  refine rT2 3 8 11 127 HT_ HW_ hHeld (h := ?_)
  refine rT2 7 12 11 255 HT_ HW_ hHeld (h := ?_)
  refine rP 8 13 11 511 HT_ (h := ?_)
  refine rO 9 14 11 1023 HT_ (h := fun K hK => ?_)
  refine goes_ Tryd.func43 Z253 rfl #[.string (s0_0.extract (s0_1 : Int).toNat s0_0.size),.string (⟨#[44,34,10,13]⟩ : ByteArray)] Z255 rfl rfl Z173 ?_
  with_reducible refine (strings_IndexAny.calls (s0_0.extract (s0_1 : Int).toNat s0_0.size) (⟨#[44,34,10,13]⟩ : ByteArray) t250 _ A4.out).mono ?_
  rintro e w18 ⟨rfl,hb⟩
  refine ⟨_,rfl,?_⟩
  have n_ := jA (IsS59.below Z142 hb) (jA (KeepBut.trans Z300 (KeepBut.of_below hb g none) (.inl rfl)) (Aside0.mk (below_step Z139 hb)))
  clear HI0 HK HB
  obtain ⟨HI0,HK,HB⟩ := n_
  (try clear hb)
  (try clear hb2)
  (try clear hk)
  (try clear hi)
  refine hK.out _ _ ⟨(blk_cell (Aside0.mk (show IsS59 w0 _ g s0_0 s0_1 from Z142).1).out 0).trans rfl,(blk_cell (Aside0.mk (show IsS59 w0 _ g s0_0 s0_1 from Z142).1).out 1).trans rfl⟩ (fun hHeld => ?_)
  clear hK K
  refine rN (h := ?_)
  refine rP 10 3 11 2047 HT_ (h := ?_)
  refine done_ (done_of HT_.out Z253) ?_
  try go_wp2
  have n_ := jA (IsS59.drew HI0.out) (jA (keep_drew HK.out) (Aside0.mk (below_drew1 HB.out)))
  clear HI0 HK HB
  obtain ⟨HI0,HK,HB⟩ := n_
  refine start_ (n := 16) (S := fun w' => w'.cell? ⟨g,0,none⟩ = some (.string s0_0) ∧ w'.cell? ⟨g,1,none⟩ = some (.int .i64 s0_1)) (ds := []) (qM 16 0) Z253 rfl (by kernel_rfl) ⟨(blk_cell (Aside0.mk (show IsS59 w0 _ g s0_0 s0_1 from Z142).1).out 0).trans rfl,(blk_cell (Aside0.mk (show IsS59 w0 _ g s0_0 s0_1 from Z142).1).out 1).trans rfl⟩ (fun hHeld => ?_);refine with_tabW impl_csvReader_plain.tab4 impl_csvReader_plain.bits4 (fun HT_ HW_ => ?_)
  generalize w18.drew = w19 at HI0 HK HB hHeld ⊢
  refine rP 0 27 16 1 HT_ (h := ?_)
  refine rP 1 28 16 3 HT_ (h := ?_)
  refine rP 2 29 16 7 HT_ (h := ?_)
  refine rP 4 31 16 23 HT_ (h := ?_)
  refine rP 5 32 16 55 HT_ (h := ?_)
  refine rP 6 33 16 119 HT_ (h := ?_)
  refine rP 8 35 16 375 HT_ (h := ?_)
  refine rP 9 36 16 887 HT_ (h := ?_)
  refine rP 10 37 16 1911 HT_ (h := ?_)
  refine rP 12 39 16 6007 HT_ (h := ?_)
  refine rT2 3 30 16 6015 HT_ HW_ hHeld (h := ?_)
  refine rT2 7 34 16 6143 HT_ HW_ hHeld (h := ?_)
  refine rT2 11 38 16 8191 HT_ HW_ hHeld (h := ?_)
  refine rP 13 40 16 16383 HT_ (h := ?_)
  refine rP 14 41 16 32767 HT_ (h := ?_)
  refine rP 15 4 16 65535 HT_ (h := ?_)
  refine done_ (done_of HT_.out Z253) ?_
  obtain ⟨HGz20,hgz20⟩ := HI0.out
  have hcz20_0 := cellS59_0 HGz20
  have hcz20_1 := cellS59_1 HGz20
  have hfz20_0 := blk_frozen HGz20 0
  have hfz20_1 := blk_frozen HGz20 1
  clear HGz20 hgz20
  try go_wp2
  go_ret
  exact ⟨Z218,Z142,Z139,Z300⟩
 rw [if_pos c5] at H
 have c5b0 : decide (t250 < 0) = true := decide_eq_true c5
 clear c5
 have c6b0 := eq_true (of_decide_eq_true Z330 : 0 ≤ s0_1)
 obtain ⟨c7,H⟩ := ifp H
 have c7b0 := eq_true c7
 have c7b1 : decide (s0_1 ≤ (wrap64 (s0_1 + (wrap64 ((s0_0.size : Int) - s0_1))))) = true := decide_eq_true c7
 obtain ⟨c8,H⟩ := ifp H
 have c8b0 := eq_true c8
 have c8b1 : decide ((wrap64 (s0_1 + (wrap64 ((s0_0.size : Int) - s0_1)))) ≤ (s0_0.size : Int)) = true := decide_eq_true c8
 simp only [Option.some.injEq,Prod.mk.injEq] at H
 obtain ⟨rfl,rfl,rfl⟩ := H
 go_enter Tryd.func37,Tryd.ntmps37
 try go_wp2
 have n_ := jA (IsS59.drew HI0.out) (jA (keep_drew HK.out) (Aside0.mk (below_drew1 HB.out)))
 clear HI0 HK HB
 obtain ⟨HI0,HK,HB⟩ := n_
 refine start_ (n := 11) (S := fun w' => w'.cell? ⟨g,0,none⟩ = some (.string s0_0) ∧ w'.cell? ⟨g,1,none⟩ = some (.int .i64 s0_1)) (ds := []) (qM 11 0) Z253 rfl (by kernel_rfl) ⟨(blk_cell (Aside0.mk (show IsS59 w0 _ g s0_0 s0_1 from Z142).1).out 0).trans rfl,(blk_cell (Aside0.mk (show IsS59 w0 _ g s0_0 s0_1 from Z142).1).out 1).trans rfl⟩ (fun hHeld => ?_);refine with_tabW impl_csvReader_plain.tab1 impl_csvReader_plain.bits1 (fun HT_ HW_ => ?_)
 generalize w.drew = w9 at HI0 HK HB hHeld ⊢
 refine rP 0 5 11 1 HT_ (h := ?_)
 refine rP 1 6 11 3 HT_ (h := ?_)
 refine rP 2 7 11 7 HT_ (h := ?_)
 refine rP 4 9 11 23 HT_ (h := ?_)
 refine rP 5 10 11 55 HT_ (h := ?_)
 refine rP 6 11 11 119 HT_ (h := ?_)
 refine rT2 3 8 11 127 HT_ HW_ hHeld (h := ?_)
 refine rT2 7 12 11 255 HT_ HW_ hHeld (h := ?_)
 refine rP 8 13 11 511 HT_ (h := ?_)
 refine rO 9 14 11 1023 HT_ (h := fun K hK => ?_)
 refine goes_ Tryd.func43 Z253 rfl #[.string (s0_0.extract (s0_1 : Int).toNat s0_0.size),.string (⟨#[44,34,10,13]⟩ : ByteArray)] Z255 rfl rfl Z173 ?_
 with_reducible refine (strings_IndexAny.calls (s0_0.extract (s0_1 : Int).toNat s0_0.size) (⟨#[44,34,10,13]⟩ : ByteArray) t250 _ A4.out).mono ?_
 rintro e w10 ⟨rfl,hb⟩
 refine ⟨_,rfl,?_⟩
 have n_ := jA (IsS59.below Z142 hb) (jA (KeepBut.trans Z300 (KeepBut.of_below hb g none) (.inl rfl)) (Aside0.mk (below_step Z139 hb)))
 clear HI0 HK HB
 obtain ⟨HI0,HK,HB⟩ := n_
 (try clear hb)
 (try clear hb2)
 (try clear hk)
 (try clear hi)
 refine hK.out _ _ ⟨(blk_cell (Aside0.mk (show IsS59 w0 _ g s0_0 s0_1 from Z142).1).out 0).trans rfl,(blk_cell (Aside0.mk (show IsS59 w0 _ g s0_0 s0_1 from Z142).1).out 1).trans rfl⟩ (fun hHeld => ?_)
 clear hK K
 refine rN (h := ?_)
 refine rP 10 3 11 2047 HT_ (h := ?_)
 refine done_ (done_of HT_.out Z253) ?_
 try go_wp2
 have n_ := jA (IsS59.drew HI0.out) (jA (keep_drew HK.out) (Aside0.mk (below_drew1 HB.out)))
 clear HI0 HK HB
 obtain ⟨HI0,HK,HB⟩ := n_
 refine start_ (n := 11) (S := fun w' => w'.cell? ⟨g,0,none⟩ = some (.string s0_0) ∧ w'.cell? ⟨g,1,none⟩ = some (.int .i64 s0_1)) (ds := []) (qM 11 0) Z253 rfl (by kernel_rfl) ⟨(blk_cell (Aside0.mk (show IsS59 w0 _ g s0_0 s0_1 from Z142).1).out 0).trans rfl,(blk_cell (Aside0.mk (show IsS59 w0 _ g s0_0 s0_1 from Z142).1).out 1).trans rfl⟩ (fun hHeld => ?_);refine with_tabW impl_csvReader_plain.tab3 impl_csvReader_plain.bits3 (fun HT_ HW_ => ?_)
 generalize w10.drew = w11 at HI0 HK HB hHeld ⊢
 refine rP 0 17 11 1 HT_ (h := ?_)
 refine rP 1 18 11 3 HT_ (h := ?_)
 refine rP 2 19 11 7 HT_ (h := ?_)
 refine rP 5 22 11 39 HT_ (h := ?_)
 refine rP 6 23 11 103 HT_ (h := ?_)
 refine rP 7 24 11 231 HT_ (h := ?_)
 refine rT2 3 20 11 239 HT_ HW_ hHeld (h := ?_)
 refine rP 4 21 11 255 HT_ (h := ?_)
 refine rT2 8 25 11 511 HT_ HW_ hHeld (h := ?_)
 refine rP 9 26 11 1023 HT_ (h := ?_)
 refine rP 10 3 11 2047 HT_ (h := ?_)
 refine done_ (done_of HT_.out Z253) ?_
 try go_wp2
 have n_ := jA (IsS59.drew HI0.out) (jA (keep_drew HK.out) (Aside0.mk (below_drew1 HB.out)))
 clear HI0 HK HB
 obtain ⟨HI0,HK,HB⟩ := n_
 refine start_ (n := 16) (S := fun w' => w'.cell? ⟨g,0,none⟩ = some (.string s0_0) ∧ w'.cell? ⟨g,1,none⟩ = some (.int .i64 s0_1)) (ds := []) (qM 16 0) Z253 rfl (by kernel_rfl) ⟨(blk_cell (Aside0.mk (show IsS59 w0 _ g s0_0 s0_1 from Z142).1).out 0).trans rfl,(blk_cell (Aside0.mk (show IsS59 w0 _ g s0_0 s0_1 from Z142).1).out 1).trans rfl⟩ (fun hHeld => ?_);refine with_tabW impl_csvReader_plain.tab4 impl_csvReader_plain.bits4 (fun HT_ HW_ => ?_)
 generalize w11.drew = w12 at HI0 HK HB hHeld ⊢
 refine rP 0 27 16 1 HT_ (h := ?_)
 refine rP 1 28 16 3 HT_ (h := ?_)
 refine rP 2 29 16 7 HT_ (h := ?_)
 refine rP 4 31 16 23 HT_ (h := ?_)
 refine rP 5 32 16 55 HT_ (h := ?_)
 refine rP 6 33 16 119 HT_ (h := ?_)
 refine rP 8 35 16 375 HT_ (h := ?_)
 refine rP 9 36 16 887 HT_ (h := ?_)
 refine rP 10 37 16 1911 HT_ (h := ?_)
 refine rP 12 39 16 6007 HT_ (h := ?_)
 refine rT2 3 30 16 6015 HT_ HW_ hHeld (h := ?_)
 refine rT2 7 34 16 6143 HT_ HW_ hHeld (h := ?_)
 refine rT2 11 38 16 8191 HT_ HW_ hHeld (h := ?_)
 refine rP 13 40 16 16383 HT_ (h := ?_)
 refine rP 14 41 16 32767 HT_ (h := ?_)
 refine rP 15 4 16 65535 HT_ (h := ?_)
 refine done_ (done_of HT_.out Z253) ?_
 obtain ⟨HGz13,hgz13⟩ := HI0.out
 have hcz13_0 := cellS59_0 HGz13
 have hcz13_1 := cellS59_1 HGz13
 have hfz13_0 := blk_frozen HGz13 0
 have hfz13_1 := blk_frozen HGz13 1
 clear HGz13 hgz13
 try go_wp2
 go_ret
 exact ⟨Z218,Z142,Z139,Z300⟩

/-! ### stringslite_HasPrefix: function 54 -/
def stringslite_HasPrefix.f (a0 : ByteArray) (a1 : ByteArray) : Option (Bool) := if (a0.size : Int) ≥ (a1.size : Int) then (if 0 ≤ (a1.size : Int) then (if (a1.size : Int) ≤ (a0.size : Int) then (some ((a0.extract 0 ((a1.size : Int) : Int).toNat).toList == a1.toList)) else (none)) else (none)) else (some false)
set_option maxHeartbeats 8000000 in
set_option maxRecDepth 100000 in
theorem stringslite_HasPrefix.calls (a0 : ByteArray) (a1 : ByteArray) (r : Bool) (w : World) (h : stringslite_HasPrefix.f a0 a1 = some r) :
  Calls Tryd.prog 54 #[.string a0,.string a1] w fun e w' => e = .returned (.bool r) ∧ Drawn0 w w' := by
 have H := h
 clear h
 unfold stringslite_HasPrefix.f at H
 by_cases c3 : (a0.size : Int) ≥ (a1.size : Int)
 rotate_left
 ·rw [if_neg c3] at H
  have c3b0 : decide ((a1.size : Int) ≤ (a0.size : Int)) = false := decide_eq_false c3
  have c3b1 : decide (a1.size ≤ a0.size) = false := decide_eq_false (fun h => c3 (Int.ofNat_le.mpr h))
  clear c3
  obtain rfl := Option.some.inj H
  go_enter Tryd.func54,Tryd.ntmps54
  go_wp2
  go_ret
  exact ⟨Z238,Z231⟩
 rw [if_pos c3] at H
 have c3b0 : decide ((a1.size : Int) ≤ (a0.size : Int)) = true := decide_eq_true c3
 have c3b1 : decide (a1.size ≤ a0.size) = true := decide_eq_true (Int.ofNat_le.mp c3)
 clear c3
 obtain ⟨c4,H⟩ := ifp H
 have c4b0 := eq_true c4
 have c4b1 : decide (0 ≤ (a1.size : Int)) = true := decide_eq_true c4
 clear c4
 obtain ⟨c5,H⟩ := ifp H
 have c5b0 := eq_true c5
 have c5b1 : decide ((a1.size : Int) ≤ (a0.size : Int)) = true := decide_eq_true c5
 clear c5
 obtain rfl := Option.some.inj H
 go_enter Tryd.func54,Tryd.ntmps54
 go_wp2
 go_ret
 exact ⟨Z238,Z231⟩

/-! ### strings_HasPrefix: function 44 -/
def strings_HasPrefix.f (a0 : ByteArray) (a1 : ByteArray) : Option (Bool) := (stringslite_HasPrefix.f a0 a1).bind fun t251 => (some t251)
set_option maxHeartbeats 8000000 in
set_option maxRecDepth 100000 in
theorem strings_HasPrefix.calls (a0 : ByteArray) (a1 : ByteArray) (r : Bool) (w : World) (h : strings_HasPrefix.f a0 a1 = some r) :
  Calls Tryd.prog 44 #[.string a0,.string a1] w fun e w' => e = .returned (.bool r) ∧ Drawn0 w w' := by
 have H := h
 clear h
 unfold strings_HasPrefix.f at H
 obtain ⟨t251,A30,H⟩ := Option.bind_eq_some_iff.mp H
 have A3 := Aside0.mk A30
 clear A30
 obtain rfl := Option.some.inj H
 go_enter Tryd.func44,Tryd.ntmps44
 go_wp2_with (first | ((with_reducible refine gate_callee (f := 54) rfl ?_);refine goesL_ (some 7) rfl rfl Tryd.func54 Z253 rfl #[.string a0,.string a1] rfl Z173 ?_;(with_reducible refine (stringslite_HasPrefix.calls a0 a1 t251 _ A3.out).mono ?_);rintro e w' ⟨rfl,⟨nd,rfl⟩⟩;refine ⟨_,rfl,?_⟩))
 go_ret
 exact ⟨Z238,Z231⟩

end Go.Proofs.YtepnbcdbagjmbaaDoor.QFnExactReadTable
