/- The machine side of FnExactTableText: what each Go function that it reaches comes to. Conditions: none. -/
import Derived.Test.YtepnbcdbagjmbabDoorQFnExactTableTextx0
import Derived.Test.YtepnbcdbagjmbabDoorQFnExactTableTextx1
import Derived.Test.YtepnbcdbagjmbabDoorQFnExactTableTextx6
import Derived.Test.YtepnbcdbagjmbabDoorQFnExactTableTextx7
namespace Go.Proofs.YtepnbcdbagjmbabDoor.QFnExactTableText
open Go.RowKit Go.Proofs.YtepnbcdbagjmbabDoorW.PrintWords Go.Proofs.YtepnbcdbagjmbabDoorW.PrintLast Go.Proofs.YtepnbcdbagjmbabDoorW.PrintMore
attribute [local go_sem] max2_int min2_int max_two min_two max_three min_three max_four min_four   -- for this text's walks alone
set_option linter.unusedVariables false
set_option linter.unusedSimpArgs false

/-! ### impl_TableOk: function 18 -/
def impl_TableOk.f (k : Nat) (l0_0 : List ByteArray) (a0_1 : ByteArray) (l0_2 : List (List Int)) (l0_3 : List Int) : Option (Bool) := (impl_within.f (l0_0.length : Int) 1 4).bind fun t285 => (if t285 = true then ((slices_Clone_string_string.f l0_0).bind fun t286 => ((some (([a0_1] : List ByteArray) : List ByteArray)).bind fun y289 => (if t286.length + y289.length < 8796093022208 then ((impl_areNames.f k (t286 ++ y289)).bind fun t295 => (if t295 = true then ((impl_within.f (l0_2.length : Int) 1 40).bind fun t296 => (if t296 = true then (if (l0_3.length : Int) = (l0_2.length : Int) then ((impl_areDecimals.f k l0_3).bind fun t297 => (if t297 = true then ((impl_TableOk_1.f l0_2 l0_0).bind fun t298 => (some (!t298))) else (some false))) else (some false)) else (some false))) else (some false))) else (none)))) else (some false))
theorem impl_TableOk.mono : ∀ a0 a1 a2 a3 k,LeO (impl_TableOk.f k a0 a1 a2 a3) (impl_TableOk.f (k + 1) a0 a1 a2 a3) := by
 intro a0 a1 a2 a3 k
 unfold impl_TableOk.f
 repeat' first
   | (with_reducible exact impl_areDecimals.mono _ _)
   | (with_reducible exact impl_areNames.mono _ _)
   | (with_reducible exact LeO.refl _)
   | (with_reducible exact LeO.none _)
   | (with_reducible refine LeO.ite ?_ ?_)
   | (with_reducible refine LeO.bind ?_ (fun _ => ?_))
   | exact impl_areDecimals.mono _ _
   | exact impl_areNames.mono _ _
   | exact LeO.none _
   | refine LeO.ite ?_ ?_
   | refine LeO.bind ?_ (fun _ => ?_)
def impl_TableOk.T1 : Bool × List (List Nat × List Nat) := (true,[([],[]),([0],[0]),([1],[1]),([2],[2]),([3],[3]),([4,3],[4]),([5],[5]),([6,5],[5,6]),([7,5,5],[5,7]),([5],[5]),([9,5],[5,9]),([10,5],[5,10]),([8,11,8,5],[5,8,11]),([12,12,5],[5,12]),([13,5],[5,13]),([5,14],[5,14]),([15,13],[15]),([16],[16]),([17,16],[16,17]),([18,16],[16,18]),([19,16,16],[16,19]),([20,16],[16,20]),([16,21],[16,21]),([22,20],[22]),([23],[23]),([24,23],[23,24]),([25,23],[23,25]),([23],[23]),([27,23],[23,27]),([28,23],[23,28]),([26,29,23],[23,26,29]),([23,30],[23,30]),([31,23],[31]),([32],[32]),([33,32],[32,33]),([34,32,32],[32,34]),([35,32],[32,35]),([32,36],[32,36])])
def impl_TableOk.B1 : List Nat := [0,1,3,7,15,31,63,127,255,63,575,1599,4095,8191,16383,32767,65535,131071,262143,524287,1048575,2097151,4194303,8388607,16777215,33554431,67108863,16777215,150994943,419430399,1073741823,2147483647,4294967295,8589934591,17179869183,34359738367,68719476735,137438953471]
theorem impl_TableOk.tab1 : rtab .any (opsOf Tryd.f18 1) = impl_TableOk.T1 := by kernel_rfl
theorem impl_TableOk.bits1 : waitsOk impl_TableOk.T1.2 impl_TableOk.B1 = true := by kernel_rfl
set_option maxHeartbeats 8000000 in
set_option maxRecDepth 100000 in
theorem impl_TableOk.calls (k : Nat) (A0_0 : Option Addr) (c0_0 : Nat) (l0_0 : List ByteArray) (a0_1 : ByteArray) (A0_2 : Option Addr) (c0_2 : Nat) (l0_2 : List (List Int)) (A0_3 : Option Addr) (c0_3 : Nat) (l0_3 : List Int) (r : Bool) (w : World) (hr0_0 : Kd.C Kd.string w A0_0 l0_0.length l0_0) (hc0_0 : l0_0.length ≤ c0_0) (hr0_2 : Kd.C (Kd.slice 3 (Kd.int .i64)) w A0_2 l0_2.length l0_2) (hc0_2 : l0_2.length ≤ c0_2) (hr0_3 : Kd.C (Kd.int .i64) w A0_3 l0_3.length l0_3) (hc0_3 : l0_3.length ≤ c0_3) (h : impl_TableOk.f k l0_0 a0_1 l0_2 l0_3 = some r) :
  Calls Tryd.prog 18 #[.agg #[.slice A0_0 l0_0.length c0_0,.string a0_1,.slice A0_2 l0_2.length c0_2,.slice A0_3 l0_3.length c0_3]] w fun e w' => e = .returned (.bool r) ∧ Below w.heap.size w w' := by
 have hu29 := Tryd.underlying29
 have HR0_0 := Aside0.mk hr0_0
 have HC0_0 := Aside0.mk hc0_0
 clear hr0_0 hc0_0
 have HR0_2 := Aside0.mk hr0_2
 have HC0_2 := Aside0.mk hc0_2
 clear hr0_2 hc0_2
 have HR0_3 := Aside0.mk hr0_3
 have HC0_3 := Aside0.mk hc0_3
 clear hr0_3 hc0_3
 have HB := Aside0.mk (Below.refl w.heap.size w)
 have H := h
 clear h
 unfold impl_TableOk.f at H
 obtain ⟨t285,A20,H⟩ := Option.bind_eq_some_iff.mp H
 have A2 := Aside0.mk A20
 clear A20
 by_cases c3 : t285 = true
 rotate_left
 ·replace c3 := Bool.eq_false_iff.mpr c3
  subst c3
  rw [if_neg Bool.false_ne_true] at H
  obtain rfl := Option.some.inj H
  go_enter Tryd.func18,Tryd.ntmps18
  try go_wp2_with (first | ((with_reducible refine gate_dst (N := 1) rfl ?_);(try (refine gate_guard Z123 ?_;dsimp only));refine bE 1 #[.slice A0_0 l0_0.length c0_0,.string a0_1,.slice A0_2 l0_2.length c0_2,.slice A0_3 l0_3.length c0_3] 29 (h := ?_);intro gb284 hg w61 hbox hb;have n_ := Z3;clear HB;obtain ⟨HB,BK284,GW284,GE284⟩ := n_;clear hb hbox hg))
  have n_ := jA (blk_drew BK284.out) (Aside0.mk (below_drew1 HB.out))
  clear BK284 HB
  obtain ⟨BK284,HB⟩ := n_
  refine start_ (n := 38) (S := fun w' => w'.cell? ⟨gb284,0,none⟩ = some (.slice A0_0 l0_0.length c0_0) ∧ w'.cell? ⟨gb284,1,none⟩ = some (.string a0_1) ∧ w'.cell? ⟨gb284,2,none⟩ = some (.slice A0_2 l0_2.length c0_2) ∧ w'.cell? ⟨gb284,3,none⟩ = some (.slice A0_3 l0_3.length c0_3)) (ds := []) (qM 38 0) Z121 rfl (by kernel_rfl) ⟨bc BK284 0,bc BK284 1,bc BK284 2,bc BK284 3⟩ (fun hHeld => ?_);refine with_tabW impl_TableOk.tab1 impl_TableOk.bits1 (fun HT_ HW_ => ?_)
  generalize w61.drew = w62 at BK284 HB hHeld ⊢
  refine rP 0 3 38 1 HT_ (h := ?_)
  refine rT4 1 4 38 3 HT_ HW_ hHeld (h := ?_)
  refine rP 2 5 38 7 HT_ (h := ?_)
  refine rO 3 6 38 15 HT_ (h := fun K hK => ?_)
  refine goes_ Tryd.func32 Z121 rfl #[.int .i64 (l0_0.length : Int),.int .i64 1,.int .i64 4] Z123 rfl rfl Z66 ?_
  with_reducible refine (impl_within.calls (l0_0.length : Int) 1 4 false _ A2.out).mono ?_
  rintro e w' ⟨rfl,⟨nd,rfl⟩⟩
  refine ⟨_,rfl,?_⟩
  refine hK.out _ _ ⟨bc BK284 0,bc BK284 1,bc BK284 2,bc BK284 3⟩ (fun hHeld => ?_)
  clear hK K
  refine rN (h := ?_)
  refine rP 4 7 38 31 HT_ (h := ?_)
  refine rP 5 8 38 63 HT_ (h := ?_)
  refine rU 6 9 38 127 HT_ (h := ?_)
  refine rU 7 10 38 255 HT_ (h := ?_)
  refine rU 8 11 38 511 HT_ (h := ?_)
  refine rU 9 12 38 1023 HT_ (h := ?_)
  refine rU 10 13 38 2047 HT_ (h := ?_)
  refine rU 11 14 38 4095 HT_ (h := ?_)
  refine rU 12 15 38 8191 HT_ (h := ?_)
  refine rU 13 16 38 16383 HT_ (h := ?_)
  refine rU 14 17 38 32767 HT_ (h := ?_)
  refine rP 15 18 38 65535 HT_ (h := ?_)
  refine rP 16 19 38 131071 HT_ (h := ?_)
  refine rU 17 20 38 262143 HT_ (h := ?_)
  refine rU 18 21 38 524287 HT_ (h := ?_)
  refine rU 19 22 38 1048575 HT_ (h := ?_)
  refine rU 20 23 38 2097151 HT_ (h := ?_)
  refine rU 21 24 38 4194303 HT_ (h := ?_)
  refine rP 22 25 38 8388607 HT_ (h := ?_)
  refine rP 23 26 38 16777215 HT_ (h := ?_)
  refine rU 24 27 38 33554431 HT_ (h := ?_)
  refine rU 25 28 38 67108863 HT_ (h := ?_)
  refine rU 26 29 38 134217727 HT_ (h := ?_)
  refine rU 27 30 38 268435455 HT_ (h := ?_)
  refine rU 28 31 38 536870911 HT_ (h := ?_)
  refine rU 29 32 38 1073741823 HT_ (h := ?_)
  refine rU 30 33 38 2147483647 HT_ (h := ?_)
  refine rP 31 34 38 4294967295 HT_ (h := ?_)
  refine rP 32 35 38 8589934591 HT_ (h := ?_)
  refine rU 33 36 38 17179869183 HT_ (h := ?_)
  refine rU 34 37 38 34359738367 HT_ (h := ?_)
  refine rU 35 38 38 68719476735 HT_ (h := ?_)
  refine rU 36 39 38 137438953471 HT_ (h := ?_)
  refine rP 37 40 38 274877906943 HT_ (h := ?_)
  refine done_ (done_of HT_.out Z121) ?_
  try go_wp2
  go_ret
  exact ⟨Z98,Z127⟩
 subst c3
 rw [if_pos rfl] at H
 obtain ⟨t286,A40,H⟩ := Option.bind_eq_some_iff.mp H
 have A4 := Aside0.mk A40
 clear A40
 obtain ⟨y289,hyy⟩ : ∃ y_ : List ByteArray,y_ = (([a0_1] : List ByteArray)) := ⟨_,rfl⟩
 replace H : (if t286.length + y289.length < 8796093022208 then ((impl_areNames.f k (t286 ++ y289)).bind fun t295 => (if t295 = true then ((impl_within.f (l0_2.length : Int) 1 40).bind fun t296 => (if t296 = true then (if (l0_3.length : Int) = (l0_2.length : Int) then ((impl_areDecimals.f k l0_3).bind fun t297 => (if t297 = true then ((impl_TableOk_1.f l0_2 l0_0).bind fun t298 => (some (!t298))) else (some false))) else (some false)) else (some false))) else (some false))) else (none)) = some r := zR
 have Ny289 := Aside0.mk hyy
 clear hyy
 obtain ⟨c5,H⟩ := ifp H
 have LMc5 := Aside0.mk c5
 clear c5
 obtain ⟨y292,hyy⟩ : ∃ y_ : List ByteArray,y_ = (t286 ++ y289) := ⟨_,rfl⟩
 replace H : ((impl_areNames.f k y292).bind fun t295 => (if t295 = true then ((impl_within.f (l0_2.length : Int) 1 40).bind fun t296 => (if t296 = true then (if (l0_3.length : Int) = (l0_2.length : Int) then ((impl_areDecimals.f k l0_3).bind fun t297 => (if t297 = true then ((impl_TableOk_1.f l0_2 l0_0).bind fun t298 => (some (!t298))) else (some false))) else (some false)) else (some false))) else (some false))) = some r := zR
 have Ny292 := Aside0.mk hyy
 clear hyy
 obtain ⟨t295,A60,H⟩ := Option.bind_eq_some_iff.mp H
 have A6 := Aside0.mk A60
 clear A60
 by_cases c7 : t295 = true
 rotate_left
 ·replace c7 := Bool.eq_false_iff.mpr c7
  subst c7
  rw [if_neg Bool.false_ne_true] at H
  obtain rfl := Option.some.inj H
  go_enter Tryd.func18,Tryd.ntmps18
  try go_wp2_with (first | ((with_reducible refine gate_dst (N := 1) rfl ?_);(try (refine gate_guard Z123 ?_;dsimp only));refine bE 1 #[.slice A0_0 l0_0.length c0_0,.string a0_1,.slice A0_2 l0_2.length c0_2,.slice A0_3 l0_3.length c0_3] 29 (h := ?_);intro gb284 hg w52 hbox hb;have n_ := Z3;clear HB;obtain ⟨HB,BK284,GW284,GE284⟩ := n_;clear hb hbox hg))
  have n_ := jA (blk_drew BK284.out) (Aside0.mk (below_drew1 HB.out))
  clear BK284 HB
  obtain ⟨BK284,HB⟩ := n_
  refine start_ (n := 38) (S := fun w' => w'.cell? ⟨gb284,0,none⟩ = some (.slice A0_0 l0_0.length c0_0) ∧ w'.cell? ⟨gb284,1,none⟩ = some (.string a0_1) ∧ w'.cell? ⟨gb284,2,none⟩ = some (.slice A0_2 l0_2.length c0_2) ∧ w'.cell? ⟨gb284,3,none⟩ = some (.slice A0_3 l0_3.length c0_3)) (ds := []) (qM 38 0) Z121 rfl (by kernel_rfl) ⟨bc BK284 0,bc BK284 1,bc BK284 2,bc BK284 3⟩ (fun hHeld => ?_);refine with_tabW impl_TableOk.tab1 impl_TableOk.bits1 (fun HT_ HW_ => ?_)
  generalize w52.drew = w53 at BK284 HB hHeld ⊢
  refine rP 0 3 38 1 HT_ (h := ?_)
  refine rT4 1 4 38 3 HT_ HW_ hHeld (h := ?_)
  refine rP 2 5 38 7 HT_ (h := ?_)
  refine rO 3 6 38 15 HT_ (h := fun K hK => ?_)
  refine goes_ Tryd.func32 Z121 rfl #[.int .i64 (l0_0.length : Int),.int .i64 1,.int .i64 4] Z123 rfl rfl Z66 ?_
  with_reducible refine (impl_within.calls (l0_0.length : Int) 1 4 true _ A2.out).mono ?_
  rintro e w' ⟨rfl,⟨nd,rfl⟩⟩
  refine ⟨_,rfl,?_⟩
  refine hK.out _ _ ⟨bc BK284 0,bc BK284 1,bc BK284 2,bc BK284 3⟩ (fun hHeld => ?_)
  clear hK K
  refine rN (h := ?_)
  refine rP 4 7 38 31 HT_ (h := ?_)
  refine rP 5 8 38 63 HT_ (h := ?_)
  refine rP 6 9 38 127 HT_ (h := ?_)
  refine rP 9 12 38 639 HT_ (h := ?_)
  refine rT4 7 10 38 767 HT_ HW_ hHeld (h := ?_)
  refine rT4 10 13 38 1791 HT_ HW_ hHeld (h := ?_)
  refine join_ (σ := Value × Value) 26 (qM 38 4095) (fun s_ => [(11,s_.1),(14,s_.2)]) (fun s_ w' => (w'.cell? ⟨gb284,0,none⟩ = some (.slice A0_0 l0_0.length c0_0) ∧ w'.cell? ⟨gb284,1,none⟩ = some (.string a0_1) ∧ w'.cell? ⟨gb284,2,none⟩ = some (.slice A0_2 l0_2.length c0_2) ∧ w'.cell? ⟨gb284,3,none⟩ = some (.slice A0_3 l0_3.length c0_3)) ∧ (Kd.R Kd.string 9 w' w.heap.size (fun k_ => some k_ ≠ (s_.2 : Value).ownBlock) s_.1 t286) ∧ (Kd.R Kd.string 9 w' w.heap.size (fun k_ => some k_ ≠ (s_.1 : Value).ownBlock) s_.2 y289) ∧ (w'.heap[gb284]? = some (.cells #[.slice A0_0 l0_0.length c0_0,.string a0_1,.slice A0_2 l0_2.length c0_2,.slice A0_3 l0_3.length c0_3] 29 (0,0))) ∧ (Below w.heap.size w w')) ?_ ?_
  rotate_left
  ·intro hCont
   refine two_ (i := 8) (j := 11) (Ni := some 11) (Nj := some 14) (qM 38 2047) (qM 38 3839) rfl rfl rfl rfl (two_of HT_.out Z121) Z145 Z145 (fun K hK => ?_) (fun K hK => ?_)
   ·skip
    refine goes_ Tryd.func19 Z121 rfl #[.slice A0_0 l0_0.length c0_0] Z123 rfl rfl Z66 ?_
    with_reducible refine (slices_Clone_string_string.calls _ _ l0_0 t286 _ ?side1 ?side2 A4.out).mono ?_
    (case side1 => exact Z24)
    (case side2 => exact Z118)
    rintro e w54 ⟨v287,rfl,ho0,hb⟩
    refine ⟨_,rfl,?_⟩
    have n_ := jA (Kd.R_lower ho0 (below_size Z127)) (jA (blk_below (g := gb284) (o := .cells #[.slice A0_0 l0_0.length c0_0,.string a0_1,.slice A0_2 l0_2.length c0_2,.slice A0_3 l0_3.length c0_3] 29 (0,0)) Z139 hb) (Aside0.mk (below_step Z127 hb)))
    clear BK284 HB
    obtain ⟨HO288,BK284,HB⟩ := n_
    (try clear hb)
    (try clear hb2)
    (try clear hk)
    (try clear hi)
    (try clear ho0)
    refine hK.out _ _ ⟨bc BK284 0,bc BK284 1,bc BK284 2,bc BK284 3⟩ (fun hHeld => ?_)
    clear hK K
    refine rN (h := ?_)
    refine rO 11 14 38 4095 HT_ (h := fun K hK => ?_)
    refine Kd.R_lit_step Kd.string _ 9 ?hg (N := 14) ?hd (xs := ([a0_1] : List ByteArray)) (inner := [.string a0_1]) (ok := fun _ => True) (okp := fun _ => True) ?hr ?hp (fun _ hk => hk) trivial (Below.refl _ _) (Nat.le_refl _) Z146 ?_;(case hd => rfl);(case hg => rfl);(case hr => exact Z107);(case hp => exact Z100)
    intro v290 w55 ho56 hb hg_ hnew_
    clear hg_ hnew_
    (first | rw [← Ny289.out] at ho56 | (simp only [Int.reduceToNat] at ho56;rw [← Ny289.out] at ho56))
    have n_ := jA (Kd.R_elder' Z136 (Kd.R_base ho56) hb) (jA (Kd.R_lower (Kd.R_new' ho56 (Kd.R_lt Z136)) (below_size Z127)) (jA (blk_below (g := gb284) (o := .cells #[.slice A0_0 l0_0.length c0_0,.string a0_1,.slice A0_2 l0_2.length c0_2,.slice A0_3 l0_3.length c0_3] 29 (0,0)) Z139 hb) (Aside0.mk (below_step Z127 hb))))
    clear HO288 BK284 HB
    obtain ⟨HO288,HO291,BK284,HB⟩ := n_
    clear hb ho56
    refine hK.out _ _ ⟨bc BK284 0,bc BK284 1,bc BK284 2,bc BK284 3⟩ (fun hHeld => ?_)
    clear hK K
    refine rN (h := ?_)
    exact norm_ Z99 (hCont (v287,v290) _ ⟨hHeld,Z68,Z67,Z139,Z127⟩)
   skip
   refine Kd.R_lit_step Kd.string _ 9 ?hg (N := 14) ?hd (xs := ([a0_1] : List ByteArray)) (inner := [.string a0_1]) (ok := fun _ => True) (okp := fun _ => True) ?hr ?hp (fun _ hk => hk) trivial (Below.refl _ _) (Nat.le_refl _) Z146 ?_;(case hd => rfl);(case hg => rfl);(case hr => exact Z107);(case hp => exact Z100)
   intro v290 w54 ho55 hb hg_ hnew_
   clear hg_ hnew_
   (first | rw [← Ny289.out] at ho55 | (simp only [Int.reduceToNat] at ho55;rw [← Ny289.out] at ho55))
   have n_ := jA (Kd.R_lower ho55 (below_size Z127)) (jA (blk_below (g := gb284) (o := .cells #[.slice A0_0 l0_0.length c0_0,.string a0_1,.slice A0_2 l0_2.length c0_2,.slice A0_3 l0_3.length c0_3] 29 (0,0)) Z139 hb) (Aside0.mk (below_step Z127 hb)))
   clear BK284 HB
   obtain ⟨HO291,BK284,HB⟩ := n_
   clear hb ho55
   refine hK.out _ _ ⟨bc BK284 0,bc BK284 1,bc BK284 2,bc BK284 3⟩ (fun hHeld => ?_)
   clear hK K
   refine rN (h := ?_)
   refine rO 8 11 38 4095 HT_ (h := fun K hK => ?_)
   refine goes_ Tryd.func19 Z121 rfl #[.slice A0_0 l0_0.length c0_0] Z123 rfl rfl Z66 ?_
   with_reducible refine (slices_Clone_string_string.calls _ _ l0_0 t286 _ ?side1 ?side2 A4.out).mono ?_
   (case side1 => exact Z41)
   (case side2 => exact Z118)
   rintro e w56 ⟨v287,rfl,ho0,hb⟩
   refine ⟨_,rfl,?_⟩
   have n_ := jA (Kd.R_elder' Z135 (Kd.R_base ho0) hb) (jA (Kd.R_lower (Kd.R_new' ho0 (Kd.R_lt Z135)) (below_size Z127)) (jA (blk_below (g := gb284) (o := .cells #[.slice A0_0 l0_0.length c0_0,.string a0_1,.slice A0_2 l0_2.length c0_2,.slice A0_3 l0_3.length c0_3] 29 (0,0)) Z139 hb) (Aside0.mk (below_step Z127 hb))))
   clear HO291 BK284 HB
   obtain ⟨HO291,HO288,BK284,HB⟩ := n_
   (try clear hb)
   (try clear hb2)
   (try clear hk)
   (try clear hi)
   (try clear ho0)
   refine hK.out _ _ ⟨bc BK284 0,bc BK284 1,bc BK284 2,bc BK284 3⟩ (fun hHeld => ?_)
   clear hK K
   refine rN (h := ?_)
   exact norm_ Z99 (hCont (v287,v290) _ ⟨hHeld,Z68,Z67,Z139,Z127⟩)
  rintro ⟨v287,v290⟩ w57 ⟨hS_,h0_,h1_,h2_,h3_⟩
  have n0_ : Aside0 (Kd.R Kd.string 9 w57 w.heap.size (fun k_ => some k_ ≠ (v290 : Value).ownBlock) v287 t286) := ⟨h0_⟩
  have n1_ : Aside0 (Kd.R Kd.string 9 w57 w.heap.size (fun k_ => some k_ ≠ (v287 : Value).ownBlock) v290 y289) := ⟨h1_⟩
  have n2_ : Aside0 (w57.heap[gb284]? = some (.cells #[.slice A0_0 l0_0.length c0_0,.string a0_1,.slice A0_2 l0_2.length c0_2,.slice A0_3 l0_3.length c0_3] 29 (0,0))) := ⟨h2_⟩
  have n3_ : Aside0 (Below w.heap.size w w57) := ⟨h3_⟩
  clear BK284
  clear HB
  clear h0_ h1_ h2_ h3_
  have HO288 := n0_
  have HO291 := n1_
  have BK284 := n2_
  have HB := n3_
  clear n0_ n1_ n2_ n3_
  have hHeld : w57.cell? ⟨gb284,0,none⟩ = some (.slice A0_0 l0_0.length c0_0) ∧ w57.cell? ⟨gb284,1,none⟩ = some (.string a0_1) ∧ w57.cell? ⟨gb284,2,none⟩ = some (.slice A0_2 l0_2.length c0_2) ∧ w57.cell? ⟨gb284,3,none⟩ = some (.slice A0_3 l0_3.length c0_3) := hS_
  obtain ⟨Ao59,co59,eo59⟩ := Kd.R_slice HO291.out
  (first | subst eo59 | (injection eo59 with f1_ f2_ f3_;have f4_ := f1_.symm;have f5_ := f3_.symm;clear f1_ f2_ f3_;subst f4_;subst f5_))
  refine norm_ (a' := ?_) ?_ ?_
  rotate_left
  ·simp only [putAll,Act.put,List.setIfInBounds_toArray,List.set_cons_zero,List.set_cons_succ]
   rfl
  refine rO 12 15 38 8191 HT_ (h := fun K hK => ?_)
  refine Kd.R_append_rows_step Kd.string (w0 := w) w.heap.size Z123 (.tmp 11) (.tmp 14) 22 9 (.string ⟨#[]⟩) 16 rfl Tryd.underlying22 info9 rfl Z145 Z122 v287 t286 y289 _ _ _ (fun k_ => some k_ ≠ (.slice Ao59 y289.length co59 : Value).ownBlock) (fun _ => False) rfl rfl ?aO ?aR (fun _ _ h => h) (fun _ h => h.elim) ?aF ?aB ?aS ?aL ?_
  (case aR => exact Z49)
  (case aB => exact Z46)
  (case aF => exact Z58)
  (case aO => exact Z73)
  (case aS => exact Z39)
  (case aL => exact Z115)
  intro v293 w58 ho hb hg hat
  rw [← Ny292.out] at ho
  have n_ := jA (blk_grown (g := gb284) (o := .cells #[.slice A0_0 l0_0.length c0_0,.string a0_1,.slice A0_2 l0_2.length c0_2,.slice A0_3 l0_3.length c0_3] 29 (0,0)) Z139 hg (Kd.R_ne HO288.out BK284.out Z145)) (jA (Kd.R_after (ok := (fun _ => True)) Z62 hg hat) (jA (hb) (Aside0.mk (ho))))
  clear BK284 HO291 HB HO288
  obtain ⟨BK284,HO291,HB,HO294⟩ := n_
  clear ho hb hg hat
  obtain ⟨Ao60,co60,eo60⟩ := Kd.R_slice HO294.out
  (first | subst eo60 | (injection eo60 with f1_ f2_ f3_;have f4_ := f1_.symm;have f5_ := f3_.symm;clear f1_ f2_ f3_;subst f4_;subst f5_))
  refine hK.out _ _ ⟨bc BK284 0,bc BK284 1,bc BK284 2,bc BK284 3⟩ (fun hHeld => ?_)
  clear hK K
  refine rN (h := ?_)
  refine rO 13 16 38 16383 HT_ (h := fun K hK => ?_)
  refine goes_ Tryd.func33 Z121 rfl #[.slice Ao60 y292.length co60] Z123 rfl rfl Z66 ?_
  with_reducible refine (impl_areNames.calls k _ _ y292 false _ ?side1 ?side2 A6.out).mono ?_
  (case side1 => exact Z48)
  (case side2 => exact Z111)
  rintro e w' ⟨rfl,⟨nd,rfl⟩⟩
  refine ⟨_,rfl,?_⟩
  refine hK.out _ _ ⟨bc BK284 0,bc BK284 1,bc BK284 2,bc BK284 3⟩ (fun hHeld => ?_)
  clear hK K
  refine rN (h := ?_)
  refine rP 14 17 38 32767 HT_ (h := ?_)
  refine rP 15 18 38 65535 HT_ (h := ?_)
  refine rP 16 19 38 131071 HT_ (h := ?_)
  refine rU 17 20 38 262143 HT_ (h := ?_)
  refine rU 18 21 38 524287 HT_ (h := ?_)
  refine rU 19 22 38 1048575 HT_ (h := ?_)
  refine rU 20 23 38 2097151 HT_ (h := ?_)
  refine rU 21 24 38 4194303 HT_ (h := ?_)
  refine rP 22 25 38 8388607 HT_ (h := ?_)
  refine rP 23 26 38 16777215 HT_ (h := ?_)
  refine rU 24 27 38 33554431 HT_ (h := ?_)
  refine rU 25 28 38 67108863 HT_ (h := ?_)
  refine rU 26 29 38 134217727 HT_ (h := ?_)
  refine rU 27 30 38 268435455 HT_ (h := ?_)
  refine rU 28 31 38 536870911 HT_ (h := ?_)
  refine rU 29 32 38 1073741823 HT_ (h := ?_)
  refine rU 30 33 38 2147483647 HT_ (h := ?_)
  refine rP 31 34 38 4294967295 HT_ (h := ?_)
  refine rP 32 35 38 8589934591 HT_ (h := ?_)
  refine rU 33 36 38 17179869183 HT_ (h := ?_)
  refine rU 34 37 38 34359738367 HT_ (h := ?_)
  refine rU 35 38 38 68719476735 HT_ (h := ?_)
  refine rU 36 39 38 137438953471 HT_ (h := ?_)
  refine rP 37 40 38 274877906943 HT_ (h := ?_)
  refine done_ (done_of HT_.out Z121) ?_
  try go_wp2
  go_ret
  exact ⟨Z98,Z127⟩
 subst c7
 rw [if_pos rfl] at H
 obtain ⟨t296,A80,H⟩ := Option.bind_eq_some_iff.mp H
 have A8 := Aside0.mk A80
 clear A80
 by_cases c9 : t296 = true
 rotate_left
 ·replace c9 := Bool.eq_false_iff.mpr c9
  subst c9
  rw [if_neg Bool.false_ne_true] at H
  obtain rfl := Option.some.inj H
  go_enter Tryd.func18,Tryd.ntmps18
  try go_wp2_with (first | ((with_reducible refine gate_dst (N := 1) rfl ?_);(try (refine gate_guard Z123 ?_;dsimp only));refine bE 1 #[.slice A0_0 l0_0.length c0_0,.string a0_1,.slice A0_2 l0_2.length c0_2,.slice A0_3 l0_3.length c0_3] 29 (h := ?_);intro gb284 hg w43 hbox hb;have n_ := Z3;clear HB;obtain ⟨HB,BK284,GW284,GE284⟩ := n_;clear hb hbox hg))
  have n_ := jA (blk_drew BK284.out) (Aside0.mk (below_drew1 HB.out))
  clear BK284 HB
  obtain ⟨BK284,HB⟩ := n_
  refine start_ (n := 38) (S := fun w' => w'.cell? ⟨gb284,0,none⟩ = some (.slice A0_0 l0_0.length c0_0) ∧ w'.cell? ⟨gb284,1,none⟩ = some (.string a0_1) ∧ w'.cell? ⟨gb284,2,none⟩ = some (.slice A0_2 l0_2.length c0_2) ∧ w'.cell? ⟨gb284,3,none⟩ = some (.slice A0_3 l0_3.length c0_3)) (ds := []) (qM 38 0) Z121 rfl (by kernel_rfl) ⟨bc BK284 0,bc BK284 1,bc BK284 2,bc BK284 3⟩ (fun hHeld => ?_);refine with_tabW impl_TableOk.tab1 impl_TableOk.bits1 (fun HT_ HW_ => ?_)
  generalize w43.drew = w44 at BK284 HB hHeld ⊢
  refine rP 0 3 38 1 HT_ (h := ?_)
  refine rT4 1 4 38 3 HT_ HW_ hHeld (h := ?_)
  refine rP 2 5 38 7 HT_ (h := ?_)
  refine rO 3 6 38 15 HT_ (h := fun K hK => ?_)
  refine goes_ Tryd.func32 Z121 rfl #[.int .i64 (l0_0.length : Int),.int .i64 1,.int .i64 4] Z123 rfl rfl Z66 ?_
  with_reducible refine (impl_within.calls (l0_0.length : Int) 1 4 true _ A2.out).mono ?_
  rintro e w' ⟨rfl,⟨nd,rfl⟩⟩
  refine ⟨_,rfl,?_⟩
  refine hK.out _ _ ⟨bc BK284 0,bc BK284 1,bc BK284 2,bc BK284 3⟩ (fun hHeld => ?_)
  clear hK K
  refine rN (h := ?_)
  refine rP 4 7 38 31 HT_ (h := ?_)
  refine rP 5 8 38 63 HT_ (h := ?_)
  refine rP 6 9 38 127 HT_ (h := ?_)
  refine rP 9 12 38 639 HT_ (h := ?_)
  refine rT4 7 10 38 767 HT_ HW_ hHeld (h := ?_)
  refine rT4 10 13 38 1791 HT_ HW_ hHeld (h := ?_)
  refine join_ (σ := Value × Value) 26 (qM 38 4095) (fun s_ => [(11,s_.1),(14,s_.2)]) (fun s_ w' => (w'.cell? ⟨gb284,0,none⟩ = some (.slice A0_0 l0_0.length c0_0) ∧ w'.cell? ⟨gb284,1,none⟩ = some (.string a0_1) ∧ w'.cell? ⟨gb284,2,none⟩ = some (.slice A0_2 l0_2.length c0_2) ∧ w'.cell? ⟨gb284,3,none⟩ = some (.slice A0_3 l0_3.length c0_3)) ∧ (Kd.R Kd.string 9 w' w.heap.size (fun k_ => some k_ ≠ (s_.2 : Value).ownBlock) s_.1 t286) ∧ (Kd.R Kd.string 9 w' w.heap.size (fun k_ => some k_ ≠ (s_.1 : Value).ownBlock) s_.2 y289) ∧ (w'.heap[gb284]? = some (.cells #[.slice A0_0 l0_0.length c0_0,.string a0_1,.slice A0_2 l0_2.length c0_2,.slice A0_3 l0_3.length c0_3] 29 (0,0))) ∧ (Below w.heap.size w w')) ?_ ?_
  rotate_left
  ·intro hCont
   refine two_ (i := 8) (j := 11) (Ni := some 11) (Nj := some 14) (qM 38 2047) (qM 38 3839) rfl rfl rfl rfl (two_of HT_.out Z121) Z145 Z145 (fun K hK => ?_) (fun K hK => ?_)
   ·skip
    refine goes_ Tryd.func19 Z121 rfl #[.slice A0_0 l0_0.length c0_0] Z123 rfl rfl Z66 ?_
    with_reducible refine (slices_Clone_string_string.calls _ _ l0_0 t286 _ ?side1 ?side2 A4.out).mono ?_
    (case side1 => exact Z24)
    (case side2 => exact Z118)
    rintro e w45 ⟨v287,rfl,ho0,hb⟩
    refine ⟨_,rfl,?_⟩
    have n_ := jA (Kd.R_lower ho0 (below_size Z127)) (jA (blk_below (g := gb284) (o := .cells #[.slice A0_0 l0_0.length c0_0,.string a0_1,.slice A0_2 l0_2.length c0_2,.slice A0_3 l0_3.length c0_3] 29 (0,0)) Z139 hb) (Aside0.mk (below_step Z127 hb)))
    clear BK284 HB
    obtain ⟨HO288,BK284,HB⟩ := n_
    (try clear hb)
    (try clear hb2)
    (try clear hk)
    (try clear hi)
    (try clear ho0)
    refine hK.out _ _ ⟨bc BK284 0,bc BK284 1,bc BK284 2,bc BK284 3⟩ (fun hHeld => ?_)
    clear hK K
    refine rN (h := ?_)
    refine rO 11 14 38 4095 HT_ (h := fun K hK => ?_)
    refine Kd.R_lit_step Kd.string _ 9 ?hg (N := 14) ?hd (xs := ([a0_1] : List ByteArray)) (inner := [.string a0_1]) (ok := fun _ => True) (okp := fun _ => True) ?hr ?hp (fun _ hk => hk) trivial (Below.refl _ _) (Nat.le_refl _) Z146 ?_;(case hd => rfl);(case hg => rfl);(case hr => exact Z107);(case hp => exact Z100)
    intro v290 w46 ho47 hb hg_ hnew_
    clear hg_ hnew_
    (first | rw [← Ny289.out] at ho47 | (simp only [Int.reduceToNat] at ho47;rw [← Ny289.out] at ho47))
    have n_ := jA (Kd.R_elder' Z136 (Kd.R_base ho47) hb) (jA (Kd.R_lower (Kd.R_new' ho47 (Kd.R_lt Z136)) (below_size Z127)) (jA (blk_below (g := gb284) (o := .cells #[.slice A0_0 l0_0.length c0_0,.string a0_1,.slice A0_2 l0_2.length c0_2,.slice A0_3 l0_3.length c0_3] 29 (0,0)) Z139 hb) (Aside0.mk (below_step Z127 hb))))
    clear HO288 BK284 HB
    obtain ⟨HO288,HO291,BK284,HB⟩ := n_
    clear hb ho47
    refine hK.out _ _ ⟨bc BK284 0,bc BK284 1,bc BK284 2,bc BK284 3⟩ (fun hHeld => ?_)
    clear hK K
    refine rN (h := ?_)
    exact norm_ Z99 (hCont (v287,v290) _ ⟨hHeld,Z68,Z67,Z139,Z127⟩)
   skip
   refine Kd.R_lit_step Kd.string _ 9 ?hg (N := 14) ?hd (xs := ([a0_1] : List ByteArray)) (inner := [.string a0_1]) (ok := fun _ => True) (okp := fun _ => True) ?hr ?hp (fun _ hk => hk) trivial (Below.refl _ _) (Nat.le_refl _) Z146 ?_;(case hd => rfl);(case hg => rfl);(case hr => exact Z107);(case hp => exact Z100)
   intro v290 w45 ho46 hb hg_ hnew_
   clear hg_ hnew_
   (first | rw [← Ny289.out] at ho46 | (simp only [Int.reduceToNat] at ho46;rw [← Ny289.out] at ho46))
   have n_ := jA (Kd.R_lower ho46 (below_size Z127)) (jA (blk_below (g := gb284) (o := .cells #[.slice A0_0 l0_0.length c0_0,.string a0_1,.slice A0_2 l0_2.length c0_2,.slice A0_3 l0_3.length c0_3] 29 (0,0)) Z139 hb) (Aside0.mk (below_step Z127 hb)))
   clear BK284 HB
   obtain ⟨HO291,BK284,HB⟩ := n_
   clear hb ho46
   refine hK.out _ _ ⟨bc BK284 0,bc BK284 1,bc BK284 2,bc BK284 3⟩ (fun hHeld => ?_)
   clear hK K
   refine rN (h := ?_)
   refine rO 8 11 38 4095 HT_ (h := fun K hK => ?_)
   refine goes_ Tryd.func19 Z121 rfl #[.slice A0_0 l0_0.length c0_0] Z123 rfl rfl Z66 ?_
   with_reducible refine (slices_Clone_string_string.calls _ _ l0_0 t286 _ ?side1 ?side2 A4.out).mono ?_
   (case side1 => exact Z41)
   (case side2 => exact Z118)
   rintro e w47 ⟨v287,rfl,ho0,hb⟩
   refine ⟨_,rfl,?_⟩
   have n_ := jA (Kd.R_elder' Z135 (Kd.R_base ho0) hb) (jA (Kd.R_lower (Kd.R_new' ho0 (Kd.R_lt Z135)) (below_size Z127)) (jA (blk_below (g := gb284) (o := .cells #[.slice A0_0 l0_0.length c0_0,.string a0_1,.slice A0_2 l0_2.length c0_2,.slice A0_3 l0_3.length c0_3] 29 (0,0)) Z139 hb) (Aside0.mk (below_step Z127 hb))))
   clear HO291 BK284 HB
   obtain ⟨HO291,HO288,BK284,HB⟩ := n_
   (try clear hb)
   (try clear hb2)
   (try clear hk)
   (try clear hi)
   (try clear ho0)
   refine hK.out _ _ ⟨bc BK284 0,bc BK284 1,bc BK284 2,bc BK284 3⟩ (fun hHeld => ?_)
   clear hK K
   refine rN (h := ?_)
   exact norm_ Z99 (hCont (v287,v290) _ ⟨hHeld,Z68,Z67,Z139,Z127⟩)
  rintro ⟨v287,v290⟩ w48 ⟨hS_,h0_,h1_,h2_,h3_⟩
  have n0_ : Aside0 (Kd.R Kd.string 9 w48 w.heap.size (fun k_ => some k_ ≠ (v290 : Value).ownBlock) v287 t286) := ⟨h0_⟩
  have n1_ : Aside0 (Kd.R Kd.string 9 w48 w.heap.size (fun k_ => some k_ ≠ (v287 : Value).ownBlock) v290 y289) := ⟨h1_⟩
  have n2_ : Aside0 (w48.heap[gb284]? = some (.cells #[.slice A0_0 l0_0.length c0_0,.string a0_1,.slice A0_2 l0_2.length c0_2,.slice A0_3 l0_3.length c0_3] 29 (0,0))) := ⟨h2_⟩
  have n3_ : Aside0 (Below w.heap.size w w48) := ⟨h3_⟩
  clear BK284
  clear HB
  clear h0_ h1_ h2_ h3_
  have HO288 := n0_
  have HO291 := n1_
  have BK284 := n2_
  have HB := n3_
  clear n0_ n1_ n2_ n3_
  have hHeld : w48.cell? ⟨gb284,0,none⟩ = some (.slice A0_0 l0_0.length c0_0) ∧ w48.cell? ⟨gb284,1,none⟩ = some (.string a0_1) ∧ w48.cell? ⟨gb284,2,none⟩ = some (.slice A0_2 l0_2.length c0_2) ∧ w48.cell? ⟨gb284,3,none⟩ = some (.slice A0_3 l0_3.length c0_3) := hS_
  obtain ⟨Ao50,co50,eo50⟩ := Kd.R_slice HO291.out
  (first | subst eo50 | (injection eo50 with f1_ f2_ f3_;have f4_ := f1_.symm;have f5_ := f3_.symm;clear f1_ f2_ f3_;subst f4_;subst f5_))
  refine norm_ (a' := ?_) ?_ ?_
  rotate_left
  ·simp only [putAll,Act.put,List.setIfInBounds_toArray,List.set_cons_zero,List.set_cons_succ]
   rfl
  refine rO 12 15 38 8191 HT_ (h := fun K hK => ?_)
  refine Kd.R_append_rows_step Kd.string (w0 := w) w.heap.size Z123 (.tmp 11) (.tmp 14) 22 9 (.string ⟨#[]⟩) 16 rfl Tryd.underlying22 info9 rfl Z145 Z122 v287 t286 y289 _ _ _ (fun k_ => some k_ ≠ (.slice Ao50 y289.length co50 : Value).ownBlock) (fun _ => False) rfl rfl ?aO ?aR (fun _ _ h => h) (fun _ h => h.elim) ?aF ?aB ?aS ?aL ?_
  (case aR => exact Z49)
  (case aB => exact Z46)
  (case aF => exact Z58)
  (case aO => exact Z73)
  (case aS => exact Z39)
  (case aL => exact Z115)
  intro v293 w49 ho hb hg hat
  rw [← Ny292.out] at ho
  have n_ := jA (blk_grown (g := gb284) (o := .cells #[.slice A0_0 l0_0.length c0_0,.string a0_1,.slice A0_2 l0_2.length c0_2,.slice A0_3 l0_3.length c0_3] 29 (0,0)) Z139 hg (Kd.R_ne HO288.out BK284.out Z145)) (jA (Kd.R_after (ok := (fun _ => True)) Z62 hg hat) (jA (hb) (Aside0.mk (ho))))
  clear BK284 HO291 HB HO288
  obtain ⟨BK284,HO291,HB,HO294⟩ := n_
  clear ho hb hg hat
  obtain ⟨Ao51,co51,eo51⟩ := Kd.R_slice HO294.out
  (first | subst eo51 | (injection eo51 with f1_ f2_ f3_;have f4_ := f1_.symm;have f5_ := f3_.symm;clear f1_ f2_ f3_;subst f4_;subst f5_))
  refine hK.out _ _ ⟨bc BK284 0,bc BK284 1,bc BK284 2,bc BK284 3⟩ (fun hHeld => ?_)
  clear hK K
  refine rN (h := ?_)
  refine rO 13 16 38 16383 HT_ (h := fun K hK => ?_)
  refine goes_ Tryd.func33 Z121 rfl #[.slice Ao51 y292.length co51] Z123 rfl rfl Z66 ?_
  with_reducible refine (impl_areNames.calls k _ _ y292 true _ ?side1 ?side2 A6.out).mono ?_
  (case side1 => exact Z48)
  (case side2 => exact Z111)
  rintro e w' ⟨rfl,⟨nd,rfl⟩⟩
  refine ⟨_,rfl,?_⟩
  refine hK.out _ _ ⟨bc BK284 0,bc BK284 1,bc BK284 2,bc BK284 3⟩ (fun hHeld => ?_)
  clear hK K
  refine rN (h := ?_)
  refine rP 14 17 38 32767 HT_ (h := ?_)
  refine rP 15 18 38 65535 HT_ (h := ?_)
  refine rP 16 19 38 131071 HT_ (h := ?_)
  refine rP 17 20 38 262143 HT_ (h := ?_)
  refine rT4 18 21 38 524287 HT_ HW_ hHeld (h := ?_)
  refine rP 19 22 38 1048575 HT_ (h := ?_)
  refine rO 20 23 38 2097151 HT_ (h := fun K hK => ?_)
  refine goes_ Tryd.func32 Z121 rfl #[.int .i64 (l0_2.length : Int),.int .i64 1,.int .i64 40] Z123 rfl rfl Z66 ?_
  with_reducible refine (impl_within.calls (l0_2.length : Int) 1 40 false _ A8.out).mono ?_
  rintro e w' ⟨rfl,⟨nd,rfl⟩⟩
  refine ⟨_,rfl,?_⟩
  refine hK.out _ _ ⟨bc BK284 0,bc BK284 1,bc BK284 2,bc BK284 3⟩ (fun hHeld => ?_)
  clear hK K
  refine rN (h := ?_)
  refine rP 21 24 38 4194303 HT_ (h := ?_)
  refine rP 22 25 38 8388607 HT_ (h := ?_)
  refine rP 23 26 38 16777215 HT_ (h := ?_)
  refine rU 24 27 38 33554431 HT_ (h := ?_)
  refine rU 25 28 38 67108863 HT_ (h := ?_)
  refine rU 26 29 38 134217727 HT_ (h := ?_)
  refine rU 27 30 38 268435455 HT_ (h := ?_)
  refine rU 28 31 38 536870911 HT_ (h := ?_)
  refine rU 29 32 38 1073741823 HT_ (h := ?_)
  refine rU 30 33 38 2147483647 HT_ (h := ?_)
  refine rP 31 34 38 4294967295 HT_ (h := ?_)
  refine rP 32 35 38 8589934591 HT_ (h := ?_)
  refine rU 33 36 38 17179869183 HT_ (h := ?_)
  refine rU 34 37 38 34359738367 HT_ (h := ?_)
  refine rU 35 38 38 68719476735 HT_ (h := ?_)
  refine rU 36 39 38 137438953471 HT_ (h := ?_)
  refine rP 37 40 38 274877906943 HT_ (h := ?_)
  refine done_ (done_of HT_.out Z121) ?_
  try go_wp2
  go_ret
  exact ⟨Z98,Z127⟩
 subst c9
 rw [if_pos rfl] at H
 by_cases c10 : (l0_3.length : Int) = (l0_2.length : Int)
 rotate_left
 ·rw [if_neg c10] at H
  have c10b0 : ((l0_3.length : Int) == (l0_2.length : Int)) = false := beq_eq_false_iff_ne.mpr c10
  have c10b1 : ((l0_3.length : Int) != (l0_2.length : Int)) = true := bne_iff_ne.mpr c10
  have c10b2 : (l0_3.length == l0_2.length) = false := by first | simpa using c10 | (simp at c10 ⊢;omega)
  obtain rfl := Option.some.inj H
  go_enter Tryd.func18,Tryd.ntmps18
  try go_wp2_with (first | ((with_reducible refine gate_dst (N := 1) rfl ?_);(try (refine gate_guard Z123 ?_;dsimp only));refine bE 1 #[.slice A0_0 l0_0.length c0_0,.string a0_1,.slice A0_2 l0_2.length c0_2,.slice A0_3 l0_3.length c0_3] 29 (h := ?_);intro gb284 hg w34 hbox hb;have n_ := Z3;clear HB;obtain ⟨HB,BK284,GW284,GE284⟩ := n_;clear hb hbox hg))
  have n_ := jA (blk_drew BK284.out) (Aside0.mk (below_drew1 HB.out))
  clear BK284 HB
  obtain ⟨BK284,HB⟩ := n_
  refine start_ (n := 38) (S := fun w' => w'.cell? ⟨gb284,0,none⟩ = some (.slice A0_0 l0_0.length c0_0) ∧ w'.cell? ⟨gb284,1,none⟩ = some (.string a0_1) ∧ w'.cell? ⟨gb284,2,none⟩ = some (.slice A0_2 l0_2.length c0_2) ∧ w'.cell? ⟨gb284,3,none⟩ = some (.slice A0_3 l0_3.length c0_3)) (ds := []) (qM 38 0) Z121 rfl (by kernel_rfl) ⟨bc BK284 0,bc BK284 1,bc BK284 2,bc BK284 3⟩ (fun hHeld => ?_);refine with_tabW impl_TableOk.tab1 impl_TableOk.bits1 (fun HT_ HW_ => ?_)
  generalize w34.drew = w35 at BK284 HB hHeld ⊢
  refine rP 0 3 38 1 HT_ (h := ?_)
  refine rT4 1 4 38 3 HT_ HW_ hHeld (h := ?_)
  refine rP 2 5 38 7 HT_ (h := ?_)
  refine rO 3 6 38 15 HT_ (h := fun K hK => ?_)
  refine goes_ Tryd.func32 Z121 rfl #[.int .i64 (l0_0.length : Int),.int .i64 1,.int .i64 4] Z123 rfl rfl Z66 ?_
  with_reducible refine (impl_within.calls (l0_0.length : Int) 1 4 true _ A2.out).mono ?_
  rintro e w' ⟨rfl,⟨nd,rfl⟩⟩
  refine ⟨_,rfl,?_⟩
  refine hK.out _ _ ⟨bc BK284 0,bc BK284 1,bc BK284 2,bc BK284 3⟩ (fun hHeld => ?_)
  clear hK K
  refine rN (h := ?_)
  refine rP 4 7 38 31 HT_ (h := ?_)
  refine rP 5 8 38 63 HT_ (h := ?_)
  refine rP 6 9 38 127 HT_ (h := ?_)
  refine rP 9 12 38 639 HT_ (h := ?_)
  refine rT4 7 10 38 767 HT_ HW_ hHeld (h := ?_)
  refine rT4 10 13 38 1791 HT_ HW_ hHeld (h := ?_)
  refine join_ (σ := Value × Value) 26 (qM 38 4095) (fun s_ => [(11,s_.1),(14,s_.2)]) (fun s_ w' => (w'.cell? ⟨gb284,0,none⟩ = some (.slice A0_0 l0_0.length c0_0) ∧ w'.cell? ⟨gb284,1,none⟩ = some (.string a0_1) ∧ w'.cell? ⟨gb284,2,none⟩ = some (.slice A0_2 l0_2.length c0_2) ∧ w'.cell? ⟨gb284,3,none⟩ = some (.slice A0_3 l0_3.length c0_3)) ∧ (Kd.R Kd.string 9 w' w.heap.size (fun k_ => some k_ ≠ (s_.2 : Value).ownBlock) s_.1 t286) ∧ (Kd.R Kd.string 9 w' w.heap.size (fun k_ => some k_ ≠ (s_.1 : Value).ownBlock) s_.2 y289) ∧ (w'.heap[gb284]? = some (.cells #[.slice A0_0 l0_0.length c0_0,.string a0_1,.slice A0_2 l0_2.length c0_2,.slice A0_3 l0_3.length c0_3] 29 (0,0))) ∧ (Below w.heap.size w w')) ?_ ?_
  rotate_left
  ·intro hCont
   refine two_ (i := 8) (j := 11) (Ni := some 11) (Nj := some 14) (qM 38 2047) (qM 38 3839) rfl rfl rfl rfl (two_of HT_.out Z121) Z145 Z145 (fun K hK => ?_) (fun K hK => ?_)
   ·skip
    refine goes_ Tryd.func19 Z121 rfl #[.slice A0_0 l0_0.length c0_0] Z123 rfl rfl Z66 ?_
    with_reducible refine (slices_Clone_string_string.calls _ _ l0_0 t286 _ ?side1 ?side2 A4.out).mono ?_
    (case side1 => exact Z24)
    (case side2 => exact Z118)
    rintro e w36 ⟨v287,rfl,ho0,hb⟩
    refine ⟨_,rfl,?_⟩
    have n_ := jA (Kd.R_lower ho0 (below_size Z127)) (jA (blk_below (g := gb284) (o := .cells #[.slice A0_0 l0_0.length c0_0,.string a0_1,.slice A0_2 l0_2.length c0_2,.slice A0_3 l0_3.length c0_3] 29 (0,0)) Z139 hb) (Aside0.mk (below_step Z127 hb)))
    clear BK284 HB
    obtain ⟨HO288,BK284,HB⟩ := n_
    (try clear hb)
    (try clear hb2)
    (try clear hk)
    (try clear hi)
    (try clear ho0)
    refine hK.out _ _ ⟨bc BK284 0,bc BK284 1,bc BK284 2,bc BK284 3⟩ (fun hHeld => ?_)
    clear hK K
    refine rN (h := ?_)
    refine rO 11 14 38 4095 HT_ (h := fun K hK => ?_)
    refine Kd.R_lit_step Kd.string _ 9 ?hg (N := 14) ?hd (xs := ([a0_1] : List ByteArray)) (inner := [.string a0_1]) (ok := fun _ => True) (okp := fun _ => True) ?hr ?hp (fun _ hk => hk) trivial (Below.refl _ _) (Nat.le_refl _) Z146 ?_;(case hd => rfl);(case hg => rfl);(case hr => exact Z107);(case hp => exact Z100)
    intro v290 w37 ho38 hb hg_ hnew_
    clear hg_ hnew_
    (first | rw [← Ny289.out] at ho38 | (simp only [Int.reduceToNat] at ho38;rw [← Ny289.out] at ho38))
    have n_ := jA (Kd.R_elder' Z136 (Kd.R_base ho38) hb) (jA (Kd.R_lower (Kd.R_new' ho38 (Kd.R_lt Z136)) (below_size Z127)) (jA (blk_below (g := gb284) (o := .cells #[.slice A0_0 l0_0.length c0_0,.string a0_1,.slice A0_2 l0_2.length c0_2,.slice A0_3 l0_3.length c0_3] 29 (0,0)) Z139 hb) (Aside0.mk (below_step Z127 hb))))
    clear HO288 BK284 HB
    obtain ⟨HO288,HO291,BK284,HB⟩ := n_
    clear hb ho38
    refine hK.out _ _ ⟨bc BK284 0,bc BK284 1,bc BK284 2,bc BK284 3⟩ (fun hHeld => ?_)
    clear hK K
    refine rN (h := ?_)
    exact norm_ Z99 (hCont (v287,v290) _ ⟨hHeld,Z68,Z67,Z139,Z127⟩)
   skip
   refine Kd.R_lit_step Kd.string _ 9 ?hg (N := 14) ?hd (xs := ([a0_1] : List ByteArray)) (inner := [.string a0_1]) (ok := fun _ => True) (okp := fun _ => True) ?hr ?hp (fun _ hk => hk) trivial (Below.refl _ _) (Nat.le_refl _) Z146 ?_;(case hd => rfl);(case hg => rfl);(case hr => exact Z107);(case hp => exact Z100)
   intro v290 w36 ho37 hb hg_ hnew_
   clear hg_ hnew_
   (first | rw [← Ny289.out] at ho37 | (simp only [Int.reduceToNat] at ho37;rw [← Ny289.out] at ho37))
   have n_ := jA (Kd.R_lower ho37 (below_size Z127)) (jA (blk_below (g := gb284) (o := .cells #[.slice A0_0 l0_0.length c0_0,.string a0_1,.slice A0_2 l0_2.length c0_2,.slice A0_3 l0_3.length c0_3] 29 (0,0)) Z139 hb) (Aside0.mk (below_step Z127 hb)))
   clear BK284 HB
   obtain ⟨HO291,BK284,HB⟩ := n_
   clear hb ho37
   refine hK.out _ _ ⟨bc BK284 0,bc BK284 1,bc BK284 2,bc BK284 3⟩ (fun hHeld => ?_)
   clear hK K
   refine rN (h := ?_)
   refine rO 8 11 38 4095 HT_ (h := fun K hK => ?_)
   refine goes_ Tryd.func19 Z121 rfl #[.slice A0_0 l0_0.length c0_0] Z123 rfl rfl Z66 ?_
   with_reducible refine (slices_Clone_string_string.calls _ _ l0_0 t286 _ ?side1 ?side2 A4.out).mono ?_
   (case side1 => exact Z41)
   (case side2 => exact Z118)
   rintro e w38 ⟨v287,rfl,ho0,hb⟩
   refine ⟨_,rfl,?_⟩
   have n_ := jA (Kd.R_elder' Z135 (Kd.R_base ho0) hb) (jA (Kd.R_lower (Kd.R_new' ho0 (Kd.R_lt Z135)) (below_size Z127)) (jA (blk_below (g := gb284) (o := .cells #[.slice A0_0 l0_0.length c0_0,.string a0_1,.slice A0_2 l0_2.length c0_2,.slice A0_3 l0_3.length c0_3] 29 (0,0)) Z139 hb) (Aside0.mk (below_step Z127 hb))))
   clear HO291 BK284 HB
   obtain ⟨HO291,HO288,BK284,HB⟩ := n_
   (try clear hb)
   (try clear hb2)
   (try clear hk)
   (try clear hi)
   (try clear ho0)
   refine hK.out _ _ ⟨bc BK284 0,bc BK284 1,bc BK284 2,bc BK284 3⟩ (fun hHeld => ?_)
   clear hK K
   refine rN (h := ?_)
   exact norm_ Z99 (hCont (v287,v290) _ ⟨hHeld,Z68,Z67,Z139,Z127⟩)
  rintro ⟨v287,v290⟩ w39 ⟨hS_,h0_,h1_,h2_,h3_⟩
  have n0_ : Aside0 (Kd.R Kd.string 9 w39 w.heap.size (fun k_ => some k_ ≠ (v290 : Value).ownBlock) v287 t286) := ⟨h0_⟩
  have n1_ : Aside0 (Kd.R Kd.string 9 w39 w.heap.size (fun k_ => some k_ ≠ (v287 : Value).ownBlock) v290 y289) := ⟨h1_⟩
  have n2_ : Aside0 (w39.heap[gb284]? = some (.cells #[.slice A0_0 l0_0.length c0_0,.string a0_1,.slice A0_2 l0_2.length c0_2,.slice A0_3 l0_3.length c0_3] 29 (0,0))) := ⟨h2_⟩
  have n3_ : Aside0 (Below w.heap.size w w39) := ⟨h3_⟩
  clear BK284
  clear HB
  clear h0_ h1_ h2_ h3_
  have HO288 := n0_
  have HO291 := n1_
  have BK284 := n2_
  have HB := n3_
  clear n0_ n1_ n2_ n3_
  have hHeld : w39.cell? ⟨gb284,0,none⟩ = some (.slice A0_0 l0_0.length c0_0) ∧ w39.cell? ⟨gb284,1,none⟩ = some (.string a0_1) ∧ w39.cell? ⟨gb284,2,none⟩ = some (.slice A0_2 l0_2.length c0_2) ∧ w39.cell? ⟨gb284,3,none⟩ = some (.slice A0_3 l0_3.length c0_3) := hS_
  obtain ⟨Ao41,co41,eo41⟩ := Kd.R_slice HO291.out
  (first | subst eo41 | (injection eo41 with f1_ f2_ f3_;have f4_ := f1_.symm;have f5_ := f3_.symm;clear f1_ f2_ f3_;subst f4_;subst f5_))
  refine norm_ (a' := ?_) ?_ ?_
  rotate_left
  ·simp only [putAll,Act.put,List.setIfInBounds_toArray,List.set_cons_zero,List.set_cons_succ]
   rfl
  refine rO 12 15 38 8191 HT_ (h := fun K hK => ?_)
  refine Kd.R_append_rows_step Kd.string (w0 := w) w.heap.size Z123 (.tmp 11) (.tmp 14) 22 9 (.string ⟨#[]⟩) 16 rfl Tryd.underlying22 info9 rfl Z145 Z122 v287 t286 y289 _ _ _ (fun k_ => some k_ ≠ (.slice Ao41 y289.length co41 : Value).ownBlock) (fun _ => False) rfl rfl ?aO ?aR (fun _ _ h => h) (fun _ h => h.elim) ?aF ?aB ?aS ?aL ?_
  (case aR => exact Z49)
  (case aB => exact Z46)
  (case aF => exact Z58)
  (case aO => exact Z73)
  (case aS => exact Z39)
  (case aL => exact Z115)
  intro v293 w40 ho hb hg hat
  rw [← Ny292.out] at ho
  have n_ := jA (blk_grown (g := gb284) (o := .cells #[.slice A0_0 l0_0.length c0_0,.string a0_1,.slice A0_2 l0_2.length c0_2,.slice A0_3 l0_3.length c0_3] 29 (0,0)) Z139 hg (Kd.R_ne HO288.out BK284.out Z145)) (jA (Kd.R_after (ok := (fun _ => True)) Z62 hg hat) (jA (hb) (Aside0.mk (ho))))
  clear BK284 HO291 HB HO288
  obtain ⟨BK284,HO291,HB,HO294⟩ := n_
  clear ho hb hg hat
  obtain ⟨Ao42,co42,eo42⟩ := Kd.R_slice HO294.out
  (first | subst eo42 | (injection eo42 with f1_ f2_ f3_;have f4_ := f1_.symm;have f5_ := f3_.symm;clear f1_ f2_ f3_;subst f4_;subst f5_))
  refine hK.out _ _ ⟨bc BK284 0,bc BK284 1,bc BK284 2,bc BK284 3⟩ (fun hHeld => ?_)
  clear hK K
  refine rN (h := ?_)
  refine rO 13 16 38 16383 HT_ (h := fun K hK => ?_)
  refine goes_ Tryd.func33 Z121 rfl #[.slice Ao42 y292.length co42] Z123 rfl rfl Z66 ?_
  with_reducible refine (impl_areNames.calls k _ _ y292 true _ ?side1 ?side2 A6.out).mono ?_
  (case side1 => exact Z48)
  (case side2 => exact Z111)
  rintro e w' ⟨rfl,⟨nd,rfl⟩⟩
  refine ⟨_,rfl,?_⟩
  refine hK.out _ _ ⟨bc BK284 0,bc BK284 1,bc BK284 2,bc BK284 3⟩ (fun hHeld => ?_)
  clear hK K
  refine rN (h := ?_)
  refine rP 14 17 38 32767 HT_ (h := ?_)
  refine rP 15 18 38 65535 HT_ (h := ?_)
  refine rP 16 19 38 131071 HT_ (h := ?_)
  refine rP 17 20 38 262143 HT_ (h := ?_)
  refine rT4 18 21 38 524287 HT_ HW_ hHeld (h := ?_)
  refine rP 19 22 38 1048575 HT_ (h := ?_)
  refine rO 20 23 38 2097151 HT_ (h := fun K hK => ?_)
  refine goes_ Tryd.func32 Z121 rfl #[.int .i64 (l0_2.length : Int),.int .i64 1,.int .i64 40] Z123 rfl rfl Z66 ?_
  with_reducible refine (impl_within.calls (l0_2.length : Int) 1 40 true _ A8.out).mono ?_
  rintro e w' ⟨rfl,⟨nd,rfl⟩⟩
  refine ⟨_,rfl,?_⟩
  refine hK.out _ _ ⟨bc BK284 0,bc BK284 1,bc BK284 2,bc BK284 3⟩ (fun hHeld => ?_)
  clear hK K
  refine rN (h := ?_)
  refine rP 21 24 38 4194303 HT_ (h := ?_)
  refine rP 22 25 38 8388607 HT_ (h := ?_)
  refine rP 23 26 38 16777215 HT_ (h := ?_)
  refine rP 24 27 38 33554431 HT_ (h := ?_)
  refine rP 27 30 38 167772159 HT_ (h := ?_)
  refine rT4 25 28 38 201326591 HT_ HW_ hHeld (h := ?_)
  refine rP 26 29 38 268435455 HT_ (h := ?_)
  refine rT4 28 31 38 536870911 HT_ HW_ hHeld (h := ?_)
  refine rP 29 32 38 1073741823 HT_ (h := ?_)
  refine rP 30 33 38 2147483647 HT_ (h := ?_)
  refine rP 31 34 38 4294967295 HT_ (h := ?_)
  refine rP 32 35 38 8589934591 HT_ (h := ?_)
  refine rU 33 36 38 17179869183 HT_ (h := ?_)
  refine rU 34 37 38 34359738367 HT_ (h := ?_)
  refine rU 35 38 38 68719476735 HT_ (h := ?_)
  refine rU 36 39 38 137438953471 HT_ (h := ?_)
  refine rP 37 40 38 274877906943 HT_ (h := ?_)
  refine done_ (done_of HT_.out Z121) ?_
  try go_wp2
  go_ret
  exact ⟨Z98,Z127⟩
 rw [if_pos c10] at H
 have c10b0 : ((l0_3.length : Int) == (l0_2.length : Int)) = true := beq_iff_eq.mpr c10
 have c10b1 : ((l0_3.length : Int) != (l0_2.length : Int)) = false := bne_eq_false_iff_eq.mpr c10
 have c10b2 : (l0_3.length == l0_2.length) = true := by first | simpa using c10 | (simp at c10 ⊢;omega)
 clear c10
 obtain ⟨t297,A110,H⟩ := Option.bind_eq_some_iff.mp H
 have A11 := Aside0.mk A110
 clear A110
 by_cases c12 : t297 = true
 rotate_left
 ·replace c12 := Bool.eq_false_iff.mpr c12
  subst c12
  rw [if_neg Bool.false_ne_true] at H
  obtain rfl := Option.some.inj H
  go_enter Tryd.func18,Tryd.ntmps18
  try go_wp2_with (first | ((with_reducible refine gate_dst (N := 1) rfl ?_);(try (refine gate_guard Z123 ?_;dsimp only));refine bE 1 #[.slice A0_0 l0_0.length c0_0,.string a0_1,.slice A0_2 l0_2.length c0_2,.slice A0_3 l0_3.length c0_3] 29 (h := ?_);intro gb284 hg w25 hbox hb;have n_ := Z3;clear HB;obtain ⟨HB,BK284,GW284,GE284⟩ := n_;clear hb hbox hg))
  have n_ := jA (blk_drew BK284.out) (Aside0.mk (below_drew1 HB.out))
  clear BK284 HB
  obtain ⟨BK284,HB⟩ := n_
  refine start_ (n := 38) (S := fun w' => w'.cell? ⟨gb284,0,none⟩ = some (.slice A0_0 l0_0.length c0_0) ∧ w'.cell? ⟨gb284,1,none⟩ = some (.string a0_1) ∧ w'.cell? ⟨gb284,2,none⟩ = some (.slice A0_2 l0_2.length c0_2) ∧ w'.cell? ⟨gb284,3,none⟩ = some (.slice A0_3 l0_3.length c0_3)) (ds := []) (qM 38 0) Z121 rfl (by kernel_rfl) ⟨bc BK284 0,bc BK284 1,bc BK284 2,bc BK284 3⟩ (fun hHeld => ?_);refine with_tabW impl_TableOk.tab1 impl_TableOk.bits1 (fun HT_ HW_ => ?_)
  generalize w25.drew = w26 at BK284 HB hHeld ⊢
  refine rP 0 3 38 1 HT_ (h := ?_)
  refine rT4 1 4 38 3 HT_ HW_ hHeld (h := ?_)
  refine rP 2 5 38 7 HT_ (h := ?_)
  refine rO 3 6 38 15 HT_ (h := fun K hK => ?_)
  refine goes_ Tryd.func32 Z121 rfl #[.int .i64 (l0_0.length : Int),.int .i64 1,.int .i64 4] Z123 rfl rfl Z66 ?_
  with_reducible refine (impl_within.calls (l0_0.length : Int) 1 4 true _ A2.out).mono ?_
  rintro e w' ⟨rfl,⟨nd,rfl⟩⟩
  refine ⟨_,rfl,?_⟩
  refine hK.out _ _ ⟨bc BK284 0,bc BK284 1,bc BK284 2,bc BK284 3⟩ (fun hHeld => ?_)
  clear hK K
  refine rN (h := ?_)
  refine rP 4 7 38 31 HT_ (h := ?_)
  refine rP 5 8 38 63 HT_ (h := ?_)
  refine rP 6 9 38 127 HT_ (h := ?_)
  refine rP 9 12 38 639 HT_ (h := ?_)
  refine rT4 7 10 38 767 HT_ HW_ hHeld (h := ?_)
  refine rT4 10 13 38 1791 HT_ HW_ hHeld (h := ?_)
  refine join_ (σ := Value × Value) 26 (qM 38 4095) (fun s_ => [(11,s_.1),(14,s_.2)]) (fun s_ w' => (w'.cell? ⟨gb284,0,none⟩ = some (.slice A0_0 l0_0.length c0_0) ∧ w'.cell? ⟨gb284,1,none⟩ = some (.string a0_1) ∧ w'.cell? ⟨gb284,2,none⟩ = some (.slice A0_2 l0_2.length c0_2) ∧ w'.cell? ⟨gb284,3,none⟩ = some (.slice A0_3 l0_3.length c0_3)) ∧ (Kd.R Kd.string 9 w' w.heap.size (fun k_ => some k_ ≠ (s_.2 : Value).ownBlock) s_.1 t286) ∧ (Kd.R Kd.string 9 w' w.heap.size (fun k_ => some k_ ≠ (s_.1 : Value).ownBlock) s_.2 y289) ∧ (w'.heap[gb284]? = some (.cells #[.slice A0_0 l0_0.length c0_0,.string a0_1,.slice A0_2 l0_2.length c0_2,.slice A0_3 l0_3.length c0_3] 29 (0,0))) ∧ (Below w.heap.size w w')) ?_ ?_
  rotate_left
  ·intro hCont
   refine two_ (i := 8) (j := 11) (Ni := some 11) (Nj := some 14) (qM 38 2047) (qM 38 3839) rfl rfl rfl rfl (two_of HT_.out Z121) Z145 Z145 (fun K hK => ?_) (fun K hK => ?_)
   ·skip
    refine goes_ Tryd.func19 Z121 rfl #[.slice A0_0 l0_0.length c0_0] Z123 rfl rfl Z66 ?_
    with_reducible refine (slices_Clone_string_string.calls _ _ l0_0 t286 _ ?side1 ?side2 A4.out).mono ?_
    (case side1 => exact Z24)
    (case side2 => exact Z118)
    rintro e w27 ⟨v287,rfl,ho0,hb⟩
    refine ⟨_,rfl,?_⟩
    have n_ := jA (Kd.R_lower ho0 (below_size Z127)) (jA (blk_below (g := gb284) (o := .cells #[.slice A0_0 l0_0.length c0_0,.string a0_1,.slice A0_2 l0_2.length c0_2,.slice A0_3 l0_3.length c0_3] 29 (0,0)) Z139 hb) (Aside0.mk (below_step Z127 hb)))
    clear BK284 HB
    obtain ⟨HO288,BK284,HB⟩ := n_
    (try clear hb)
    (try clear hb2)
    (try clear hk)
    (try clear hi)
    (try clear ho0)
    refine hK.out _ _ ⟨bc BK284 0,bc BK284 1,bc BK284 2,bc BK284 3⟩ (fun hHeld => ?_)
    clear hK K
    refine rN (h := ?_)
    refine rO 11 14 38 4095 HT_ (h := fun K hK => ?_)
    refine Kd.R_lit_step Kd.string _ 9 ?hg (N := 14) ?hd (xs := ([a0_1] : List ByteArray)) (inner := [.string a0_1]) (ok := fun _ => True) (okp := fun _ => True) ?hr ?hp (fun _ hk => hk) trivial (Below.refl _ _) (Nat.le_refl _) Z146 ?_;(case hd => rfl);(case hg => rfl);(case hr => exact Z107);(case hp => exact Z100)
    intro v290 w28 ho29 hb hg_ hnew_
    clear hg_ hnew_
    (first | rw [← Ny289.out] at ho29 | (simp only [Int.reduceToNat] at ho29;rw [← Ny289.out] at ho29))
    have n_ := jA (Kd.R_elder' Z136 (Kd.R_base ho29) hb) (jA (Kd.R_lower (Kd.R_new' ho29 (Kd.R_lt Z136)) (below_size Z127)) (jA (blk_below (g := gb284) (o := .cells #[.slice A0_0 l0_0.length c0_0,.string a0_1,.slice A0_2 l0_2.length c0_2,.slice A0_3 l0_3.length c0_3] 29 (0,0)) Z139 hb) (Aside0.mk (below_step Z127 hb))))
    clear HO288 BK284 HB
    obtain ⟨HO288,HO291,BK284,HB⟩ := n_
    clear hb ho29
    refine hK.out _ _ ⟨bc BK284 0,bc BK284 1,bc BK284 2,bc BK284 3⟩ (fun hHeld => ?_)
    clear hK K
    refine rN (h := ?_)
    exact norm_ Z99 (hCont (v287,v290) _ ⟨hHeld,Z68,Z67,Z139,Z127⟩)
   skip
   refine Kd.R_lit_step Kd.string _ 9 ?hg (N := 14) ?hd (xs := ([a0_1] : List ByteArray)) (inner := [.string a0_1]) (ok := fun _ => True) (okp := fun _ => True) ?hr ?hp (fun _ hk => hk) trivial (Below.refl _ _) (Nat.le_refl _) Z146 ?_;(case hd => rfl);(case hg => rfl);(case hr => exact Z107);(case hp => exact Z100)
   intro v290 w27 ho28 hb hg_ hnew_
   clear hg_ hnew_
   (first | rw [← Ny289.out] at ho28 | (simp only [Int.reduceToNat] at ho28;rw [← Ny289.out] at ho28))
   have n_ := jA (Kd.R_lower ho28 (below_size Z127)) (jA (blk_below (g := gb284) (o := .cells #[.slice A0_0 l0_0.length c0_0,.string a0_1,.slice A0_2 l0_2.length c0_2,.slice A0_3 l0_3.length c0_3] 29 (0,0)) Z139 hb) (Aside0.mk (below_step Z127 hb)))
   clear BK284 HB
   obtain ⟨HO291,BK284,HB⟩ := n_
   clear hb ho28
   refine hK.out _ _ ⟨bc BK284 0,bc BK284 1,bc BK284 2,bc BK284 3⟩ (fun hHeld => ?_)
   clear hK K
   refine rN (h := ?_)
   refine rO 8 11 38 4095 HT_ (h := fun K hK => ?_)
   refine goes_ Tryd.func19 Z121 rfl #[.slice A0_0 l0_0.length c0_0] Z123 rfl rfl Z66 ?_
   with_reducible refine (slices_Clone_string_string.calls _ _ l0_0 t286 _ ?side1 ?side2 A4.out).mono ?_
   (case side1 => exact Z41)
   (case side2 => exact Z118)
   rintro e w29 ⟨v287,rfl,ho0,hb⟩
   refine ⟨_,rfl,?_⟩
   have n_ := jA (Kd.R_elder' Z135 (Kd.R_base ho0) hb) (jA (Kd.R_lower (Kd.R_new' ho0 (Kd.R_lt Z135)) (below_size Z127)) (jA (blk_below (g := gb284) (o := .cells #[.slice A0_0 l0_0.length c0_0,.string a0_1,.slice A0_2 l0_2.length c0_2,.slice A0_3 l0_3.length c0_3] 29 (0,0)) Z139 hb) (Aside0.mk (below_step Z127 hb))))
   clear HO291 BK284 HB
   obtain ⟨HO291,HO288,BK284,HB⟩ := n_
   (try clear hb)
   (try clear hb2)
   (try clear hk)
   (try clear hi)
   (try clear ho0)
   refine hK.out _ _ ⟨bc BK284 0,bc BK284 1,bc BK284 2,bc BK284 3⟩ (fun hHeld => ?_)
   clear hK K
   refine rN (h := ?_)
   exact norm_ Z99 (hCont (v287,v290) _ ⟨hHeld,Z68,Z67,Z139,Z127⟩)
  rintro ⟨v287,v290⟩ w30 ⟨hS_,h0_,h1_,h2_,h3_⟩
  have n0_ : Aside0 (Kd.R Kd.string 9 w30 w.heap.size (fun k_ => some k_ ≠ (v290 : Value).ownBlock) v287 t286) := ⟨h0_⟩
  have n1_ : Aside0 (Kd.R Kd.string 9 w30 w.heap.size (fun k_ => some k_ ≠ (v287 : Value).ownBlock) v290 y289) := ⟨h1_⟩
  have n2_ : Aside0 (w30.heap[gb284]? = some (.cells #[.slice A0_0 l0_0.length c0_0,.string a0_1,.slice A0_2 l0_2.length c0_2,.slice A0_3 l0_3.length c0_3] 29 (0,0))) := ⟨h2_⟩
  have n3_ : Aside0 (Below w.heap.size w w30) := ⟨h3_⟩
  clear BK284
  clear HB
  clear h0_ h1_ h2_ h3_
  have HO288 := n0_
  have HO291 := n1_
  have BK284 := n2_
  have HB := n3_
  clear n0_ n1_ n2_ n3_
  have hHeld : w30.cell? ⟨gb284,0,none⟩ = some (.slice A0_0 l0_0.length c0_0) ∧ w30.cell? ⟨gb284,1,none⟩ = some (.string a0_1) ∧ w30.cell? ⟨gb284,2,none⟩ = some (.slice A0_2 l0_2.length c0_2) ∧ w30.cell? ⟨gb284,3,none⟩ = some (.slice A0_3 l0_3.length c0_3) := hS_
  obtain ⟨Ao32,co32,eo32⟩ := Kd.R_slice HO291.out
  (first | subst eo32 | (injection eo32 with f1_ f2_ f3_;have f4_ := f1_.symm;have f5_ := f3_.symm;clear f1_ f2_ f3_;subst f4_;subst f5_))
  refine norm_ (a' := ?_) ?_ ?_
  rotate_left
  ·simp only [putAll,Act.put,List.setIfInBounds_toArray,List.set_cons_zero,List.set_cons_succ]
   rfl
  refine rO 12 15 38 8191 HT_ (h := fun K hK => ?_)
  refine Kd.R_append_rows_step Kd.string (w0 := w) w.heap.size Z123 (.tmp 11) (.tmp 14) 22 9 (.string ⟨#[]⟩) 16 rfl Tryd.underlying22 info9 rfl Z145 Z122 v287 t286 y289 _ _ _ (fun k_ => some k_ ≠ (.slice Ao32 y289.length co32 : Value).ownBlock) (fun _ => False) rfl rfl ?aO ?aR (fun _ _ h => h) (fun _ h => h.elim) ?aF ?aB ?aS ?aL ?_
  (case aR => exact Z49)
  (case aB => exact Z46)
  (case aF => exact Z58)
  (case aO => exact Z73)
  (case aS => exact Z39)
  (case aL => exact Z115)
  intro v293 w31 ho hb hg hat
  rw [← Ny292.out] at ho
  have n_ := jA (blk_grown (g := gb284) (o := .cells #[.slice A0_0 l0_0.length c0_0,.string a0_1,.slice A0_2 l0_2.length c0_2,.slice A0_3 l0_3.length c0_3] 29 (0,0)) Z139 hg (Kd.R_ne HO288.out BK284.out Z145)) (jA (Kd.R_after (ok := (fun _ => True)) Z62 hg hat) (jA (hb) (Aside0.mk (ho))))
  clear BK284 HO291 HB HO288
  obtain ⟨BK284,HO291,HB,HO294⟩ := n_
  clear ho hb hg hat
  obtain ⟨Ao33,co33,eo33⟩ := Kd.R_slice HO294.out
  (first | subst eo33 | (injection eo33 with f1_ f2_ f3_;have f4_ := f1_.symm;have f5_ := f3_.symm;clear f1_ f2_ f3_;subst f4_;subst f5_))
  refine hK.out _ _ ⟨bc BK284 0,bc BK284 1,bc BK284 2,bc BK284 3⟩ (fun hHeld => ?_)
  clear hK K
  refine rN (h := ?_)
  refine rO 13 16 38 16383 HT_ (h := fun K hK => ?_)
  refine goes_ Tryd.func33 Z121 rfl #[.slice Ao33 y292.length co33] Z123 rfl rfl Z66 ?_
  with_reducible refine (impl_areNames.calls k _ _ y292 true _ ?side1 ?side2 A6.out).mono ?_
  (case side1 => exact Z48)
  (case side2 => exact Z111)
  rintro e w' ⟨rfl,⟨nd,rfl⟩⟩
  refine ⟨_,rfl,?_⟩
  refine hK.out _ _ ⟨bc BK284 0,bc BK284 1,bc BK284 2,bc BK284 3⟩ (fun hHeld => ?_)
  clear hK K
  refine rN (h := ?_)
  refine rP 14 17 38 32767 HT_ (h := ?_)
  refine rP 15 18 38 65535 HT_ (h := ?_)
  refine rP 16 19 38 131071 HT_ (h := ?_)
  refine rP 17 20 38 262143 HT_ (h := ?_)
  refine rT4 18 21 38 524287 HT_ HW_ hHeld (h := ?_)
  refine rP 19 22 38 1048575 HT_ (h := ?_)
  refine rO 20 23 38 2097151 HT_ (h := fun K hK => ?_)
  refine goes_ Tryd.func32 Z121 rfl #[.int .i64 (l0_2.length : Int),.int .i64 1,.int .i64 40] Z123 rfl rfl Z66 ?_
  with_reducible refine (impl_within.calls (l0_2.length : Int) 1 40 true _ A8.out).mono ?_
  rintro e w' ⟨rfl,⟨nd,rfl⟩⟩
  refine ⟨_,rfl,?_⟩
  refine hK.out _ _ ⟨bc BK284 0,bc BK284 1,bc BK284 2,bc BK284 3⟩ (fun hHeld => ?_)
  clear hK K
  refine rN (h := ?_)
  refine rP 21 24 38 4194303 HT_ (h := ?_)
  refine rP 22 25 38 8388607 HT_ (h := ?_)
  refine rP 23 26 38 16777215 HT_ (h := ?_)
  refine rP 24 27 38 33554431 HT_ (h := ?_)
  refine rP 27 30 38 167772159 HT_ (h := ?_)
  refine rT4 25 28 38 201326591 HT_ HW_ hHeld (h := ?_)
  refine rP 26 29 38 268435455 HT_ (h := ?_)
  refine rT4 28 31 38 536870911 HT_ HW_ hHeld (h := ?_)
  refine rP 29 32 38 1073741823 HT_ (h := ?_)
  refine rP 30 33 38 2147483647 HT_ (h := ?_)
  refine rP 31 34 38 4294967295 HT_ (h := ?_)
  refine rP 32 35 38 8589934591 HT_ (h := ?_)
  refine rP 33 36 38 17179869183 HT_ (h := ?_)
  refine rT4 34 37 38 34359738367 HT_ HW_ hHeld (h := ?_)
  refine rO 35 38 38 68719476735 HT_ (h := fun K hK => ?_)
  refine goes_ Tryd.func34 Z121 rfl #[.slice A0_3 l0_3.length c0_3] Z123 rfl rfl Z66 ?_
  with_reducible refine (impl_areDecimals.calls k _ _ l0_3 false _ ?side1 ?side2 A11.out).mono ?_
  (case side1 => exact Z26)
  (case side2 => exact Z120)
  rintro e w' ⟨rfl,⟨nd,rfl⟩⟩
  refine ⟨_,rfl,?_⟩
  refine hK.out _ _ ⟨bc BK284 0,bc BK284 1,bc BK284 2,bc BK284 3⟩ (fun hHeld => ?_)
  clear hK K
  refine rN (h := ?_)
  refine rP 36 39 38 137438953471 HT_ (h := ?_)
  refine rP 37 40 38 274877906943 HT_ (h := ?_)
  refine done_ (done_of HT_.out Z121) ?_
  try go_wp2
  go_ret
  exact ⟨Z98,Z127⟩
 subst c12
 rw [if_pos rfl] at H
 obtain ⟨t298,A130,H⟩ := Option.bind_eq_some_iff.mp H
 have A13 := Aside0.mk A130
 clear A130
 obtain rfl := Option.some.inj H
 go_enter Tryd.func18,Tryd.ntmps18
 try go_wp2_with (first | ((with_reducible refine gate_dst (N := 1) rfl ?_);(try (refine gate_guard Z123 ?_;dsimp only));refine bE 1 #[.slice A0_0 l0_0.length c0_0,.string a0_1,.slice A0_2 l0_2.length c0_2,.slice A0_3 l0_3.length c0_3] 29 (h := ?_);intro gb284 hg w14 hbox hb;have n_ := Z3;clear HB;obtain ⟨HB,BK284,GW284,GE284⟩ := n_;clear hb hbox hg))
 have n_ := jA (blk_drew BK284.out) (Aside0.mk (below_drew1 HB.out))
 clear BK284 HB
 obtain ⟨BK284,HB⟩ := n_
 refine start_ (n := 38) (S := fun w' => w'.cell? ⟨gb284,0,none⟩ = some (.slice A0_0 l0_0.length c0_0) ∧ w'.cell? ⟨gb284,1,none⟩ = some (.string a0_1) ∧ w'.cell? ⟨gb284,2,none⟩ = some (.slice A0_2 l0_2.length c0_2) ∧ w'.cell? ⟨gb284,3,none⟩ = some (.slice A0_3 l0_3.length c0_3)) (ds := []) (qM 38 0) Z121 rfl (by kernel_rfl) ⟨bc BK284 0,bc BK284 1,bc BK284 2,bc BK284 3⟩ (fun hHeld => ?_);refine with_tabW impl_TableOk.tab1 impl_TableOk.bits1 (fun HT_ HW_ => ?_)
 generalize w14.drew = w15 at BK284 HB hHeld ⊢
 refine rP 0 3 38 1 HT_ (h := ?_)
 refine rT4 1 4 38 3 HT_ HW_ hHeld (h := ?_)
 refine rP 2 5 38 7 HT_ (h := ?_)
 refine rO 3 6 38 15 HT_ (h := fun K hK => ?_)
 refine goes_ Tryd.func32 Z121 rfl #[.int .i64 (l0_0.length : Int),.int .i64 1,.int .i64 4] Z123 rfl rfl Z66 ?_
 with_reducible refine (impl_within.calls (l0_0.length : Int) 1 4 true _ A2.out).mono ?_
 rintro e w' ⟨rfl,⟨nd,rfl⟩⟩
 refine ⟨_,rfl,?_⟩
 refine hK.out _ _ ⟨bc BK284 0,bc BK284 1,bc BK284 2,bc BK284 3⟩ (fun hHeld => ?_)
 clear hK K
 refine rN (h := ?_)
 refine rP 4 7 38 31 HT_ (h := ?_)
 refine rP 5 8 38 63 HT_ (h := ?_)
 refine rP 6 9 38 127 HT_ (h := ?_)
 refine rP 9 12 38 639 HT_ (h := ?_)
 refine rT4 7 10 38 767 HT_ HW_ hHeld (h := ?_)
 refine rT4 10 13 38 1791 HT_ HW_ hHeld (h := ?_)
 refine join_ (σ := Value × Value) 26 (qM 38 4095) (fun s_ => [(11,s_.1),(14,s_.2)]) (fun s_ w' => (w'.cell? ⟨gb284,0,none⟩ = some (.slice A0_0 l0_0.length c0_0) ∧ w'.cell? ⟨gb284,1,none⟩ = some (.string a0_1) ∧ w'.cell? ⟨gb284,2,none⟩ = some (.slice A0_2 l0_2.length c0_2) ∧ w'.cell? ⟨gb284,3,none⟩ = some (.slice A0_3 l0_3.length c0_3)) ∧ (Kd.R Kd.string 9 w' w.heap.size (fun k_ => some k_ ≠ (s_.2 : Value).ownBlock) s_.1 t286) ∧ (Kd.R Kd.string 9 w' w.heap.size (fun k_ => some k_ ≠ (s_.1 : Value).ownBlock) s_.2 y289) ∧ (w'.heap[gb284]? = some (.cells #[.slice A0_0 l0_0.length c0_0,.string a0_1,.slice A0_2 l0_2.length c0_2,.slice A0_3 l0_3.length c0_3] 29 (0,0))) ∧ (Below w.heap.size w w')) ?_ ?_
 rotate_left
 ·intro hCont
  refine two_ (i := 8) (j := 11) (Ni := some 11) (Nj := some 14) (qM 38 2047) (qM 38 3839) rfl rfl rfl rfl (two_of HT_.out Z121) Z145 Z145 (fun K hK => ?_) (fun K hK => ?_)
  ·skip
   refine goes_ Tryd.func19 Z121 rfl #[.slice A0_0 l0_0.length c0_0] Z123 rfl rfl Z66 ?_
   with_reducible refine (slices_Clone_string_string.calls _ _ l0_0 t286 _ ?side1 ?side2 A4.out).mono ?_
   (case side1 => exact Z24)
   (case side2 => exact Z118)
   rintro e w16 ⟨v287,rfl,ho0,hb⟩
   refine ⟨_,rfl,?_⟩
   have n_ := jA (Kd.R_lower ho0 (below_size Z127)) (jA (blk_below (g := gb284) (o := .cells #[.slice A0_0 l0_0.length c0_0,.string a0_1,.slice A0_2 l0_2.length c0_2,.slice A0_3 l0_3.length c0_3] 29 (0,0)) Z139 hb) (Aside0.mk (below_step Z127 hb)))
   clear BK284 HB
   obtain ⟨HO288,BK284,HB⟩ := n_
   (try clear hb)
   (try clear hb2)
   (try clear hk)
   (try clear hi)
   (try clear ho0)
   refine hK.out _ _ ⟨bc BK284 0,bc BK284 1,bc BK284 2,bc BK284 3⟩ (fun hHeld => ?_)
   clear hK K
   refine rN (h := ?_)
   refine rO 11 14 38 4095 HT_ (h := fun K hK => ?_)
   refine Kd.R_lit_step Kd.string _ 9 ?hg (N := 14) ?hd (xs := ([a0_1] : List ByteArray)) (inner := [.string a0_1]) (ok := fun _ => True) (okp := fun _ => True) ?hr ?hp (fun _ hk => hk) trivial (Below.refl _ _) (Nat.le_refl _) Z146 ?_;(case hd => rfl);(case hg => rfl);(case hr => exact Z107);(case hp => exact Z100)
   intro v290 w17 ho18 hb hg_ hnew_
   clear hg_ hnew_
   (first | rw [← Ny289.out] at ho18 | (simp only [Int.reduceToNat] at ho18;rw [← Ny289.out] at ho18))
   have n_ := jA (Kd.R_elder' Z136 (Kd.R_base ho18) hb) (jA (Kd.R_lower (Kd.R_new' ho18 (Kd.R_lt Z136)) (below_size Z127)) (jA (blk_below (g := gb284) (o := .cells #[.slice A0_0 l0_0.length c0_0,.string a0_1,.slice A0_2 l0_2.length c0_2,.slice A0_3 l0_3.length c0_3] 29 (0,0)) Z139 hb) (Aside0.mk (below_step Z127 hb))))
   clear HO288 BK284 HB
   obtain ⟨HO288,HO291,BK284,HB⟩ := n_
   clear hb ho18
   refine hK.out _ _ ⟨bc BK284 0,bc BK284 1,bc BK284 2,bc BK284 3⟩ (fun hHeld => ?_)
   clear hK K
   refine rN (h := ?_)
   exact norm_ Z99 (hCont (v287,v290) _ ⟨hHeld,Z68,Z67,Z139,Z127⟩)
  skip
  refine Kd.R_lit_step Kd.string _ 9 ?hg (N := 14) ?hd (xs := ([a0_1] : List ByteArray)) (inner := [.string a0_1]) (ok := fun _ => True) (okp := fun _ => True) ?hr ?hp (fun _ hk => hk) trivial (Below.refl _ _) (Nat.le_refl _) Z146 ?_;(case hd => rfl);(case hg => rfl);(case hr => exact Z107);(case hp => exact Z100)
  intro v290 w16 ho17 hb hg_ hnew_
  clear hg_ hnew_
  (first | rw [← Ny289.out] at ho17 | (simp only [Int.reduceToNat] at ho17;rw [← Ny289.out] at ho17))
  have n_ := jA (Kd.R_lower ho17 (below_size Z127)) (jA (blk_below (g := gb284) (o := .cells #[.slice A0_0 l0_0.length c0_0,.string a0_1,.slice A0_2 l0_2.length c0_2,.slice A0_3 l0_3.length c0_3] 29 (0,0)) Z139 hb) (Aside0.mk (below_step Z127 hb)))
  clear BK284 HB
  obtain ⟨HO291,BK284,HB⟩ := n_
  clear hb ho17
  refine hK.out _ _ ⟨bc BK284 0,bc BK284 1,bc BK284 2,bc BK284 3⟩ (fun hHeld => ?_)
  clear hK K
  refine rN (h := ?_)
  refine rO 8 11 38 4095 HT_ (h := fun K hK => ?_)
  refine goes_ Tryd.func19 Z121 rfl #[.slice A0_0 l0_0.length c0_0] Z123 rfl rfl Z66 ?_
  with_reducible refine (slices_Clone_string_string.calls _ _ l0_0 t286 _ ?side1 ?side2 A4.out).mono ?_
  (case side1 => exact Z41)
  (case side2 => exact Z118)
  rintro e w18 ⟨v287,rfl,ho0,hb⟩
  refine ⟨_,rfl,?_⟩
  have n_ := jA (Kd.R_elder' Z135 (Kd.R_base ho0) hb) (jA (Kd.R_lower (Kd.R_new' ho0 (Kd.R_lt Z135)) (below_size Z127)) (jA (blk_below (g := gb284) (o := .cells #[.slice A0_0 l0_0.length c0_0,.string a0_1,.slice A0_2 l0_2.length c0_2,.slice A0_3 l0_3.length c0_3] 29 (0,0)) Z139 hb) (Aside0.mk (below_step Z127 hb))))
  clear HO291 BK284 HB
  obtain ⟨HO291,HO288,BK284,HB⟩ := n_
  (try clear hb)
  (try clear hb2)
  (try clear hk)
  (try clear hi)
  (try clear ho0)
  refine hK.out _ _ ⟨bc BK284 0,bc BK284 1,bc BK284 2,bc BK284 3⟩ (fun hHeld => ?_)
  clear hK K
  refine rN (h := ?_)
  exact norm_ Z99 (hCont (v287,v290) _ ⟨hHeld,Z68,Z67,Z139,Z127⟩)
 rintro ⟨v287,v290⟩ w19 ⟨hS_,h0_,h1_,h2_,h3_⟩
 have n0_ : Aside0 (Kd.R Kd.string 9 w19 w.heap.size (fun k_ => some k_ ≠ (v290 : Value).ownBlock) v287 t286) := ⟨h0_⟩
 have n1_ : Aside0 (Kd.R Kd.string 9 w19 w.heap.size (fun k_ => some k_ ≠ (v287 : Value).ownBlock) v290 y289) := ⟨h1_⟩
 have n2_ : Aside0 (w19.heap[gb284]? = some (.cells #[.slice A0_0 l0_0.length c0_0,.string a0_1,.slice A0_2 l0_2.length c0_2,.slice A0_3 l0_3.length c0_3] 29 (0,0))) := ⟨h2_⟩
 have n3_ : Aside0 (Below w.heap.size w w19) := ⟨h3_⟩
 clear BK284
 clear HB
 clear h0_ h1_ h2_ h3_
 have HO288 := n0_
 have HO291 := n1_
 have BK284 := n2_
 have HB := n3_
 clear n0_ n1_ n2_ n3_
 have hHeld : w19.cell? ⟨gb284,0,none⟩ = some (.slice A0_0 l0_0.length c0_0) ∧ w19.cell? ⟨gb284,1,none⟩ = some (.string a0_1) ∧ w19.cell? ⟨gb284,2,none⟩ = some (.slice A0_2 l0_2.length c0_2) ∧ w19.cell? ⟨gb284,3,none⟩ = some (.slice A0_3 l0_3.length c0_3) := hS_
 obtain ⟨Ao21,co21,eo21⟩ := Kd.R_slice HO291.out
 (first | subst eo21 | (injection eo21 with f1_ f2_ f3_;have f4_ := f1_.symm;have f5_ := f3_.symm;clear f1_ f2_ f3_;subst f4_;subst f5_))
 refine norm_ (a' := ?_) ?_ ?_
 rotate_left
 ·simp only [putAll,Act.put,List.setIfInBounds_toArray,List.set_cons_zero,List.set_cons_succ]
  rfl
 refine rO 12 15 38 8191 HT_ (h := fun K hK => ?_)
 refine Kd.R_append_rows_step Kd.string (w0 := w) w.heap.size Z123 (.tmp 11) (.tmp 14) 22 9 (.string ⟨#[]⟩) 16 rfl Tryd.underlying22 info9 rfl Z145 Z122 v287 t286 y289 _ _ _ (fun k_ => some k_ ≠ (.slice Ao21 y289.length co21 : Value).ownBlock) (fun _ => False) rfl rfl ?aO ?aR (fun _ _ h => h) (fun _ h => h.elim) ?aF ?aB ?aS ?aL ?_
 (case aR => exact Z49)
 (case aB => exact Z46)
 (case aF => exact Z58)
 (case aO => exact Z73)
 (case aS => exact Z39)
 (case aL => exact Z115)
 intro v293 w20 ho hb hg hat
 rw [← Ny292.out] at ho
 have n_ := jA (blk_grown (g := gb284) (o := .cells #[.slice A0_0 l0_0.length c0_0,.string a0_1,.slice A0_2 l0_2.length c0_2,.slice A0_3 l0_3.length c0_3] 29 (0,0)) Z139 hg (Kd.R_ne HO288.out BK284.out Z145)) (jA (Kd.R_after (ok := (fun _ => True)) Z62 hg hat) (jA (hb) (Aside0.mk (ho))))
 clear BK284 HO291 HB HO288
 obtain ⟨BK284,HO291,HB,HO294⟩ := n_
 clear ho hb hg hat
 obtain ⟨Ao22,co22,eo22⟩ := Kd.R_slice HO294.out
 (first | subst eo22 | (injection eo22 with f1_ f2_ f3_;have f4_ := f1_.symm;have f5_ := f3_.symm;clear f1_ f2_ f3_;subst f4_;subst f5_))
 refine hK.out _ _ ⟨bc BK284 0,bc BK284 1,bc BK284 2,bc BK284 3⟩ (fun hHeld => ?_)
 clear hK K
 refine rN (h := ?_)
 refine rO 13 16 38 16383 HT_ (h := fun K hK => ?_)
 refine goes_ Tryd.func33 Z121 rfl #[.slice Ao22 y292.length co22] Z123 rfl rfl Z66 ?_
 with_reducible refine (impl_areNames.calls k _ _ y292 true _ ?side1 ?side2 A6.out).mono ?_
 (case side1 => exact Z48)
 (case side2 => exact Z111)
 rintro e w' ⟨rfl,⟨nd,rfl⟩⟩
 refine ⟨_,rfl,?_⟩
 refine hK.out _ _ ⟨bc BK284 0,bc BK284 1,bc BK284 2,bc BK284 3⟩ (fun hHeld => ?_)
 clear hK K
 refine rN (h := ?_)
 refine rP 14 17 38 32767 HT_ (h := ?_)
 refine rP 15 18 38 65535 HT_ (h := ?_)
 refine rP 16 19 38 131071 HT_ (h := ?_)
 refine rP 17 20 38 262143 HT_ (h := ?_)
 refine rT4 18 21 38 524287 HT_ HW_ hHeld (h := ?_)
 refine rP 19 22 38 1048575 HT_ (h := ?_)
 refine rO 20 23 38 2097151 HT_ (h := fun K hK => ?_)
 refine goes_ Tryd.func32 Z121 rfl #[.int .i64 (l0_2.length : Int),.int .i64 1,.int .i64 40] Z123 rfl rfl Z66 ?_
 with_reducible refine (impl_within.calls (l0_2.length : Int) 1 40 true _ A8.out).mono ?_
 rintro e w' ⟨rfl,⟨nd,rfl⟩⟩
 refine ⟨_,rfl,?_⟩
 refine hK.out _ _ ⟨bc BK284 0,bc BK284 1,bc BK284 2,bc BK284 3⟩ (fun hHeld => ?_)
 clear hK K
 refine rN (h := ?_)
 refine rP 21 24 38 4194303 HT_ (h := ?_)
 refine rP 22 25 38 8388607 HT_ (h := ?_)
 refine rP 23 26 38 16777215 HT_ (h := ?_)
 refine rP 24 27 38 33554431 HT_ (h := ?_)
 refine rP 27 30 38 167772159 HT_ (h := ?_)
 refine rT4 25 28 38 201326591 HT_ HW_ hHeld (h := ?_)
 refine rP 26 29 38 268435455 HT_ (h := ?_)
 refine rT4 28 31 38 536870911 HT_ HW_ hHeld (h := ?_)
 refine rP 29 32 38 1073741823 HT_ (h := ?_)
 refine rP 30 33 38 2147483647 HT_ (h := ?_)
 refine rP 31 34 38 4294967295 HT_ (h := ?_)
 refine rP 32 35 38 8589934591 HT_ (h := ?_)
 refine rP 33 36 38 17179869183 HT_ (h := ?_)
 refine rT4 34 37 38 34359738367 HT_ HW_ hHeld (h := ?_)
 refine rO 35 38 38 68719476735 HT_ (h := fun K hK => ?_)
 refine goes_ Tryd.func34 Z121 rfl #[.slice A0_3 l0_3.length c0_3] Z123 rfl rfl Z66 ?_
 with_reducible refine (impl_areDecimals.calls k _ _ l0_3 true _ ?side1 ?side2 A11.out).mono ?_
 (case side1 => exact Z26)
 (case side2 => exact Z120)
 rintro e w' ⟨rfl,⟨nd,rfl⟩⟩
 refine ⟨_,rfl,?_⟩
 refine hK.out _ _ ⟨bc BK284 0,bc BK284 1,bc BK284 2,bc BK284 3⟩ (fun hHeld => ?_)
 clear hK K
 refine rN (h := ?_)
 refine rP 36 39 38 137438953471 HT_ (h := ?_)
 refine rP 37 40 38 274877906943 HT_ (h := ?_)
 refine done_ (done_of HT_.out Z121) ?_
 obtain ⟨hcz23_0,hcz23_1,hcz23_2,hcz23_3,hfz23_0,hfz23_1,hfz23_2,hfz23_3⟩ := cells4 BK284.out
 try go_wp2_with (first | ((with_reducible refine gate_callee (f := 35) rfl ?_);refine goesL_ (some 44) rfl rfl Tryd.func35 Z121 rfl #[.slice A0_2 l0_2.length c0_2,.func (.func 36) #[] #[.pointer (some ⟨gb284,0,none⟩)]] rfl Z66 ?_;(with_reducible refine (impl_TableOk_1.calls _ _ l0_2 gb284 A0_0 c0_0 l0_0 t298 _ ?side1 ?side2 ?side3 A13.out).mono ?_);(case side1 => exact Z28);(case side2 => exact Z119);(case side3 => exact (blk_cell Z139 0).trans rfl);rintro e w24 ⟨rfl,hb⟩;refine ⟨_,rfl,?_⟩;have n_ := Z2;clear HO291 HO294 BK284 HB;obtain ⟨HO291,HO294,BK284,HB⟩ := n_;(try clear hb);(try clear hb2);(try clear hk);(try clear hi)) | (go_at_call 35;(with_reducible refine (impl_TableOk_1.calls _ _ l0_2 gb284 A0_0 c0_0 l0_0 t298 _ ?side1 ?side2 ?side3 A13.out).mono ?_);(case side1 => exact Z28);(case side2 => exact Z119);(case side3 => exact (blk_cell Z139 0).trans rfl);rintro e w24 ⟨rfl,hb⟩;have n_ := Z2;clear HO291 HO294 BK284 HB;obtain ⟨HO291,HO294,BK284,HB⟩ := n_;(try clear hb);(try clear hb2);(try clear hk);(try clear hi)))
 go_ret
 exact ⟨Z98,Z127⟩

end Go.Proofs.YtepnbcdbagjmbabDoor.QFnExactTableText
