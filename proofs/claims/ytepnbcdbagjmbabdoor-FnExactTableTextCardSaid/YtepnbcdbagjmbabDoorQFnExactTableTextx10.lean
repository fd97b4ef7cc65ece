/- The machine side of FnExactTableText: what each Go function that it reaches comes to. Conditions: none. -/
import Derived.Test.YtepnbcdbagjmbabDoorQFnExactTableTextx0
import Derived.Test.YtepnbcdbagjmbabDoorQFnExactTableTextx6
import Derived.Test.YtepnbcdbagjmbabDoorQFnExactTableTextx8
import Derived.Test.YtepnbcdbagjmbabDoorQFnExactTableTextx9
namespace Go.Proofs.YtepnbcdbagjmbabDoor.QFnExactTableText
open Go.RowKit Go.Proofs.YtepnbcdbagjmbabDoorW.PrintWords Go.Proofs.YtepnbcdbagjmbabDoorW.PrintLast Go.Proofs.YtepnbcdbagjmbabDoorW.PrintMore
attribute [local go_sem] max2_int min2_int max_two min_two max_three min_three max_four min_four   -- for this text's walks alone
set_option linter.unusedVariables false
set_option linter.unusedSimpArgs false

/-! ### impl_TableText: function 7 -/
def impl_TableText.l0 : Nat → List (List ByteArray) → List (List Int) → Int → Int → List ByteArray → ByteArray → List (List Int) → List Int → Option (ByteArray)
 | 0,_,_,_,_,_,_,_,_ => none
 | k + 1,x3,x18,x19,x20,x335000,x335001,x335002,x335003 => if x20 < x19 then (if 0 ≤ x20 then (if x20 < (x18.length : Int) then ((impl_fixTexts.f k (rd_L2 x18 x20)).bind fun t349 => (if x20 < (x335003.length : Int) then ((impl_FixText.f k (rd x335003 x20)).bind fun t353 => ((some (([t353] : List ByteArray) : List ByteArray)).bind fun y354 => (if t349.length + y354.length < 8796093022208 then ((some (([(t349 ++ y354)] : List (List ByteArray)) : List (List ByteArray))).bind fun y360 => (if x3.length + y360.length < 5864062014805 then (impl_TableText.l0 k (x3 ++ y360) x18 x19 (wrap64 (x20 + 1)) x335000 x335001 x335002 x335003) else (none))) else (none)))) else (none))) else (none)) else (none)) else ((impl_CsvText.f k x3).bind fun t366 => (some t366))
def impl_TableText.f (k : Nat) (l0_0 : List ByteArray) (a0_1 : ByteArray) (l0_2 : List (List Int)) (l0_3 : List Int) : Option (ByteArray) := (impl_TableOk.f k l0_0 a0_1 l0_2 l0_3).bind fun t335 => (if t335 = true then ((slices_Clone_string_string.f l0_0).bind fun t336 => ((some (([a0_1] : List ByteArray) : List ByteArray)).bind fun y339 => (if t336.length + y339.length < 8796093022208 then (impl_TableText.l0 k (([(t336 ++ y339)] : List (List ByteArray))) l0_2 (l0_2.length : Int) 0 l0_0 a0_1 l0_2 l0_3) else (none)))) else (some (⟨#[]⟩ : ByteArray)))
theorem impl_TableText.mono_l : ∀ k,(∀ y0 y1 y2 y3 y4 y5 y6 y7,LeO (impl_TableText.l0 k y0 y1 y2 y3 y4 y5 y6 y7) (impl_TableText.l0 (k + 1) y0 y1 y2 y3 y4 y5 y6 y7))
 | 0 => fun _ _ _ _ _ _ _ _ r h => by simp [impl_TableText.l0] at h
 | k + 1 => by
  have ih0 := impl_TableText.mono_l k
  ·intro y0 y1 y2 y3 y4 y5 y6 y7
   unfold impl_TableText.l0
   repeat' first
   | (with_reducible exact ih0 _ _ _ _ _ _ _ _)
   | (with_reducible exact impl_CsvText.mono _ _)
   | (with_reducible exact impl_FixText.mono _ _)
   | (with_reducible exact impl_TableOk.mono _ _ _ _ _)
   | (with_reducible exact impl_fixTexts.mono _ _)
   | (with_reducible exact LeO.refl _)
   | (with_reducible exact LeO.none _)
   | (with_reducible refine LeO.ite ?_ ?_)
   | (with_reducible refine LeO.bind ?_ (fun _ => ?_))
   | exact ih0 _ _ _ _ _ _ _ _
   | exact impl_CsvText.mono _ _
   | exact impl_FixText.mono _ _
   | exact impl_TableOk.mono _ _ _ _ _
   | exact impl_fixTexts.mono _ _
   | exact LeO.none _
   | refine LeO.ite ?_ ?_
   | refine LeO.bind ?_ (fun _ => ?_)
theorem impl_TableText.mono : ∀ a0 a1 a2 a3 k,LeO (impl_TableText.f k a0 a1 a2 a3) (impl_TableText.f (k + 1) a0 a1 a2 a3) := by
 intro a0 a1 a2 a3 k
 have ih0 := impl_TableText.mono_l k
 unfold impl_TableText.f
 repeat' first
   | (with_reducible exact ih0 _ _ _ _ _ _ _ _)
   | (with_reducible exact impl_CsvText.mono _ _)
   | (with_reducible exact impl_FixText.mono _ _)
   | (with_reducible exact impl_TableOk.mono _ _ _ _ _)
   | (with_reducible exact impl_fixTexts.mono _ _)
   | (with_reducible exact LeO.refl _)
   | (with_reducible exact LeO.none _)
   | (with_reducible refine LeO.ite ?_ ?_)
   | (with_reducible refine LeO.bind ?_ (fun _ => ?_))
   | exact ih0 _ _ _ _ _ _ _ _
   | exact impl_CsvText.mono _ _
   | exact impl_FixText.mono _ _
   | exact impl_TableOk.mono _ _ _ _ _
   | exact impl_fixTexts.mono _ _
   | exact LeO.none _
   | refine LeO.ite ?_ ?_
   | refine LeO.bind ?_ (fun _ => ?_)
def impl_TableText.T3 : Bool × List (List Nat × List Nat) := (true,[([],[]),([0],[0]),([1],[1]),([],[]),([3],[3]),([4],[4]),([2,5,2],[2,5]),([6],[6]),([7,6,0,1,2,3,4,5,6,7],[7])])
def impl_TableText.B3 : List Nat := [0,1,3,0,8,24,63,127,255]
theorem impl_TableText.tab3 : rtab .any (opsOf Tryd.f7 3) = impl_TableText.T3 := by kernel_rfl
theorem impl_TableText.bits3 : waitsOk impl_TableText.T3.2 impl_TableText.B3 = true := by kernel_rfl
def impl_TableText.T7 : Bool × List (List Nat × List Nat) := (true,[([],[]),([],[]),([1],[1]),([],[]),([3],[3]),([],[]),([4,5],[4,5]),([6],[6]),([7,2],[7]),([8],[8]),([2,9,8],[2,9]),([10],[10]),([0,11,10],[0,11]),([12,12,0,1,2,3,4,5,6,7,8,9,10,11,12],[0,12])])
def impl_TableText.B7 : List Nat := [0,0,2,0,8,0,56,120,254,510,1022,2046,4095,8191]
theorem impl_TableText.tab7 : rtab .any (opsOf Tryd.f7 7) = impl_TableText.T7 := by kernel_rfl
theorem impl_TableText.bits7 : waitsOk impl_TableText.T7.2 impl_TableText.B7 = true := by kernel_rfl
set_option maxHeartbeats 8000000 in
set_option maxRecDepth 100000 in
theorem impl_TableText.calls (k : Nat) (A0_0 : Option Addr) (c0_0 : Nat) (l0_0 : List ByteArray) (a0_1 : ByteArray) (A0_2 : Option Addr) (c0_2 : Nat) (l0_2 : List (List Int)) (A0_3 : Option Addr) (c0_3 : Nat) (l0_3 : List Int) (r : ByteArray) (w : World) (hr0_0 : Kd.C Kd.string w A0_0 l0_0.length l0_0) (hc0_0 : l0_0.length ≤ c0_0) (hr0_2 : Kd.C (Kd.slice 3 (Kd.int .i64)) w A0_2 l0_2.length l0_2) (hc0_2 : l0_2.length ≤ c0_2) (hr0_3 : Kd.C (Kd.int .i64) w A0_3 l0_3.length l0_3) (hc0_3 : l0_3.length ≤ c0_3) (hG : GT w) (h : impl_TableText.f k l0_0 a0_1 l0_2 l0_3 = some r) :
  Calls Tryd.prog 7 #[.agg #[.slice A0_0 l0_0.length c0_0,.string a0_1,.slice A0_2 l0_2.length c0_2,.slice A0_3 l0_3.length c0_3]] w fun e w' => e = .returned (.string r) ∧ Below w.heap.size w w' := by
 have HG := Aside0.mk hG
 clear hG
 have hu29 := Tryd.underlying29
 have HR0_0 := Aside0.mk hr0_0
 have HC0_0 := Aside0.mk hc0_0
 clear hr0_0 hc0_0
 have HR0_2 := Aside0.mk hr0_2
 have HC0_2 := Aside0.mk hc0_2
 clear hr0_2 hc0_2
 have HR0_3 := Aside0.mk hr0_3
 have HC0_3 := Aside0.mk hc0_3
 clear hr0_3 hc0_3
 have HB := Aside0.mk (Below.refl w.heap.size w)
 have H := h
 clear h
 unfold impl_TableText.f at H
 obtain ⟨t335,A20,H⟩ := Option.bind_eq_some_iff.mp H
 have A2 := Aside0.mk A20
 clear A20
 by_cases c3 : t335 = true
 rotate_left
 ·replace c3 := Bool.eq_false_iff.mpr c3
  subst c3
  rw [if_neg Bool.false_ne_true] at H
  obtain rfl := Option.some.inj H
  go_enter Tryd.func7,Tryd.ntmps7
  go_wp2_with (first | ((with_reducible refine gate_dst (N := 1) rfl ?_);refine bE 1 #[.slice A0_0 l0_0.length c0_0,.string a0_1,.slice A0_2 l0_2.length c0_2,.slice A0_3 l0_3.length c0_3] 29 (h := ?_);intro gb334 hg wq1 hbox hb;have n_ := Z8;clear HB;obtain ⟨HB,BK334,GW334,GE334⟩ := n_;clear hb hbox hg;obtain ⟨hczq2_0,hczq2_1,hczq2_2,hczq2_3,hfzq2_0,hfzq2_1,hfzq2_2,hfzq2_3⟩ := cells4 BK334.out) | ((with_reducible refine gate_callee (f := 18) rfl ?_);refine goesL_ (some 7) rfl rfl Tryd.func18 Z121 rfl #[.agg #[.slice A0_0 l0_0.length c0_0,.string a0_1,.slice A0_2 l0_2.length c0_2,.slice A0_3 l0_3.length c0_3]] rfl Z66 ?_;(with_reducible refine (impl_TableOk.calls k _ _ l0_0 a0_1 _ _ l0_2 _ _ l0_3 false _ ?side1 ?side2 ?side3 ?side4 ?side5 ?side6 A2.out).mono ?_);(case side1 => exact Z41);(case side2 => exact Z118);(case side3 => exact Z43);(case side4 => exact Z119);(case side5 => exact Z42);(case side6 => exact Z120);rintro e wq3 ⟨rfl,hb⟩;refine ⟨_,rfl,?_⟩;have n_ := Z14;clear BK334 HB;obtain ⟨BK334,HB⟩ := n_;(try clear hb);(try clear hb2);(try clear hk);(try clear hi)))
  go_ret
  exact ⟨Z98,Z129⟩
 subst c3
 rw [if_pos rfl] at H
 obtain ⟨t336,A40,H⟩ := Option.bind_eq_some_iff.mp H
 have A4 := Aside0.mk A40
 clear A40
 obtain ⟨y339,hyy⟩ : ∃ y_ : List ByteArray,y_ = (([a0_1] : List ByteArray)) := ⟨_,rfl⟩
 replace H : (if t336.length + y339.length < 8796093022208 then (impl_TableText.l0 k (([(t336 ++ y339)] : List (List ByteArray))) l0_2 (l0_2.length : Int) 0 l0_0 a0_1 l0_2 l0_3) else (none)) = some r := zR
 have Ny339 := Aside0.mk hyy
 clear hyy
 obtain ⟨c5,H⟩ := ifp H
 have LMc5 := Aside0.mk c5
 clear c5
 obtain ⟨y342,hyy⟩ : ∃ y_ : List ByteArray,y_ = (t336 ++ y339) := ⟨_,rfl⟩
 replace H : (impl_TableText.l0 k (([y342] : List (List ByteArray))) l0_2 (l0_2.length : Int) 0 l0_0 a0_1 l0_2 l0_3) = some r := zR
 have Ny342 := Aside0.mk hyy
 clear hyy
 obtain ⟨y345,hyy⟩ : ∃ y_ : List (List ByteArray),y_ = (([y342] : List (List ByteArray))) := ⟨_,rfl⟩
 replace H : (impl_TableText.l0 k y345 l0_2 (l0_2.length : Int) 0 l0_0 a0_1 l0_2 l0_3) = some r := zR
 have Ny345 := Aside0.mk hyy
 clear hyy
 have H' := Aside0.mk H
 clear H
 go_enter Tryd.func7,Tryd.ntmps7
 try go_wp2_with (first | ((with_reducible refine gate_dst (N := 1) rfl ?_);refine bE 1 #[.slice A0_0 l0_0.length c0_0,.string a0_1,.slice A0_2 l0_2.length c0_2,.slice A0_3 l0_3.length c0_3] 29 (h := ?_);intro gb334 hg w6 hbox hb;have n_ := Z8;clear HB;obtain ⟨HB,BK334,GW334,GE334⟩ := n_;clear hb hbox hg;obtain ⟨hcz7_0,hcz7_1,hcz7_2,hcz7_3,hfz7_0,hfz7_1,hfz7_2,hfz7_3⟩ := cells4 BK334.out) | ((with_reducible refine gate_callee (f := 18) rfl ?_);refine goesL_ (some 7) rfl rfl Tryd.func18 Z121 rfl #[.agg #[.slice A0_0 l0_0.length c0_0,.string a0_1,.slice A0_2 l0_2.length c0_2,.slice A0_3 l0_3.length c0_3]] rfl Z66 ?_;(with_reducible refine (impl_TableOk.calls k _ _ l0_0 a0_1 _ _ l0_2 _ _ l0_3 true _ ?side1 ?side2 ?side3 ?side4 ?side5 ?side6 A2.out).mono ?_);(case side1 => exact Z41);(case side2 => exact Z118);(case side3 => exact Z43);(case side4 => exact Z119);(case side5 => exact Z42);(case side6 => exact Z120);rintro e w8 ⟨rfl,hb⟩;refine ⟨_,rfl,?_⟩;have n_ := Z14;clear BK334 HB;obtain ⟨BK334,HB⟩ := n_;(try clear hb);(try clear hb2);(try clear hk);(try clear hi)))
 have n_ := jA (blk_drew BK334.out) (Aside0.mk (below_drew1 HB.out))
 clear BK334 HB
 obtain ⟨BK334,HB⟩ := n_
 refine start_ (n := 9) (S := fun w' => w'.cell? ⟨gb334,0,none⟩ = some (.slice A0_0 l0_0.length c0_0) ∧ w'.cell? ⟨gb334,1,none⟩ = some (.string a0_1) ∧ w'.cell? ⟨gb334,2,none⟩ = some (.slice A0_2 l0_2.length c0_2) ∧ w'.cell? ⟨gb334,3,none⟩ = some (.slice A0_3 l0_3.length c0_3)) (ds := []) (qM 9 0) Z121 rfl (by kernel_rfl) ⟨bc BK334 0,bc BK334 1,bc BK334 2,bc BK334 3⟩ (fun hHeld => ?_);refine with_tabW impl_TableText.tab3 impl_TableText.bits3 (fun HT_ HW_ => ?_)
 generalize w8.drew = w9 at BK334 HB hHeld ⊢
 refine rP 0 9 9 1 HT_ (h := ?_)
 refine rP 3 12 9 9 HT_ (h := ?_)
 refine rT4 1 10 9 11 HT_ HW_ hHeld (h := ?_)
 refine rT4 4 13 9 27 HT_ HW_ hHeld (h := ?_)
 refine join_ (σ := Value × Value) 3 (qM 9 63) (fun s_ => [(11,s_.1),(14,s_.2)]) (fun s_ w' => (w'.cell? ⟨gb334,0,none⟩ = some (.slice A0_0 l0_0.length c0_0) ∧ w'.cell? ⟨gb334,1,none⟩ = some (.string a0_1) ∧ w'.cell? ⟨gb334,2,none⟩ = some (.slice A0_2 l0_2.length c0_2) ∧ w'.cell? ⟨gb334,3,none⟩ = some (.slice A0_3 l0_3.length c0_3)) ∧ (Kd.R Kd.string 9 w' w.heap.size (fun k_ => some k_ ≠ (s_.2 : Value).ownBlock) s_.1 t336) ∧ (Kd.R Kd.string 9 w' w.heap.size (fun k_ => some k_ ≠ (s_.1 : Value).ownBlock) s_.2 y339) ∧ (w'.heap[gb334]? = some (.cells #[.slice A0_0 l0_0.length c0_0,.string a0_1,.slice A0_2 l0_2.length c0_2,.slice A0_3 l0_3.length c0_3] 29 (0,0))) ∧ (Below w.heap.size w w')) ?_ ?_
 rotate_left
 ·intro hCont
  refine two_ (i := 2) (j := 5) (Ni := some 11) (Nj := some 14) (qM 9 31) (qM 9 59) rfl rfl rfl rfl (two_of HT_.out Z121) Z145 Z145 (fun K hK => ?_) (fun K hK => ?_)
  ·skip
   refine goes_ Tryd.func19 Z121 rfl #[.slice A0_0 l0_0.length c0_0] Z123 rfl rfl Z66 ?_
   with_reducible refine (slices_Clone_string_string.calls _ _ l0_0 t336 _ ?side1 ?side2 A4.out).mono ?_
   (case side1 => exact Z41)
   (case side2 => exact Z118)
   rintro e w10 ⟨v337,rfl,ho0,hb⟩
   refine ⟨_,rfl,?_⟩
   have n_ := jA (Kd.R_lower ho0 (below_size Z129)) (jA (blk_below (g := gb334) (o := .cells #[.slice A0_0 l0_0.length c0_0,.string a0_1,.slice A0_2 l0_2.length c0_2,.slice A0_3 l0_3.length c0_3] 29 (0,0)) Z141 hb) (Aside0.mk (below_step Z129 hb)))
   clear BK334 HB
   obtain ⟨HO338,BK334,HB⟩ := n_
   (try clear hb)
   (try clear hb2)
   (try clear hk)
   (try clear hi)
   (try clear ho0)
   refine hK.out _ _ ⟨bc BK334 0,bc BK334 1,bc BK334 2,bc BK334 3⟩ (fun hHeld => ?_)
   clear hK K
   refine rN (h := ?_)
   refine rO 5 14 9 63 HT_ (h := fun K hK => ?_)
   refine Kd.R_lit_step Kd.string _ 9 ?hg (N := 14) ?hd (xs := ([a0_1] : List ByteArray)) (inner := [.string a0_1]) (ok := fun _ => True) (okp := fun _ => True) ?hr ?hp (fun _ hk => hk) trivial (Below.refl _ _) (Nat.le_refl _) Z146 ?_;(case hd => rfl);(case hg => rfl);(case hr => exact Z107);(case hp => exact Z100)
   intro v340 w11 ho12 hb hg_ hnew_
   clear hg_ hnew_
   (first | rw [← Ny339.out] at ho12 | (simp only [Int.reduceToNat] at ho12;rw [← Ny339.out] at ho12))
   have n_ := jA (Kd.R_elder' Z87 (Kd.R_base ho12) hb) (jA (Kd.R_lower (Kd.R_new' ho12 (Kd.R_lt Z87)) (below_size Z129)) (jA (blk_below (g := gb334) (o := .cells #[.slice A0_0 l0_0.length c0_0,.string a0_1,.slice A0_2 l0_2.length c0_2,.slice A0_3 l0_3.length c0_3] 29 (0,0)) Z141 hb) (Aside0.mk (below_step Z129 hb))))
   clear HO338 BK334 HB
   obtain ⟨HO338,HO341,BK334,HB⟩ := n_
   clear hb ho12
   refine hK.out _ _ ⟨bc BK334 0,bc BK334 1,bc BK334 2,bc BK334 3⟩ (fun hHeld => ?_)
   clear hK K
   refine rN (h := ?_)
   exact norm_ Z99 (hCont (v337,v340) _ ⟨hHeld,Z71,Z70,Z141,Z129⟩)
  skip
  refine Kd.R_lit_step Kd.string _ 9 ?hg (N := 14) ?hd (xs := ([a0_1] : List ByteArray)) (inner := [.string a0_1]) (ok := fun _ => True) (okp := fun _ => True) ?hr ?hp (fun _ hk => hk) trivial (Below.refl _ _) (Nat.le_refl _) Z146 ?_;(case hd => rfl);(case hg => rfl);(case hr => exact Z107);(case hp => exact Z100)
  intro v340 w10 ho11 hb hg_ hnew_
  clear hg_ hnew_
  (first | rw [← Ny339.out] at ho11 | (simp only [Int.reduceToNat] at ho11;rw [← Ny339.out] at ho11))
  have n_ := jA (Kd.R_lower ho11 (below_size Z129)) (jA (blk_below (g := gb334) (o := .cells #[.slice A0_0 l0_0.length c0_0,.string a0_1,.slice A0_2 l0_2.length c0_2,.slice A0_3 l0_3.length c0_3] 29 (0,0)) Z141 hb) (Aside0.mk (below_step Z129 hb)))
  clear BK334 HB
  obtain ⟨HO341,BK334,HB⟩ := n_
  clear hb ho11
  refine hK.out _ _ ⟨bc BK334 0,bc BK334 1,bc BK334 2,bc BK334 3⟩ (fun hHeld => ?_)
  clear hK K
  refine rN (h := ?_)
  refine rO 2 11 9 63 HT_ (h := fun K hK => ?_)
  refine goes_ Tryd.func19 Z121 rfl #[.slice A0_0 l0_0.length c0_0] Z123 rfl rfl Z66 ?_
  with_reducible refine (slices_Clone_string_string.calls _ _ l0_0 t336 _ ?side1 ?side2 A4.out).mono ?_
  (case side1 => exact Z41)
  (case side2 => exact Z118)
  rintro e w12 ⟨v337,rfl,ho0,hb⟩
  refine ⟨_,rfl,?_⟩
  have n_ := jA (Kd.R_elder' Z82 (Kd.R_base ho0) hb) (jA (Kd.R_lower (Kd.R_new' ho0 (Kd.R_lt Z82)) (below_size Z129)) (jA (blk_below (g := gb334) (o := .cells #[.slice A0_0 l0_0.length c0_0,.string a0_1,.slice A0_2 l0_2.length c0_2,.slice A0_3 l0_3.length c0_3] 29 (0,0)) Z141 hb) (Aside0.mk (below_step Z129 hb))))
  clear HO341 BK334 HB
  obtain ⟨HO341,HO338,BK334,HB⟩ := n_
  (try clear hb)
  (try clear hb2)
  (try clear hk)
  (try clear hi)
  (try clear ho0)
  refine hK.out _ _ ⟨bc BK334 0,bc BK334 1,bc BK334 2,bc BK334 3⟩ (fun hHeld => ?_)
  clear hK K
  refine rN (h := ?_)
  exact norm_ Z99 (hCont (v337,v340) _ ⟨hHeld,Z71,Z70,Z141,Z129⟩)
 rintro ⟨v337,v340⟩ w13 ⟨hS_,h0_,h1_,h2_,h3_⟩
 have n0_ : Aside0 (Kd.R Kd.string 9 w13 w.heap.size (fun k_ => some k_ ≠ (v340 : Value).ownBlock) v337 t336) := ⟨h0_⟩
 have n1_ : Aside0 (Kd.R Kd.string 9 w13 w.heap.size (fun k_ => some k_ ≠ (v337 : Value).ownBlock) v340 y339) := ⟨h1_⟩
 have n2_ : Aside0 (w13.heap[gb334]? = some (.cells #[.slice A0_0 l0_0.length c0_0,.string a0_1,.slice A0_2 l0_2.length c0_2,.slice A0_3 l0_3.length c0_3] 29 (0,0))) := ⟨h2_⟩
 have n3_ : Aside0 (Below w.heap.size w w13) := ⟨h3_⟩
 clear BK334
 clear HB
 clear h0_ h1_ h2_ h3_
 have HO338 := n0_
 have HO341 := n1_
 have BK334 := n2_
 have HB := n3_
 clear n0_ n1_ n2_ n3_
 have hHeld : w13.cell? ⟨gb334,0,none⟩ = some (.slice A0_0 l0_0.length c0_0) ∧ w13.cell? ⟨gb334,1,none⟩ = some (.string a0_1) ∧ w13.cell? ⟨gb334,2,none⟩ = some (.slice A0_2 l0_2.length c0_2) ∧ w13.cell? ⟨gb334,3,none⟩ = some (.slice A0_3 l0_3.length c0_3) := hS_
 obtain ⟨Ao15,co15,eo15⟩ := Kd.R_slice HO341.out
 (first | subst eo15 | (injection eo15 with f1_ f2_ f3_;have f4_ := f1_.symm;have f5_ := f3_.symm;clear f1_ f2_ f3_;subst f4_;subst f5_))
 refine norm_ (a' := ?_) ?_ ?_
 rotate_left
 ·simp only [putAll,Act.put,List.setIfInBounds_toArray,List.set_cons_zero,List.set_cons_succ]
  rfl
 refine rO 6 15 9 127 HT_ (h := fun K hK => ?_)
 refine Kd.R_append_rows_step Kd.string (w0 := w) w.heap.size Z123 (.tmp 11) (.tmp 14) 22 9 (.string ⟨#[]⟩) 16 rfl Tryd.underlying22 info9 rfl Z145 Z122 v337 t336 y339 _ _ _ (fun k_ => some k_ ≠ (.slice Ao15 y339.length co15 : Value).ownBlock) (fun _ => False) rfl rfl ?aO ?aR (fun _ _ h => h) (fun _ h => h.elim) ?aF ?aB ?aS ?aL ?_
 (case aR => repeat (first | exact (Kd.R_reads' HO341.out).2.2 | (with_reducible refine Kd.C_alloc ?_ _) | (with_reducible refine Kd.C_drewN ?_ _) | (with_reducible refine Kd.C_drew ?_)))
 (case aB => exact Z47)
 (case aF => exact (fun k_ hk => Kd.fresh' (Kd.R_lt Z82) k_ hk))
 (case aO => exact Z87)
 (case aS => exact Z40)
 (case aL => exact Z115)
 intro v343 w14 ho hb hg hat
 rw [← Ny342.out] at ho
 have n_ := jA (blk_grown (g := gb334) (o := .cells #[.slice A0_0 l0_0.length c0_0,.string a0_1,.slice A0_2 l0_2.length c0_2,.slice A0_3 l0_3.length c0_3] 29 (0,0)) Z141 hg (Kd.R_ne HO338.out BK334.out Z145)) (jA (Kd.R_after (ok := (fun _ => True)) (by (with_reducible repeat (first | apply Kd.R_alloc | apply Kd.R_drewN | apply Kd.R_drew));exact Kd.R_mono HO341.out (fun _ hk => ⟨trivial,hk⟩)) hg hat) (jA (hb) (Aside0.mk (ho))))
 clear BK334 HO341 HB HO338
 obtain ⟨BK334,HO341,HB,HO344⟩ := n_
 clear ho hb hg hat
 obtain ⟨Ao16,co16,eo16⟩ := Kd.R_slice HO344.out
 (first | subst eo16 | (injection eo16 with f1_ f2_ f3_;have f4_ := f1_.symm;have f5_ := f3_.symm;clear f1_ f2_ f3_;subst f4_;subst f5_))
 refine hK.out _ _ ⟨bc BK334 0,bc BK334 1,bc BK334 2,bc BK334 3⟩ (fun hHeld => ?_)
 clear hK K
 refine rN (h := ?_)
 refine rO 7 16 9 255 HT_ (h := fun K hK => ?_)
 refine Kd.N_lit_step (Kd.slice 9 Kd.string) _ 22 ?hg (N' := 16) ?hd (xs := ([y342] : List (List ByteArray))) (inner := [.slice Ao16 y342.length co16]) (ok := (fun k_ => some k_ ≠ (.slice Ao15 y339.length co15 : Value).ownBlock ∧ k_ ≠ gb334)) (okp := (fun k_ => some k_ ≠ (.slice Ao15 y339.length co15 : Value).ownBlock ∧ k_ ≠ gb334)) ?hr ?hp (fun _ hk => hk) ((show ∀ k_,w14.heap.size ≤ k_ → (fun k_ => some k_ ≠ (.slice Ao15 y339.length co15 : Value).ownBlock ∧ k_ ≠ gb334) k_ from fun k_ hk => ⟨Kd.fresh' (Kd.R_lt Z82) k_ hk,Kd.freshB (g := gb334) (o := .cells #[.slice A0_0 l0_0.length c0_0,.string a0_1,.slice A0_2 l0_2.length c0_2,.slice A0_3 l0_3.length c0_3] 29 (0,0)) Z141 k_ hk⟩) _ (Nat.le_refl _)) (Below.refl _ _) (Nat.le_refl _) Z146 ?_;(case hd => rfl);(case hg => rfl);(case hr => exact Z107);(case hp => exact (Reps.one (show Kd.FK (Kd.slice 9 Kd.string) _ _ y342 [.slice Ao16 y342.length co16] from (Kd.FK_slice_mk (Kd.R_reads' (Kd.R_mono (ok' := (fun k_ => some k_ ≠ (.slice Ao15 y339.length co15 : Value).ownBlock ∧ k_ ≠ gb334)) (Kd.R_types (HO344.out) BK334.out Z145) (fun k_ hk => ⟨hk.1,hk.2⟩))).2.1 (Kd.R_F (Kd.R_mono (ok' := (fun k_ => some k_ ≠ (.slice Ao15 y339.length co15 : Value).ownBlock ∧ k_ ≠ gb334)) (Kd.R_types (HO344.out) BK334.out Z145) (fun k_ hk => ⟨hk.1,hk.2⟩))))) (Reps.none _ _)))
 intro v346 w17 ho18 hb hg_ hnew_
 clear hg_ hnew_
 (first | rw [← Ny345.out] at ho18 | (simp only [Int.reduceToNat] at ho18;rw [← Ny345.out] at ho18))
 have n_ := jA (Kd.R_below Z82 hb) (jA (Kd.N_lower ho18 (below_size Z129)) (jA (blk_below (g := gb334) (o := .cells #[.slice A0_0 l0_0.length c0_0,.string a0_1,.slice A0_2 l0_2.length c0_2,.slice A0_3 l0_3.length c0_3] 29 (0,0)) Z141 hb) (Aside0.mk (below_step Z129 hb))))
 clear HO341 BK334 HB HO344
 obtain ⟨HO341,HO347,BK334,HB⟩ := n_
 clear hb ho18
 refine hK.out _ _ ⟨bc BK334 0,bc BK334 1,bc BK334 2,bc BK334 3⟩ (fun hHeld => ?_)
 clear hK K
 refine rN (h := ?_)
 refine rP 8 3 9 511 HT_ (h := ?_)
 refine done_ (done_of HT_.out Z121) ?_
 obtain ⟨hcz19_0,hcz19_1,hcz19_2,hcz19_3,hfz19_0,hfz19_1,hfz19_2,hfz19_3⟩ := cells4 BK334.out
 try go_wp2
 go_loopg [3,20] k (fun kq v3 v20 w' => ∃ (x3_1 : List (List ByteArray)) (x20_1 : Int),v20 = .int .i64 x20_1 ∧ Aside0 (impl_TableText.l0 kq x3_1 l0_2 (l0_2.length : Int) x20_1 l0_0 a0_1 l0_2 l0_3 = some r) ∧ Aside0 (kq ≤ k) ∧ Aside0 (Kd.N (Kd.slice 9 Kd.string) 22 w' w.heap.size (fun k_ => k_ ≠ gb334) v3 x3_1) ∧ Aside0 (w'.heap[gb334]? = some (.cells #[(.slice A0_0 l0_0.length c0_0),.string a0_1,(.slice A0_2 l0_2.length c0_2),(.slice A0_3 l0_3.length c0_3)] 29 (0,0))) ∧ Aside0 (Below w.heap.size w w'))
 case atStart => exact ⟨(y345),(0),Z106,H',⟨Nat.le_refl _⟩,⟨by (with_reducible repeat (first | apply Kd.N_alloc | apply Kd.N_drewN | apply Kd.N_drew));exact Kd.N_mono HO347.out (fun _ hk => hk.2)⟩,⟨Z141⟩,⟨Z129⟩⟩
 case round =>
  clear H'
  try clear c1
  try clear p2
  try clear c3
  try clear c5
  try clear c7
  try clear c18
  try clear c19
  obtain ⟨x3_1,x20_1,rfl,HA,HK1,HO_3,BK334,HB⟩ := hrel
  cases gk with
  | zero => exact absurd HA.out (by simp [impl_TableText.l0])
  | succ k1 =>
   have H := HA.out
   clear HA
   simp only [impl_TableText.l0] at H
   by_cases c20 : x20_1 < (l0_2.length : Int)
   rotate_left
   ·rw [if_neg c20] at H
    have c20b0 : decide (x20_1 < (l0_2.length : Int)) = false := decide_eq_false c20
    clear c20
    obtain ⟨t366,A400,H⟩ := Option.bind_eq_some_iff.mp H
    have A40 := Aside0.mk A400
    clear A400
    obtain rfl := Option.some.inj H
    obtain ⟨Ao41,co41,eo41⟩ := Kd.N_slice HO_3.out
    subst eo41
    go_wp2_with (first | ((with_reducible refine gate_callee (f := 22) rfl ?_);refine goesL_ (some 40) rfl rfl Tryd.func22 Z121 rfl #[.slice Ao41 x3_1.length co41] rfl Z66 ?_;(with_reducible refine (impl_CsvText.calls k1 _ _ x3_1 t366 _ ?side1 ?side2 A40.out).mono ?_);(case side1 => exact Z50);(case side2 => exact (Kd.N_reads' HO_3.out).2.1);rintro e wq1 ⟨rfl,hb⟩;refine ⟨_,rfl,?_⟩;have n_ := jA (Kd.N_below Z94 hb) (jA (blk_below (g := gb334) (o := .cells #[.slice A0_0 l0_0.length c0_0,.string a0_1,.slice A0_2 l0_2.length c0_2,.slice A0_3 l0_3.length c0_3] 29 (0,0)) Z141 hb) (Aside0.mk (below_step Z129 hb)));clear HO_3 BK334 HB;obtain ⟨HO_3,BK334,HB⟩ := n_;(try clear hb);(try clear hb2);(try clear hk);(try clear hi)))
    go_ret
    exact ⟨Z98,Z129⟩
   rw [if_pos c20] at H
   have c20b0 : decide (x20_1 < (l0_2.length : Int)) = true := decide_eq_true c20
   clear c20
   obtain ⟨c21,H⟩ := ifp H
   have c21b0 : decide (0 ≤ x20_1) = true := decide_eq_true c21
   clear c21
   obtain ⟨c22,H⟩ := ifp H
   have c22b0 : decide (x20_1 < (l0_2.length : Int)) = true := decide_eq_true c22
   clear c22
   obtain ⟨t349,A230,H⟩ := Option.bind_eq_some_iff.mp H
   have A23 := Aside0.mk A230
   clear A230
   obtain ⟨c24,H⟩ := ifp H
   have c24b0 : decide (x20_1 < (l0_3.length : Int)) = true := decide_eq_true c24
   clear c24
   obtain ⟨t353,A250,H⟩ := Option.bind_eq_some_iff.mp H
   have A25 := Aside0.mk A250
   clear A250
   obtain ⟨y354,hyy⟩ : ∃ y_ : List ByteArray,y_ = (([t353] : List ByteArray)) := ⟨_,rfl⟩
   replace H : (if t349.length + y354.length < 8796093022208 then ((some (([(t349 ++ y354)] : List (List ByteArray)) : List (List ByteArray))).bind fun y360 => (if x3_1.length + y360.length < 5864062014805 then (impl_TableText.l0 k1 (x3_1 ++ y360) l0_2 (l0_2.length : Int) (wrap64 (x20_1 + 1)) l0_0 a0_1 l0_2 l0_3) else (none))) else (none)) = some r := zR
   have Ny354 := Aside0.mk hyy
   clear hyy
   obtain ⟨c26,H⟩ := ifp H
   have LMc26 := Aside0.mk c26
   clear c26
   obtain ⟨y357,hyy⟩ : ∃ y_ : List ByteArray,y_ = (t349 ++ y354) := ⟨_,rfl⟩
   replace H : ((some (([y357] : List (List ByteArray)) : List (List ByteArray))).bind fun y360 => (if x3_1.length + y360.length < 5864062014805 then (impl_TableText.l0 k1 (x3_1 ++ y360) l0_2 (l0_2.length : Int) (wrap64 (x20_1 + 1)) l0_0 a0_1 l0_2 l0_3) else (none))) = some r := zR
   have Ny357 := Aside0.mk hyy
   clear hyy
   obtain ⟨y360,hyy⟩ : ∃ y_ : List (List ByteArray),y_ = (([y357] : List (List ByteArray))) := ⟨_,rfl⟩
   replace H : (if x3_1.length + y360.length < 5864062014805 then (impl_TableText.l0 k1 (x3_1 ++ y360) l0_2 (l0_2.length : Int) (wrap64 (x20_1 + 1)) l0_0 a0_1 l0_2 l0_3) else (none)) = some r := zR
   have Ny360 := Aside0.mk hyy
   clear hyy
   obtain ⟨c27,H⟩ := ifp H
   have LMc27 := Aside0.mk c27
   clear c27
   obtain ⟨y363,hyy⟩ : ∃ y_ : List (List ByteArray),y_ = (x3_1 ++ y360) := ⟨_,rfl⟩
   replace H : (impl_TableText.l0 k1 y363 l0_2 (l0_2.length : Int) (wrap64 (x20_1 + 1)) l0_0 a0_1 l0_2 l0_3) = some r := zR
   have Ny363 := Aside0.mk hyy
   clear hyy
   have H' := Aside0.mk H
   clear H
   have p348 : 0 ≤ (x20_1 : Int) := of_decide_eq_true Z105
   have q348 : x20_1 < (l0_2.length : Int) := of_decide_eq_true Z105
   obtain ⟨ad348,A348_0,c348_0,e348,hx348_0,hl348_0,hi348_0⟩ := at_L2 HR0_2.out x20_1 p348 q348
   cases e348
   replace hx348_0 := (HB.out.cell (World.block_lt_of_cell? w _ hx348_0)).trans hx348_0
   have HR348_0 := Aside0.mk hi348_0
   have HC348_0 := Aside0.mk hl348_0
   clear hi348_0 hl348_0
   replace p348 := eq_true p348
   replace q348 := eq_true q348
   try go_wp2
   have n_ := jA (Kd.N_drew HO_3.out) (jA (blk_drew BK334.out) (Aside0.mk (below_drew1 HB.out)))
   clear HO_3 BK334 HB
   obtain ⟨HO_3,BK334,HB⟩ := n_
   have p352 : 0 ≤ (x20_1 : Int) := of_decide_eq_true Z105
   have q352 : x20_1 < (l0_3.length : Int) := of_decide_eq_true Z105
   obtain ⟨ad352,e352,hx352_0⟩ := Kd.at_int HR0_3.out x20_1 p352 q352
   have hw352_0 := hx352_0
   cases e352
   replace hx352_0 := (HB.out.cell (World.block_lt_of_cell? w _ hx352_0)).trans hx352_0
   replace p352 := eq_true p352
   replace q352 := eq_true q352
   refine start_ (n := 14) (S := fun w' => w'.cell? ⟨gb334,0,none⟩ = some (.slice A0_0 l0_0.length c0_0) ∧ w'.cell? ⟨gb334,1,none⟩ = some (.string a0_1) ∧ w'.cell? ⟨gb334,2,none⟩ = some (.slice (some ad348) l0_2.length c0_2) ∧ w'.cell? ⟨gb334,3,none⟩ = some (.slice (some ad352) l0_3.length c0_3) ∧ w'.cell? (ad352.add (x20_1).toNat) = some (.int .i64 (rd l0_3 x20_1))) (ds := []) (qM 14 0) Z121 rfl (by kernel_rfl) ⟨bc BK334 0,bc BK334 1,bc BK334 2,bc BK334 3,((HB.out.cell (World.block_lt_of_cell? w _ hw352_0)).trans hw352_0)⟩ (fun hHeld => ?_);refine with_tabW impl_TableText.tab7 impl_TableText.bits7 (fun HT_ HW_ => ?_)
   generalize wr.drew = w28 at HO_3 BK334 HB hx352_0 hHeld ⊢
   refine rP 0 25 14 1 HT_ (h := ?_)
   refine rP 1 26 14 3 HT_ (h := ?_)
   refine rP 3 28 14 11 HT_ (h := ?_)
   refine rP 5 30 14 43 HT_ (h := ?_)
   refine rT5 4 29 14 59 HT_ HW_ hHeld (h := ?_)
   refine rP 6 31 14 123 HT_ (h := ?_)
   refine rT5 7 32 14 251 HT_ HW_ hHeld (h := ?_)
   refine rO 2 27 14 255 HT_ (h := fun K hK => ?_)
   refine goes_ Tryd.func20 Z121 rfl #[.slice A348_0 (rd_L2 l0_2 x20_1).length c348_0] Z123 rfl rfl Z66 ?_
   with_reducible refine (impl_fixTexts.calls k1 _ _ (rd_L2 l0_2 x20_1) t349 _ ?side1 ?side2 ?side3 A23.out).mono ?_
   (case side1 => repeat (first | exact (Kd.C_below HR348_0.out HB.out) | (with_reducible refine Kd.C_alloc ?_ _) | (with_reducible refine Kd.C_drewN ?_ _) | (with_reducible refine Kd.C_drew ?_)))
   (case side2 => exact HC348_0.out)
   (case side3 => exact Z37)
   rintro e w29 ⟨v350,rfl,ho0,hb⟩
   refine ⟨_,rfl,?_⟩
   have n_ := jA (Kd.N_elder' Z94 (Kd.R_base ho0) hb) (jA (Kd.R_lower ho0 (below_size Z129)) (jA (blk_below (g := gb334) (o := .cells #[.slice A0_0 l0_0.length c0_0,.string a0_1,.slice (some ad348) l0_2.length c0_2,.slice (some ad352) l0_3.length c0_3] 29 (0,0)) Z141 hb) (Aside0.mk (below_step Z129 hb))))
   clear HO_3 BK334 HB
   obtain ⟨HO_3,HO351,BK334,HB⟩ := n_
   (try clear hb)
   (try clear hb2)
   (try clear hk)
   (try clear hi)
   (try clear ho0)
   refine hK.out _ _ ⟨bc BK334 0,bc BK334 1,bc BK334 2,bc BK334 3,((HB.out.cell (World.block_lt_of_cell? w _ hw352_0)).trans hw352_0)⟩ (fun hHeld => ?_)
   clear hK K
   refine rN (h := ?_)
   refine rO 8 33 14 511 HT_ (h := fun K hK => ?_)
   refine goes_ Tryd.func21 Z121 rfl #[.int .i64 (rd l0_3 x20_1)] Z123 rfl rfl Z66 ?_
   with_reducible refine (impl_FixText.calls k1 (rd l0_3 x20_1) t353 _ ?side1 A25.out).mono ?_
   (case side1 => exact Z37)
   rintro e w30 ⟨rfl,hb⟩
   refine ⟨_,rfl,?_⟩
   have n_ := jA (Kd.N_below Z94 hb) (jA (Kd.R_below Z86 hb) (jA (blk_below (g := gb334) (o := .cells #[.slice A0_0 l0_0.length c0_0,.string a0_1,.slice (some ad348) l0_2.length c0_2,.slice (some ad352) l0_3.length c0_3] 29 (0,0)) Z141 hb) (Aside0.mk (below_step Z129 hb))))
   clear HO_3 HO351 BK334 HB
   obtain ⟨HO_3,HO351,BK334,HB⟩ := n_
   (try clear hb)
   (try clear hb2)
   (try clear hk)
   (try clear hi)
   refine hK.out _ _ ⟨bc BK334 0,bc BK334 1,bc BK334 2,bc BK334 3,((HB.out.cell (World.block_lt_of_cell? w _ hw352_0)).trans hw352_0)⟩ (fun hHeld => ?_)
   clear hK K
   refine rN (h := ?_)
   refine rO 9 34 14 1023 HT_ (h := fun K hK => ?_)
   refine Kd.R_lit_step Kd.string _ 9 ?hg (N := 34) ?hd (xs := ([t353] : List ByteArray)) (inner := [.string t353]) (ok := fun _ => True) (okp := fun _ => True) ?hr ?hp (fun _ hk => hk) trivial (Below.refl _ _) (Nat.le_refl _) Z146 ?_;(case hd => rfl);(case hg => rfl);(case hr => exact Z107);(case hp => exact (Reps.one (show Kd.M Kd.string _ _ _ t353 [.string t353] from rfl) (Reps.none _ _)))
   intro v355 w31 ho32 hb hg_ hnew_
   clear hg_ hnew_
   (first | rw [← Ny354.out] at ho32 | (simp only [Int.reduceToNat] at ho32;rw [← Ny354.out] at ho32))
   have n_ := jA (Kd.N_elder' Z94 (Kd.R_base ho32) hb) (jA (Kd.R_elder' Z86 (Kd.R_base ho32) hb) (jA (Kd.R_lower (Kd.R_new' ho32 (Kd.R_lt Z86)) (below_size Z129)) (jA (blk_below (g := gb334) (o := .cells #[.slice A0_0 l0_0.length c0_0,.string a0_1,.slice (some ad348) l0_2.length c0_2,.slice (some ad352) l0_3.length c0_3] 29 (0,0)) Z141 hb) (Aside0.mk (below_step Z129 hb)))))
   clear HO_3 HO351 BK334 HB
   obtain ⟨HO_3,HO351,HO356,BK334,HB⟩ := n_
   clear hb ho32
   obtain ⟨Ao34,co34,eo34⟩ := Kd.R_slice HO356.out
   (first | subst eo34 | (injection eo34 with f1_ f2_ f3_;have f4_ := f1_.symm;have f5_ := f3_.symm;clear f1_ f2_ f3_;subst f4_;subst f5_))
   refine hK.out _ _ ⟨bc BK334 0,bc BK334 1,bc BK334 2,bc BK334 3,((HB.out.cell (World.block_lt_of_cell? w _ hw352_0)).trans hw352_0)⟩ (fun hHeld => ?_)
   clear hK K
   refine rN (h := ?_)
   refine rO 10 35 14 2047 HT_ (h := fun K hK => ?_)
   refine Kd.R_append_rows_step Kd.string (w0 := w) w.heap.size Z123 (.tmp 27) (.tmp 34) 22 9 (.string ⟨#[]⟩) 16 rfl Tryd.underlying22 info9 rfl Z145 Z122 v350 t349 y354 _ _ _ (fun k_ => some k_ ≠ (.slice Ao34 y354.length co34 : Value).ownBlock) (fun _ => False) rfl rfl ?aO ?aR (fun _ _ h => h) (fun _ h => h.elim) ?aF ?aB ?aS ?aL ?_
   (case aR => repeat (first | exact (Kd.R_reads' HO356.out).2.2 | (with_reducible refine Kd.C_alloc ?_ _) | (with_reducible refine Kd.C_drewN ?_ _) | (with_reducible refine Kd.C_drew ?_)))
   (case aB => exact Z47)
   (case aF => exact (fun k_ hk => Kd.fresh' (Kd.R_lt Z79) k_ hk))
   (case aO => exact (by (with_reducible repeat (first | apply Kd.R_alloc | apply Kd.R_drewN | apply Kd.R_drew));exact Kd.R_mono HO351.out (fun _ hk => hk.2)))
   (case aS => exact Z40)
   (case aL => have := LMc26.out;omega)
   intro v358 w33 ho hb hg hat
   rw [← Ny357.out] at ho
   have n_ := jA (Kd.N_afterv (ok := (fun k_ => some k_ ≠ (.slice Ao34 y354.length co34 : Value).ownBlock ∧ k_ ≠ gb334)) (by (with_reducible repeat (first | apply Kd.N_alloc | apply Kd.N_drewN | apply Kd.N_drew));exact Kd.N_mono HO_3.out (fun _ hk => ⟨⟨hk.2,hk.1.1⟩,hk.1.2⟩)) hg hat) (jA (blk_grown (g := gb334) (o := .cells #[.slice A0_0 l0_0.length c0_0,.string a0_1,.slice (some ad348) l0_2.length c0_2,.slice (some ad352) l0_3.length c0_3] 29 (0,0)) Z141 hg (Kd.R_ne HO351.out BK334.out Z145)) (jA (Kd.R_after (ok := (fun _ => True)) Z79 hg hat) (jA (hb) (Aside0.mk (ho)))))
   clear HO_3 BK334 HO356 HB HO351
   obtain ⟨HO_3,BK334,HO356,HB,HO359⟩ := n_
   clear ho hb hg hat
   obtain ⟨Ao35,co35,eo35⟩ := Kd.R_slice HO359.out
   (first | subst eo35 | (injection eo35 with f1_ f2_ f3_;have f4_ := f1_.symm;have f5_ := f3_.symm;clear f1_ f2_ f3_;subst f4_;subst f5_))
   refine hK.out _ _ ⟨bc BK334 0,bc BK334 1,bc BK334 2,bc BK334 3,((HB.out.cell (World.block_lt_of_cell? w _ hw352_0)).trans hw352_0)⟩ (fun hHeld => ?_)
   clear hK K
   refine rN (h := ?_)
   refine rO 11 36 14 4095 HT_ (h := fun K hK => ?_)
   refine Kd.N_lit_step (Kd.slice 9 Kd.string) _ 22 ?hg (N' := 36) ?hd (xs := ([y357] : List (List ByteArray))) (inner := [.slice Ao35 y357.length co35]) (ok := (fun k_ => some k_ ≠ (u3 : Value).ownBlock ∧ some k_ ≠ (.slice Ao34 y354.length co34 : Value).ownBlock ∧ k_ ≠ gb334)) (okp := (fun k_ => some k_ ≠ (u3 : Value).ownBlock ∧ some k_ ≠ (.slice Ao34 y354.length co34 : Value).ownBlock ∧ k_ ≠ gb334)) ?hr ?hp (fun _ hk => hk) ((show ∀ k_,w33.heap.size ≤ k_ → (fun k_ => some k_ ≠ (u3 : Value).ownBlock ∧ some k_ ≠ (.slice Ao34 y354.length co34 : Value).ownBlock ∧ k_ ≠ gb334) k_ from fun k_ hk => ⟨Kd.fresh' (Kd.N_lt Z94) k_ hk,Kd.fresh' (Kd.R_lt Z79) k_ hk,Kd.freshB (g := gb334) (o := .cells #[.slice A0_0 l0_0.length c0_0,.string a0_1,.slice (some ad348) l0_2.length c0_2,.slice (some ad352) l0_3.length c0_3] 29 (0,0)) Z141 k_ hk⟩) _ (Nat.le_refl _)) (Below.refl _ _) (Nat.le_refl _) Z146 ?_;(case hd => rfl);(case hg => rfl);(case hr => exact Z107);(case hp => exact (Reps.one (show Kd.FK (Kd.slice 9 Kd.string) _ _ y357 [.slice Ao35 y357.length co35] from (Kd.FK_slice_mk (Kd.R_reads' (Kd.R_mono (ok' := (fun k_ => some k_ ≠ (u3 : Value).ownBlock ∧ some k_ ≠ (.slice Ao34 y354.length co34 : Value).ownBlock ∧ k_ ≠ gb334)) (Kd.R_types (Kd.R_apart' (HO359.out) (Kd.N_typed HO_3.out) Z145) BK334.out Z145) (fun k_ hk => ⟨hk.1.2,⟨hk.1.1,hk.2⟩⟩))).2.1 (Kd.R_F (Kd.R_mono (ok' := (fun k_ => some k_ ≠ (u3 : Value).ownBlock ∧ some k_ ≠ (.slice Ao34 y354.length co34 : Value).ownBlock ∧ k_ ≠ gb334)) (Kd.R_types (Kd.R_apart' (HO359.out) (Kd.N_typed HO_3.out) Z145) BK334.out Z145) (fun k_ hk => ⟨hk.1.2,⟨hk.1.1,hk.2⟩⟩))))) (Reps.none _ _)))
   intro v361 w36 ho37 hb hg_ hnew_
   clear hg_ hnew_
   (first | rw [← Ny360.out] at ho37 | (simp only [Int.reduceToNat] at ho37;rw [← Ny360.out] at ho37))
   have n_ := jA (Kd.N_elder' Z94 (Kd.N_base ho37) hb) (jA (Kd.R_below Z79 hb) (jA (Kd.N_lower ho37 (below_size Z129)) (jA (blk_below (g := gb334) (o := .cells #[.slice A0_0 l0_0.length c0_0,.string a0_1,.slice (some ad348) l0_2.length c0_2,.slice (some ad352) l0_3.length c0_3] 29 (0,0)) Z141 hb) (Aside0.mk (below_step Z129 hb)))))
   clear HO_3 HO356 BK334 HB HO359
   obtain ⟨HO_3,HO356,HO362,BK334,HB⟩ := n_
   clear hb ho37
   obtain ⟨Ao39,co39,eo39⟩ := Kd.N_slice HO362.out
   (first | subst eo39 | (injection eo39 with f1_ f2_ f3_;have f4_ := f1_.symm;have f5_ := f3_.symm;clear f1_ f2_ f3_;subst f4_;subst f5_))
   refine hK.out _ _ ⟨bc BK334 0,bc BK334 1,bc BK334 2,bc BK334 3,((HB.out.cell (World.block_lt_of_cell? w _ hw352_0)).trans hw352_0)⟩ (fun hHeld => ?_)
   clear hK K
   refine rN (h := ?_)
   refine rO 12 37 14 8191 HT_ (h := fun K hK => ?_)
   refine Kd.N_append_rows_step (Kd.slice 9 Kd.string) (w0 := w) w.heap.size Z123 (.tmp 25) (.tmp 36) 37 22 (.slice none 0 0) 24 rfl Tryd.underlying37 info22 rfl Z145 Z122 u3 x3_1 y360 _ _ _ (fun k_ => some k_ ≠ (.slice Ao34 y354.length co34 : Value).ownBlock ∧ k_ ≠ gb334) (fun k_ => ((fun k_ => some k_ ≠ (.slice Ao34 y354.length co34 : Value).ownBlock ∧ k_ ≠ gb334)) k_ ∧ some k_ ≠ (u3 : Value).ownBlock) rfl rfl ?aO ?aR (fun _ hk => hk) ?aF ?aB ?aS ?aL ?_
   (case aR => exact (by skip;exact Kd.N_F (Kd.N_mono (ok' := (fun k_ => ((fun k_ => some k_ ≠ (.slice Ao34 y354.length co34 : Value).ownBlock ∧ k_ ≠ gb334)) k_ ∧ some k_ ≠ (u3 : Value).ownBlock)) (HO362.out) (fun k_ hk => ⟨⟨hk.2.1,hk.2.2⟩,hk.1⟩))))
   (case aB => exact Z47)
   (case aF => exact (fun k_ hk => ⟨Kd.fresh' (Kd.R_lt Z79) k_ hk,Kd.freshB (g := gb334) (o := .cells #[.slice A0_0 l0_0.length c0_0,.string a0_1,.slice (some ad348) l0_2.length c0_2,.slice (some ad352) l0_3.length c0_3] 29 (0,0)) Z141 k_ hk⟩))
   (case aO => exact Z51)
   (case aS => exact Z40)
   (case aL => have := LMc27.out;omega)
   intro v364 w38 ho hb hg hat
   rw [← Ny363.out] at ho
   have n_ := jA (blk_grown (g := gb334) (o := .cells #[.slice A0_0 l0_0.length c0_0,.string a0_1,.slice (some ad348) l0_2.length c0_2,.slice (some ad352) l0_3.length c0_3] 29 (0,0)) Z141 hg (Kd.N_ne HO_3.out BK334.out Z145)) (jA (Kd.R_over' Z79 (Kd.N_typed Z94) Z145 hg) (jA (Kd.N_afterv (ok := (fun k_ => some k_ ≠ (.slice Ao34 y354.length co34 : Value).ownBlock ∧ k_ ≠ gb334)) (by (with_reducible repeat (first | apply Kd.N_alloc | apply Kd.N_drewN | apply Kd.N_drew));exact Kd.N_mono HO362.out (fun _ hk => ⟨⟨hk.2.1,hk.2.2⟩,hk.1⟩)) hg hat) (jA (hb) (Aside0.mk (ho)))))
   clear BK334 HO356 HO362 HB HO_3
   obtain ⟨BK334,HO356,HO362,HB,HO365⟩ := n_
   clear ho hb hg hat
   refine hK.out _ _ ⟨bc BK334 0,bc BK334 1,bc BK334 2,bc BK334 3,((HB.out.cell (World.block_lt_of_cell? w _ hw352_0)).trans hw352_0)⟩ (fun hHeld => ?_)
   clear hK K
   refine rN (h := ?_)
   refine rP 13 3 14 16383 HT_ (h := ?_)
   refine done_ (done_of HT_.out Z121) ?_
   try go_wp2
   go_roundg k1
   case measure => have := HK1.out;omega
   case rel => exact ⟨(y363),(wrap64 (x20_1 + 1)),Z106,H',⟨Z116⟩,⟨by (with_reducible repeat (first | apply Kd.N_alloc | apply Kd.N_drewN | apply Kd.N_drew));exact Kd.N_mono HO365.out (fun _ hk => hk.2)⟩,⟨Z141⟩,⟨Z129⟩⟩

end Go.Proofs.YtepnbcdbagjmbabDoor.QFnExactTableText
