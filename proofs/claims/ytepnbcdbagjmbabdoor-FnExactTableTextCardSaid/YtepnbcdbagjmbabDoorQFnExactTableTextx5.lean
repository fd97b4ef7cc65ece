/- The machine side of FnExactTableText: what each Go function that it reaches comes to. Conditions: none. -/
import Derived.Test.YtepnbcdbagjmbabDoorQFnExactTableTextx0
import Derived.Test.YtepnbcdbagjmbabDoorQFnExactTableTextx2
import Derived.Test.YtepnbcdbagjmbabDoorQFnExactTableTextx3
import Derived.Test.YtepnbcdbagjmbabDoorQFnExactTableTextx4
namespace Go.Proofs.YtepnbcdbagjmbabDoor.QFnExactTableText
open Go.RowKit Go.Proofs.YtepnbcdbagjmbabDoorW.PrintWords Go.Proofs.YtepnbcdbagjmbabDoorW.PrintLast Go.Proofs.YtepnbcdbagjmbabDoorW.PrintMore
attribute [local go_sem] max2_int min2_int max_two min_two max_three min_three max_four min_four   -- for this text's walks alone
set_option linter.unusedVariables false
set_option linter.unusedSimpArgs false

/-! ### spec_TableText: function 5 -/
mutual
def spec_TableText.l0 : Nat → List (List ByteArray) → Int → List ByteArray → ByteArray → List (List Int) → List Int → Option (ByteArray)
 | 0,_,_,_,_,_,_ => none
 | k + 1,x3,x4,x199000,x199001,x199002,x199003 => if x4 < (x199002.length : Int) then (spec_TableText.l1 k x3 x4 (([] : List ByteArray)) 0 x199000 x199001 x199002 x199003) else ((spec_CsvText.f k x3).bind fun t215 => (some t215))
def spec_TableText.l1 : Nat → List (List ByteArray) → Int → List ByteArray → Int → List ByteArray → ByteArray → List (List Int) → List Int → Option (ByteArray)
 | 0,_,_,_,_,_,_,_,_ => none
 | k + 1,x3,x4,x5,x6,x199000,x199001,x199002,x199003 => if 0 ≤ x4 then (if x4 < (x199002.length : Int) then (if x6 < ((rd_L2 x199002 x4).length : Int) then (if 0 ≤ x6 then ((spec_FixText.f k (rd (rd_L2 x199002 x4) x6)).bind fun t222 => ((some (([t222] : List ByteArray) : List ByteArray)).bind fun y223 => (if x5.length + y223.length < 8796093022208 then (spec_TableText.l1 k x3 x4 (x5 ++ y223) (wrap64 (x6 + 1)) x199000 x199001 x199002 x199003) else (none)))) else (none)) else (if x4 < (x199003.length : Int) then ((spec_FixText.f k (rd x199003 x4)).bind fun t230 => ((some (([t230] : List ByteArray) : List ByteArray)).bind fun y231 => (if x5.length + y231.length < 8796093022208 then ((some (([(x5 ++ y231)] : List (List ByteArray)) : List (List ByteArray))).bind fun y237 => (if x3.length + y237.length < 5864062014805 then (spec_TableText.l0 k (x3 ++ y237) (wrap64 (x4 + 1)) x199000 x199001 x199002 x199003) else (none))) else (none)))) else (none))) else (none)) else (none)
end
def spec_TableText.f (k : Nat) (l0_0 : List ByteArray) (a0_1 : ByteArray) (l0_2 : List (List Int)) (l0_3 : List Int) : Option (ByteArray) := (spec_TableOk.f k l0_0 a0_1 l0_2 l0_3).bind fun t199 => (if t199 = true then ((some (([] : List ByteArray) : List ByteArray)).bind fun y200 => (if y200.length + l0_0.length < 8796093022208 then ((some (y200 ++ l0_0 : List ByteArray)).bind fun y203 => ((some (([a0_1] : List ByteArray) : List ByteArray)).bind fun y206 => (if y203.length + y206.length < 8796093022208 then (spec_TableText.l0 k (([(y203 ++ y206)] : List (List ByteArray))) 0 l0_0 a0_1 l0_2 l0_3) else (none)))) else (none))) else (some (⟨#[]⟩ : ByteArray)))
theorem spec_TableText.mono_l : ∀ k,(∀ y0 y1 y2 y3 y4 y5,LeO (spec_TableText.l0 k y0 y1 y2 y3 y4 y5) (spec_TableText.l0 (k + 1) y0 y1 y2 y3 y4 y5)) ∧ (∀ y0 y1 y2 y3 y4 y5 y6 y7,LeO (spec_TableText.l1 k y0 y1 y2 y3 y4 y5 y6 y7) (spec_TableText.l1 (k + 1) y0 y1 y2 y3 y4 y5 y6 y7))
 | 0 => ⟨fun _ _ _ _ _ _ r h => by simp [spec_TableText.l0] at h,fun _ _ _ _ _ _ _ _ r h => by simp [spec_TableText.l1] at h⟩
 | k + 1 => by
  obtain ⟨ih0,ih1⟩ := spec_TableText.mono_l k
  refine ⟨?_,?_⟩
  ·intro y0 y1 y2 y3 y4 y5
   unfold spec_TableText.l0
   repeat' first
   | (with_reducible exact ih0 _ _ _ _ _ _)
   | (with_reducible exact ih1 _ _ _ _ _ _ _ _)
   | (with_reducible exact spec_CsvText.mono _ _)
   | (with_reducible exact spec_FixText.mono _ _)
   | (with_reducible exact spec_TableOk.mono _ _ _ _ _)
   | (with_reducible exact LeO.refl _)
   | (with_reducible exact LeO.none _)
   | (with_reducible refine LeO.ite ?_ ?_)
   | (with_reducible refine LeO.bind ?_ (fun _ => ?_))
   | exact ih0 _ _ _ _ _ _
   | exact ih1 _ _ _ _ _ _ _ _
   | exact spec_CsvText.mono _ _
   | exact spec_FixText.mono _ _
   | exact spec_TableOk.mono _ _ _ _ _
   | exact LeO.none _
   | refine LeO.ite ?_ ?_
   | refine LeO.bind ?_ (fun _ => ?_)
  ·intro y0 y1 y2 y3 y4 y5 y6 y7
   unfold spec_TableText.l1
   repeat' first
   | (with_reducible exact ih0 _ _ _ _ _ _)
   | (with_reducible exact ih1 _ _ _ _ _ _ _ _)
   | (with_reducible exact spec_CsvText.mono _ _)
   | (with_reducible exact spec_FixText.mono _ _)
   | (with_reducible exact spec_TableOk.mono _ _ _ _ _)
   | (with_reducible exact LeO.refl _)
   | (with_reducible exact LeO.none _)
   | (with_reducible refine LeO.ite ?_ ?_)
   | (with_reducible refine LeO.bind ?_ (fun _ => ?_))
   | exact ih0 _ _ _ _ _ _
   | exact ih1 _ _ _ _ _ _ _ _
   | exact spec_CsvText.mono _ _
   | exact spec_FixText.mono _ _
   | exact spec_TableOk.mono _ _ _ _ _
   | exact LeO.none _
   | refine LeO.ite ?_ ?_
   | refine LeO.bind ?_ (fun _ => ?_)
theorem spec_TableText.mono : ∀ a0 a1 a2 a3 k,LeO (spec_TableText.f k a0 a1 a2 a3) (spec_TableText.f (k + 1) a0 a1 a2 a3) := by
 intro a0 a1 a2 a3 k
 obtain ⟨ih0,ih1⟩ := spec_TableText.mono_l k
 unfold spec_TableText.f
 repeat' first
   | (with_reducible exact ih0 _ _ _ _ _ _)
   | (with_reducible exact ih1 _ _ _ _ _ _ _ _)
   | (with_reducible exact spec_CsvText.mono _ _)
   | (with_reducible exact spec_FixText.mono _ _)
   | (with_reducible exact spec_TableOk.mono _ _ _ _ _)
   | (with_reducible exact LeO.refl _)
   | (with_reducible exact LeO.none _)
   | (with_reducible refine LeO.ite ?_ ?_)
   | (with_reducible refine LeO.bind ?_ (fun _ => ?_))
   | exact ih0 _ _ _ _ _ _
   | exact ih1 _ _ _ _ _ _ _ _
   | exact spec_CsvText.mono _ _
   | exact spec_FixText.mono _ _
   | exact spec_TableOk.mono _ _ _ _ _
   | exact LeO.none _
   | refine LeO.ite ?_ ?_
   | refine LeO.bind ?_ (fun _ => ?_)
def spec_TableText.T3 : Bool × List (List Nat × List Nat) := (true,[([],[]),([],[]),([1],[1]),([0,2],[0,2]),([],[]),([4],[4]),([5],[5]),([3,6,3],[3,6]),([7],[7]),([8,7,0,1,2,3,4,5,6,7,8],[8])])
def spec_TableText.B3 : List Nat := [0,0,2,7,0,16,48,127,255,511]
theorem spec_TableText.tab3 : rtab .any (opsOf Tryd.f5 3) = spec_TableText.T3 := by kernel_rfl
theorem spec_TableText.bits3 : waitsOk spec_TableText.T3.2 spec_TableText.B3 = true := by kernel_rfl
set_option maxHeartbeats 8000000 in
set_option maxRecDepth 100000 in
theorem spec_TableText.calls (k : Nat) (A0_0 : Option Addr) (c0_0 : Nat) (l0_0 : List ByteArray) (a0_1 : ByteArray) (A0_2 : Option Addr) (c0_2 : Nat) (l0_2 : List (List Int)) (A0_3 : Option Addr) (c0_3 : Nat) (l0_3 : List Int) (r : ByteArray) (w : World) (hr0_0 : Kd.C Kd.string w A0_0 l0_0.length l0_0) (hc0_0 : l0_0.length ≤ c0_0) (hr0_2 : Kd.C (Kd.slice 3 (Kd.int .i64)) w A0_2 l0_2.length l0_2) (hc0_2 : l0_2.length ≤ c0_2) (hr0_3 : Kd.C (Kd.int .i64) w A0_3 l0_3.length l0_3) (hc0_3 : l0_3.length ≤ c0_3) (h : spec_TableText.f k l0_0 a0_1 l0_2 l0_3 = some r) :
  Calls Tryd.prog 5 #[.agg #[.slice A0_0 l0_0.length c0_0,.string a0_1,.slice A0_2 l0_2.length c0_2,.slice A0_3 l0_3.length c0_3]] w fun e w' => e = .returned (.string r) ∧ Below w.heap.size w w' := by
 have hu29 := Tryd.underlying29
 have HR0_0 := Aside0.mk hr0_0
 have HC0_0 := Aside0.mk hc0_0
 clear hr0_0 hc0_0
 have HR0_2 := Aside0.mk hr0_2
 have HC0_2 := Aside0.mk hc0_2
 clear hr0_2 hc0_2
 have HR0_3 := Aside0.mk hr0_3
 have HC0_3 := Aside0.mk hc0_3
 clear hr0_3 hc0_3
 have HB := Aside0.mk (Below.refl w.heap.size w)
 have H := h
 clear h
 unfold spec_TableText.f at H
 obtain ⟨t199,A20,H⟩ := Option.bind_eq_some_iff.mp H
 have A2 := Aside0.mk A20
 clear A20
 by_cases c3 : t199 = true
 rotate_left
 ·replace c3 := Bool.eq_false_iff.mpr c3
  subst c3
  rw [if_neg Bool.false_ne_true] at H
  obtain rfl := Option.some.inj H
  go_enter Tryd.func5,Tryd.ntmps5
  go_wp2_with (first | ((with_reducible refine gate_dst (N := 1) rfl ?_);refine bE 1 #[.slice A0_0 l0_0.length c0_0,.string a0_1,.slice A0_2 l0_2.length c0_2,.slice A0_3 l0_3.length c0_3] 29 (h := ?_);intro gb198 hg wq1 hbox hb;have n_ := Z9;clear HB;obtain ⟨HB,BK198,GW198,GE198⟩ := n_;clear hb hbox hg;obtain ⟨hczq2_0,hczq2_1,hczq2_2,hczq2_3,hfzq2_0,hfzq2_1,hfzq2_2,hfzq2_3⟩ := cells4 BK198.out) | ((with_reducible refine gate_callee (f := 12) rfl ?_);refine goesL_ (some 8) rfl rfl Tryd.func12 Z121 rfl #[.agg #[.slice A0_0 l0_0.length c0_0,.string a0_1,.slice A0_2 l0_2.length c0_2,.slice A0_3 l0_3.length c0_3]] rfl Z66 ?_;(with_reducible refine (spec_TableOk.calls k _ _ l0_0 a0_1 _ _ l0_2 _ _ l0_3 false _ ?side1 ?side2 ?side3 ?side4 ?side5 ?side6 A2.out).mono ?_);(case side1 => exact Z41);(case side2 => exact Z118);(case side3 => exact Z43);(case side4 => exact Z119);(case side5 => exact Z42);(case side6 => exact Z120);rintro e wq3 ⟨rfl,hb⟩;refine ⟨_,rfl,?_⟩;have n_ := Z15;clear BK198 HB;obtain ⟨BK198,HB⟩ := n_;(try clear hb);(try clear hb2);(try clear hk);(try clear hi)))
  go_ret
  exact ⟨Z98,Z128⟩
 subst c3
 rw [if_pos rfl] at H
 obtain ⟨y200,hyy⟩ : ∃ y_ : List ByteArray,y_ = (([] : List ByteArray)) := ⟨_,rfl⟩
 replace H : (if y200.length + l0_0.length < 8796093022208 then ((some (y200 ++ l0_0 : List ByteArray)).bind fun y203 => ((some (([a0_1] : List ByteArray) : List ByteArray)).bind fun y206 => (if y203.length + y206.length < 8796093022208 then (spec_TableText.l0 k (([(y203 ++ y206)] : List (List ByteArray))) 0 l0_0 a0_1 l0_2 l0_3) else (none)))) else (none)) = some r := zR
 have Ny200 := Aside0.mk hyy
 clear hyy
 obtain ⟨c4,H⟩ := ifp H
 have LMc4 := Aside0.mk c4
 clear c4
 obtain ⟨y203,hyy⟩ : ∃ y_ : List ByteArray,y_ = (y200 ++ l0_0) := ⟨_,rfl⟩
 replace H : ((some (([a0_1] : List ByteArray) : List ByteArray)).bind fun y206 => (if y203.length + y206.length < 8796093022208 then (spec_TableText.l0 k (([(y203 ++ y206)] : List (List ByteArray))) 0 l0_0 a0_1 l0_2 l0_3) else (none))) = some r := zR
 have Ny203 := Aside0.mk hyy
 clear hyy
 obtain ⟨y206,hyy⟩ : ∃ y_ : List ByteArray,y_ = (([a0_1] : List ByteArray)) := ⟨_,rfl⟩
 replace H : (if y203.length + y206.length < 8796093022208 then (spec_TableText.l0 k (([(y203 ++ y206)] : List (List ByteArray))) 0 l0_0 a0_1 l0_2 l0_3) else (none)) = some r := zR
 have Ny206 := Aside0.mk hyy
 clear hyy
 obtain ⟨c5,H⟩ := ifp H
 have LMc5 := Aside0.mk c5
 clear c5
 obtain ⟨y209,hyy⟩ : ∃ y_ : List ByteArray,y_ = (y203 ++ y206) := ⟨_,rfl⟩
 replace H : (spec_TableText.l0 k (([y209] : List (List ByteArray))) 0 l0_0 a0_1 l0_2 l0_3) = some r := zR
 have Ny209 := Aside0.mk hyy
 clear hyy
 obtain ⟨y212,hyy⟩ : ∃ y_ : List (List ByteArray),y_ = (([y209] : List (List ByteArray))) := ⟨_,rfl⟩
 replace H : (spec_TableText.l0 k y212 0 l0_0 a0_1 l0_2 l0_3) = some r := zR
 have Ny212 := Aside0.mk hyy
 clear hyy
 have H' := Aside0.mk H
 clear H
 go_enter Tryd.func5,Tryd.ntmps5
 try go_wp2_with (first | ((with_reducible refine gate_dst (N := 1) rfl ?_);refine bE 1 #[.slice A0_0 l0_0.length c0_0,.string a0_1,.slice A0_2 l0_2.length c0_2,.slice A0_3 l0_3.length c0_3] 29 (h := ?_);intro gb198 hg w6 hbox hb;have n_ := Z9;clear HB;obtain ⟨HB,BK198,GW198,GE198⟩ := n_;clear hb hbox hg;obtain ⟨hcz7_0,hcz7_1,hcz7_2,hcz7_3,hfz7_0,hfz7_1,hfz7_2,hfz7_3⟩ := cells4 BK198.out) | ((with_reducible refine gate_callee (f := 12) rfl ?_);refine goesL_ (some 8) rfl rfl Tryd.func12 Z121 rfl #[.agg #[.slice A0_0 l0_0.length c0_0,.string a0_1,.slice A0_2 l0_2.length c0_2,.slice A0_3 l0_3.length c0_3]] rfl Z66 ?_;(with_reducible refine (spec_TableOk.calls k _ _ l0_0 a0_1 _ _ l0_2 _ _ l0_3 true _ ?side1 ?side2 ?side3 ?side4 ?side5 ?side6 A2.out).mono ?_);(case side1 => exact Z41);(case side2 => exact Z118);(case side3 => exact Z43);(case side4 => exact Z119);(case side5 => exact Z42);(case side6 => exact Z120);rintro e w8 ⟨rfl,hb⟩;refine ⟨_,rfl,?_⟩;have n_ := Z15;clear BK198 HB;obtain ⟨BK198,HB⟩ := n_;(try clear hb);(try clear hb2);(try clear hk);(try clear hi)))
 have n_ := jA (blk_drew BK198.out) (Aside0.mk (below_drew1 HB.out))
 clear BK198 HB
 obtain ⟨BK198,HB⟩ := n_
 refine start_ (n := 10) (S := fun w' => w'.cell? ⟨gb198,0,none⟩ = some (.slice A0_0 l0_0.length c0_0) ∧ w'.cell? ⟨gb198,1,none⟩ = some (.string a0_1) ∧ w'.cell? ⟨gb198,2,none⟩ = some (.slice A0_2 l0_2.length c0_2) ∧ w'.cell? ⟨gb198,3,none⟩ = some (.slice A0_3 l0_3.length c0_3)) (ds := []) (qM 10 0) Z121 rfl (by kernel_rfl) ⟨bc BK198 0,bc BK198 1,bc BK198 2,bc BK198 3⟩ (fun hHeld => ?_);refine with_tabW spec_TableText.tab3 spec_TableText.bits3 (fun HT_ HW_ => ?_)
 generalize w8.drew = w9 at BK198 HB hHeld ⊢
 refine rP 1 11 10 2 HT_ (h := ?_)
 refine rP 4 14 10 18 HT_ (h := ?_)
 refine rT4 2 12 10 22 HT_ HW_ hHeld (h := ?_)
 refine rT4 5 15 10 54 HT_ HW_ hHeld (h := ?_)
 refine join_ (σ := Value × Value × Value) 3 (qM 10 127) (fun s_ => [(10,s_.1),(13,s_.2.1),(16,s_.2.2)]) (fun s_ w' => (w'.cell? ⟨gb198,0,none⟩ = some (.slice A0_0 l0_0.length c0_0) ∧ w'.cell? ⟨gb198,1,none⟩ = some (.string a0_1) ∧ w'.cell? ⟨gb198,2,none⟩ = some (.slice A0_2 l0_2.length c0_2) ∧ w'.cell? ⟨gb198,3,none⟩ = some (.slice A0_3 l0_3.length c0_3)) ∧ (Kd.R Kd.string 9 w' w.heap.size (fun k_ => some k_ ≠ (s_.2.2 : Value).ownBlock) s_.2.1 y203) ∧ (Kd.R Kd.string 9 w' w.heap.size (fun k_ => some k_ ≠ (s_.2.1 : Value).ownBlock) s_.2.2 y206) ∧ (w'.heap[gb198]? = some (.cells #[.slice A0_0 l0_0.length c0_0,.string a0_1,.slice A0_2 l0_2.length c0_2,.slice A0_3 l0_3.length c0_3] 29 (0,0))) ∧ (Below w.heap.size w w')) ?_ ?_
 rotate_left
 ·intro hCont
  refine two_ (i := 0) (j := 6) (Ni := some 10) (Nj := some 16) (qM 10 55) (qM 10 118) rfl rfl rfl rfl (two_of HT_.out Z121) Z145 Z145 (fun K hK => ?_) (fun K hK => ?_)
  ·skip
   refine Kd.R_lit_step Kd.string _ 9 ?hg (N := 10) ?hd (xs := ([] : List ByteArray)) (inner := []) (ok := fun _ => True) (okp := fun _ => True) ?hr ?hp (fun _ hk => hk) trivial (Below.refl _ _) (Nat.le_refl _) Z146 ?_;(case hd => rfl);(case hg => rfl);(case hr => exact Z107);(case hp => exact Z117)
   intro v201 w10 ho11 hb hg_ hnew_
   clear hg_ hnew_
   (first | rw [← Ny200.out] at ho11 | (simp only [Int.reduceToNat] at ho11;rw [← Ny200.out] at ho11))
   have n_ := jA (Kd.R_lower ho11 (below_size Z128)) (jA (blk_below (g := gb198) (o := .cells #[.slice A0_0 l0_0.length c0_0,.string a0_1,.slice A0_2 l0_2.length c0_2,.slice A0_3 l0_3.length c0_3] 29 (0,0)) Z140 hb) (Aside0.mk (below_step Z128 hb)))
   clear BK198 HB
   obtain ⟨HO202,BK198,HB⟩ := n_
   clear hb ho11
   refine hK.out _ _ ⟨bc BK198 0,bc BK198 1,bc BK198 2,bc BK198 3⟩ (fun hHeld => ?_)
   clear hK K
   refine rN (h := ?_)
   refine two_ (i := 3) (j := 6) (Ni := some 13) (Nj := some 16) (qM 10 63) (qM 10 119) rfl rfl rfl rfl (two_of HT_.out Z121) Z145 Z145 (fun K hK => ?_) (fun K hK => ?_)
   ·skip
    refine Kd.R_append_rows_step Kd.string (w0 := w) w.heap.size Z123 (.tmp 10) (.tmp 12) 22 9 (.string ⟨#[]⟩) 16 rfl Tryd.underlying22 info9 rfl Z145 Z122 v201 y200 l0_0 _ _ _ (fun _ => True) (fun _ => False) rfl rfl ?aO ?aR (fun _ _ h => h) (fun _ h => h.elim) ?aF ?aB ?aS ?aL ?_
    (case aR => exact Z41)
    (case aB => exact Z44)
    (case aF => exact Z114)
    (case aO => exact Z88)
    (case aS => exact Z38)
    (case aL => have := LMc4.out;omega)
    intro v204 w12 ho hb hg hat
    rw [← Ny203.out] at ho
    have n_ := jA (blk_grown (g := gb198) (o := .cells #[.slice A0_0 l0_0.length c0_0,.string a0_1,.slice A0_2 l0_2.length c0_2,.slice A0_3 l0_3.length c0_3] 29 (0,0)) Z140 hg (Kd.R_ne HO202.out BK198.out Z145)) (jA (hb) (Aside0.mk (ho)))
    clear BK198 HB HO202
    obtain ⟨BK198,HB,HO205⟩ := n_
    clear ho hb hg hat
    refine hK.out _ _ ⟨bc BK198 0,bc BK198 1,bc BK198 2,bc BK198 3⟩ (fun hHeld => ?_)
    clear hK K
    refine rN (h := ?_)
    refine rO 6 16 10 127 HT_ (h := fun K hK => ?_)
    refine Kd.R_lit_step Kd.string _ 9 ?hg (N := 16) ?hd (xs := ([a0_1] : List ByteArray)) (inner := [.string a0_1]) (ok := fun _ => True) (okp := fun _ => True) ?hr ?hp (fun _ hk => hk) trivial (Below.refl _ _) (Nat.le_refl _) Z146 ?_;(case hd => rfl);(case hg => rfl);(case hr => exact Z107);(case hp => exact Z100)
    intro v207 w13 ho14 hb hg_ hnew_
    clear hg_ hnew_
    (first | rw [← Ny206.out] at ho14 | (simp only [Int.reduceToNat] at ho14;rw [← Ny206.out] at ho14))
    have n_ := jA (Kd.R_elder' Z83 (Kd.R_base ho14) hb) (jA (Kd.R_lower (Kd.R_new' ho14 (Kd.R_lt Z83)) (below_size Z128)) (jA (blk_below (g := gb198) (o := .cells #[.slice A0_0 l0_0.length c0_0,.string a0_1,.slice A0_2 l0_2.length c0_2,.slice A0_3 l0_3.length c0_3] 29 (0,0)) Z140 hb) (Aside0.mk (below_step Z128 hb))))
    clear HO205 BK198 HB
    obtain ⟨HO205,HO208,BK198,HB⟩ := n_
    clear hb ho14
    refine hK.out _ _ ⟨bc BK198 0,bc BK198 1,bc BK198 2,bc BK198 3⟩ (fun hHeld => ?_)
    clear hK K
    refine rN (h := ?_)
    exact norm_ Z99 (hCont (v201,v204,v207) _ ⟨hHeld,(by (with_reducible repeat (first | apply Kd.R_alloc | apply Kd.R_drewN | apply Kd.R_drew));exact Kd.R_mono HO205.out (fun _ hk => hk.2)),Z69,Z140,Z128⟩)
   skip
   refine Kd.R_lit_step Kd.string _ 9 ?hg (N := 16) ?hd (xs := ([a0_1] : List ByteArray)) (inner := [.string a0_1]) (ok := fun _ => True) (okp := fun _ => True) ?hr ?hp (fun _ hk => hk) trivial (Below.refl _ _) (Nat.le_refl _) Z146 ?_;(case hd => rfl);(case hg => rfl);(case hr => exact Z107);(case hp => exact Z100)
   intro v207 w12 ho13 hb hg_ hnew_
   clear hg_ hnew_
   (first | rw [← Ny206.out] at ho13 | (simp only [Int.reduceToNat] at ho13;rw [← Ny206.out] at ho13))
   have n_ := jA (Kd.R_elder' Z88 (Kd.R_base ho13) hb) (jA (Kd.R_lower (Kd.R_new' ho13 (Kd.R_lt Z88)) (below_size Z128)) (jA (blk_below (g := gb198) (o := .cells #[.slice A0_0 l0_0.length c0_0,.string a0_1,.slice A0_2 l0_2.length c0_2,.slice A0_3 l0_3.length c0_3] 29 (0,0)) Z140 hb) (Aside0.mk (below_step Z128 hb))))
   clear HO202 BK198 HB
   obtain ⟨HO202,HO208,BK198,HB⟩ := n_
   clear hb ho13
   refine hK.out _ _ ⟨bc BK198 0,bc BK198 1,bc BK198 2,bc BK198 3⟩ (fun hHeld => ?_)
   clear hK K
   refine rN (h := ?_)
   refine rO 3 13 10 127 HT_ (h := fun K hK => ?_)
   refine Kd.R_append_rows_step Kd.string (w0 := w) w.heap.size Z123 (.tmp 10) (.tmp 12) 22 9 (.string ⟨#[]⟩) 16 rfl Tryd.underlying22 info9 rfl Z145 Z122 v201 y200 l0_0 _ _ _ (fun k_ => some k_ ≠ (v207 : Value).ownBlock) (fun _ => False) rfl rfl ?aO ?aR (fun _ _ h => h) (fun _ h => h.elim) ?aF ?aB ?aS ?aL ?_
   (case aR => exact Z41)
   (case aB => exact Z44)
   (case aF => exact Z59)
   (case aO => exact Z64)
   (case aS => exact Z38)
   (case aL => have := LMc4.out;omega)
   intro v204 w14 ho hb hg hat
   rw [← Ny203.out] at ho
   have n_ := jA (blk_grown (g := gb198) (o := .cells #[.slice A0_0 l0_0.length c0_0,.string a0_1,.slice A0_2 l0_2.length c0_2,.slice A0_3 l0_3.length c0_3] 29 (0,0)) Z140 hg (Kd.R_ne HO202.out BK198.out Z145)) (jA (Kd.R_after (ok := (fun _ => True)) Z137 hg hat) (jA (hb) (Aside0.mk (ho))))
   clear BK198 HO208 HB HO202
   obtain ⟨BK198,HO208,HB,HO205⟩ := n_
   clear ho hb hg hat
   refine hK.out _ _ ⟨bc BK198 0,bc BK198 1,bc BK198 2,bc BK198 3⟩ (fun hHeld => ?_)
   clear hK K
   refine rN (h := ?_)
   exact norm_ Z99 (hCont (v201,v204,v207) _ ⟨hHeld,Z83,Z69,Z140,Z128⟩)
  skip
  refine Kd.R_lit_step Kd.string _ 9 ?hg (N := 16) ?hd (xs := ([a0_1] : List ByteArray)) (inner := [.string a0_1]) (ok := fun _ => True) (okp := fun _ => True) ?hr ?hp (fun _ hk => hk) trivial (Below.refl _ _) (Nat.le_refl _) Z146 ?_;(case hd => rfl);(case hg => rfl);(case hr => exact Z107);(case hp => exact Z100)
  intro v207 w10 ho11 hb hg_ hnew_
  clear hg_ hnew_
  (first | rw [← Ny206.out] at ho11 | (simp only [Int.reduceToNat] at ho11;rw [← Ny206.out] at ho11))
  have n_ := jA (Kd.R_lower ho11 (below_size Z128)) (jA (blk_below (g := gb198) (o := .cells #[.slice A0_0 l0_0.length c0_0,.string a0_1,.slice A0_2 l0_2.length c0_2,.slice A0_3 l0_3.length c0_3] 29 (0,0)) Z140 hb) (Aside0.mk (below_step Z128 hb)))
  clear BK198 HB
  obtain ⟨HO208,BK198,HB⟩ := n_
  clear hb ho11
  refine hK.out _ _ ⟨bc BK198 0,bc BK198 1,bc BK198 2,bc BK198 3⟩ (fun hHeld => ?_)
  clear hK K
  refine rN (h := ?_)
  refine rO 0 10 10 119 HT_ (h := fun K hK => ?_)
  refine Kd.R_lit_step Kd.string _ 9 ?hg (N := 10) ?hd (xs := ([] : List ByteArray)) (inner := []) (ok := fun _ => True) (okp := fun _ => True) ?hr ?hp (fun _ hk => hk) trivial (Below.refl _ _) (Nat.le_refl _) Z146 ?_;(case hd => rfl);(case hg => rfl);(case hr => exact Z107);(case hp => exact Z117)
  intro v201 w12 ho13 hb hg_ hnew_
  clear hg_ hnew_
  (first | rw [← Ny200.out] at ho13 | (simp only [Int.reduceToNat] at ho13;rw [← Ny200.out] at ho13))
  have n_ := jA (Kd.R_elder' Z137 (Kd.R_base ho13) hb) (jA (Kd.R_lower (Kd.R_new' ho13 (Kd.R_lt Z137)) (below_size Z128)) (jA (blk_below (g := gb198) (o := .cells #[.slice A0_0 l0_0.length c0_0,.string a0_1,.slice A0_2 l0_2.length c0_2,.slice A0_3 l0_3.length c0_3] 29 (0,0)) Z140 hb) (Aside0.mk (below_step Z128 hb))))
  clear HO208 BK198 HB
  obtain ⟨HO208,HO202,BK198,HB⟩ := n_
  clear hb ho13
  refine hK.out _ _ ⟨bc BK198 0,bc BK198 1,bc BK198 2,bc BK198 3⟩ (fun hHeld => ?_)
  clear hK K
  refine rN (h := ?_)
  refine rO 3 13 10 127 HT_ (h := fun K hK => ?_)
  refine Kd.R_append_rows_step Kd.string (w0 := w) w.heap.size Z123 (.tmp 10) (.tmp 12) 22 9 (.string ⟨#[]⟩) 16 rfl Tryd.underlying22 info9 rfl Z145 Z122 v201 y200 l0_0 _ _ _ (fun k_ => some k_ ≠ (v207 : Value).ownBlock) (fun _ => False) rfl rfl ?aO ?aR (fun _ _ h => h) (fun _ h => h.elim) ?aF ?aB ?aS ?aL ?_
  (case aR => exact Z41)
  (case aB => exact Z44)
  (case aF => exact Z59)
  (case aO => exact Z64)
  (case aS => exact Z38)
  (case aL => have := LMc4.out;omega)
  intro v204 w14 ho hb hg hat
  rw [← Ny203.out] at ho
  have n_ := jA (blk_grown (g := gb198) (o := .cells #[.slice A0_0 l0_0.length c0_0,.string a0_1,.slice A0_2 l0_2.length c0_2,.slice A0_3 l0_3.length c0_3] 29 (0,0)) Z140 hg (Kd.R_ne HO202.out BK198.out Z145)) (jA (Kd.R_after (ok := (fun _ => True)) Z137 hg hat) (jA (hb) (Aside0.mk (ho))))
  clear BK198 HO208 HB HO202
  obtain ⟨BK198,HO208,HB,HO205⟩ := n_
  clear ho hb hg hat
  refine hK.out _ _ ⟨bc BK198 0,bc BK198 1,bc BK198 2,bc BK198 3⟩ (fun hHeld => ?_)
  clear hK K
  refine rN (h := ?_)
  exact norm_ Z99 (hCont (v201,v204,v207) _ ⟨hHeld,Z83,Z69,Z140,Z128⟩)
 rintro ⟨v201,v204,v207⟩ w15 ⟨hS_,h0_,h1_,h2_,h3_⟩
 have n0_ : Aside0 (Kd.R Kd.string 9 w15 w.heap.size (fun k_ => some k_ ≠ (v207 : Value).ownBlock) v204 y203) := ⟨h0_⟩
 have n1_ : Aside0 (Kd.R Kd.string 9 w15 w.heap.size (fun k_ => some k_ ≠ (v204 : Value).ownBlock) v207 y206) := ⟨h1_⟩
 have n2_ : Aside0 (w15.heap[gb198]? = some (.cells #[.slice A0_0 l0_0.length c0_0,.string a0_1,.slice A0_2 l0_2.length c0_2,.slice A0_3 l0_3.length c0_3] 29 (0,0))) := ⟨h2_⟩
 have n3_ : Aside0 (Below w.heap.size w w15) := ⟨h3_⟩
 clear BK198
 clear HB
 clear h0_ h1_ h2_ h3_
 have HO205 := n0_
 have HO208 := n1_
 have BK198 := n2_
 have HB := n3_
 clear n0_ n1_ n2_ n3_
 have hHeld : w15.cell? ⟨gb198,0,none⟩ = some (.slice A0_0 l0_0.length c0_0) ∧ w15.cell? ⟨gb198,1,none⟩ = some (.string a0_1) ∧ w15.cell? ⟨gb198,2,none⟩ = some (.slice A0_2 l0_2.length c0_2) ∧ w15.cell? ⟨gb198,3,none⟩ = some (.slice A0_3 l0_3.length c0_3) := hS_
 obtain ⟨Ao17,co17,eo17⟩ := Kd.R_slice HO208.out
 (first | subst eo17 | (injection eo17 with f1_ f2_ f3_;have f4_ := f1_.symm;have f5_ := f3_.symm;clear f1_ f2_ f3_;subst f4_;subst f5_))
 refine norm_ (a' := ?_) ?_ ?_
 rotate_left
 ·simp only [putAll,Act.put,List.setIfInBounds_toArray,List.set_cons_zero,List.set_cons_succ]
  rfl
 refine rO 7 17 10 255 HT_ (h := fun K hK => ?_)
 refine Kd.R_append_rows_step Kd.string (w0 := w) w.heap.size Z123 (.tmp 13) (.tmp 16) 22 9 (.string ⟨#[]⟩) 16 rfl Tryd.underlying22 info9 rfl Z145 Z122 v204 y203 y206 _ _ _ (fun k_ => some k_ ≠ (.slice Ao17 y206.length co17 : Value).ownBlock) (fun _ => False) rfl rfl ?aO ?aR (fun _ _ h => h) (fun _ h => h.elim) ?aF ?aB ?aS ?aL ?_
 (case aR => repeat (first | exact (Kd.R_reads' HO208.out).2.2 | (with_reducible refine Kd.C_alloc ?_ _) | (with_reducible refine Kd.C_drewN ?_ _) | (with_reducible refine Kd.C_drew ?_)))
 (case aB => exact Z44)
 (case aF => exact Z59)
 (case aO => exact Z83)
 (case aS => exact Z38)
 (case aL => exact Z115)
 intro v210 w16 ho hb hg hat
 rw [← Ny209.out] at ho
 have n_ := jA (blk_grown (g := gb198) (o := .cells #[.slice A0_0 l0_0.length c0_0,.string a0_1,.slice A0_2 l0_2.length c0_2,.slice A0_3 l0_3.length c0_3] 29 (0,0)) Z140 hg (Kd.R_ne HO205.out BK198.out Z145)) (jA (Kd.R_after (ok := (fun _ => True)) (by (with_reducible repeat (first | apply Kd.R_alloc | apply Kd.R_drewN | apply Kd.R_drew));exact Kd.R_mono HO208.out (fun _ hk => ⟨trivial,hk⟩)) hg hat) (jA (hb) (Aside0.mk (ho))))
 clear BK198 HO208 HB HO205
 obtain ⟨BK198,HO208,HB,HO211⟩ := n_
 clear ho hb hg hat
 obtain ⟨Ao18,co18,eo18⟩ := Kd.R_slice HO211.out
 (first | subst eo18 | (injection eo18 with f1_ f2_ f3_;have f4_ := f1_.symm;have f5_ := f3_.symm;clear f1_ f2_ f3_;subst f4_;subst f5_))
 refine hK.out _ _ ⟨bc BK198 0,bc BK198 1,bc BK198 2,bc BK198 3⟩ (fun hHeld => ?_)
 clear hK K
 refine rN (h := ?_)
 refine rO 8 18 10 511 HT_ (h := fun K hK => ?_)
 refine Kd.N_lit_step (Kd.slice 9 Kd.string) _ 22 ?hg (N' := 18) ?hd (xs := ([y209] : List (List ByteArray))) (inner := [.slice Ao18 y209.length co18]) (ok := (fun k_ => some k_ ≠ (.slice Ao17 y206.length co17 : Value).ownBlock ∧ k_ ≠ gb198)) (okp := (fun k_ => some k_ ≠ (.slice Ao17 y206.length co17 : Value).ownBlock ∧ k_ ≠ gb198)) ?hr ?hp (fun _ hk => hk) ((show ∀ k_,w16.heap.size ≤ k_ → (fun k_ => some k_ ≠ (.slice Ao17 y206.length co17 : Value).ownBlock ∧ k_ ≠ gb198) k_ from fun k_ hk => ⟨Kd.fresh' (Kd.R_lt Z137) k_ hk,Kd.freshB (g := gb198) (o := .cells #[.slice A0_0 l0_0.length c0_0,.string a0_1,.slice A0_2 l0_2.length c0_2,.slice A0_3 l0_3.length c0_3] 29 (0,0)) Z140 k_ hk⟩) _ (Nat.le_refl _)) (Below.refl _ _) (Nat.le_refl _) Z146 ?_;(case hd => rfl);(case hg => rfl);(case hr => exact Z107);(case hp => exact (Reps.one (show Kd.FK (Kd.slice 9 Kd.string) _ _ y209 [.slice Ao18 y209.length co18] from (Kd.FK_slice_mk (Kd.R_reads' (Kd.R_mono (ok' := (fun k_ => some k_ ≠ (.slice Ao17 y206.length co17 : Value).ownBlock ∧ k_ ≠ gb198)) (Kd.R_types (HO211.out) BK198.out Z145) (fun k_ hk => ⟨hk.1,hk.2⟩))).2.1 (Kd.R_F (Kd.R_mono (ok' := (fun k_ => some k_ ≠ (.slice Ao17 y206.length co17 : Value).ownBlock ∧ k_ ≠ gb198)) (Kd.R_types (HO211.out) BK198.out Z145) (fun k_ hk => ⟨hk.1,hk.2⟩))))) (Reps.none _ _)))
 intro v213 w19 ho20 hb hg_ hnew_
 clear hg_ hnew_
 (first | rw [← Ny212.out] at ho20 | (simp only [Int.reduceToNat] at ho20;rw [← Ny212.out] at ho20))
 have n_ := jA (Kd.R_below Z137 hb) (jA (Kd.N_lower ho20 (below_size Z128)) (jA (blk_below (g := gb198) (o := .cells #[.slice A0_0 l0_0.length c0_0,.string a0_1,.slice A0_2 l0_2.length c0_2,.slice A0_3 l0_3.length c0_3] 29 (0,0)) Z140 hb) (Aside0.mk (below_step Z128 hb))))
 clear HO208 BK198 HB HO211
 obtain ⟨HO208,HO214,BK198,HB⟩ := n_
 clear hb ho20
 refine hK.out _ _ ⟨bc BK198 0,bc BK198 1,bc BK198 2,bc BK198 3⟩ (fun hHeld => ?_)
 clear hK K
 refine rN (h := ?_)
 refine rP 9 3 10 1023 HT_ (h := ?_)
 refine done_ (done_of HT_.out Z121) ?_
 try go_wp2
 go_loopg [3,4] k (fun kq v3 v4 w' => ∃ (x3_1 : List (List ByteArray)) (x4_1 : Int),v4 = .int .i64 x4_1 ∧ Aside0 (spec_TableText.l0 kq x3_1 x4_1 l0_0 a0_1 l0_2 l0_3 = some r) ∧ Aside0 (kq ≤ k) ∧ Aside0 (Kd.N (Kd.slice 9 Kd.string) 22 w' w.heap.size (fun k_ => k_ ≠ gb198) v3 x3_1) ∧ Aside0 (w'.heap[gb198]? = some (.cells #[(.slice A0_0 l0_0.length c0_0),.string a0_1,(.slice A0_2 l0_2.length c0_2),(.slice A0_3 l0_3.length c0_3)] 29 (0,0))) ∧ Aside0 (Below w.heap.size w w'))
 case atStart => exact ⟨(y212),(0),Z106,H',⟨Nat.le_refl _⟩,⟨by (with_reducible repeat (first | apply Kd.N_alloc | apply Kd.N_drewN | apply Kd.N_drew));exact Kd.N_mono HO214.out (fun _ hk => hk.2)⟩,⟨Z140⟩,⟨Z128⟩⟩
 case round =>
  clear H'
  try clear c1
  try clear p2
  try clear c3
  try clear c4
  try clear c5
  try clear c12
  obtain ⟨x3_1,x4_1,rfl,HA,HK1,HO_3,BK198,HB⟩ := hrel
  cases gk with
  | zero => exact absurd HA.out (by simp [spec_TableText.l0])
  | succ k1 =>
   have H := HA.out
   clear HA
   simp only [spec_TableText.l0] at H
   by_cases c21 : x4_1 < (l0_2.length : Int)
   rotate_left
   ·rw [if_neg c21] at H
    have c21b0 : decide (x4_1 < (l0_2.length : Int)) = false := decide_eq_false c21
    clear c21
    obtain ⟨t215,A520,H⟩ := Option.bind_eq_some_iff.mp H
    have A52 := Aside0.mk A520
    clear A520
    obtain rfl := Option.some.inj H
    obtain ⟨hcz53_0,hcz53_1,hcz53_2,hcz53_3,hfz53_0,hfz53_1,hfz53_2,hfz53_3⟩ := cells4 BK198.out
    obtain ⟨Ao54,co54,eo54⟩ := Kd.N_slice HO_3.out
    subst eo54
    go_wp2_with (first | ((with_reducible refine gate_callee (f := 14) rfl ?_);refine goesL_ (some 62) rfl rfl Tryd.func14 Z121 rfl #[.slice Ao54 x3_1.length co54] rfl Z66 ?_;(with_reducible refine (spec_CsvText.calls k1 _ _ x3_1 t215 _ ?side1 ?side2 A52.out).mono ?_);(case side1 => exact Z50);(case side2 => exact (Kd.N_reads' HO_3.out).2.1);rintro e wq1 ⟨rfl,hb⟩;refine ⟨_,rfl,?_⟩;have n_ := jA (Kd.N_below Z94 hb) (jA (blk_below (g := gb198) (o := .cells #[.slice A0_0 l0_0.length c0_0,.string a0_1,.slice A0_2 l0_2.length c0_2,.slice A0_3 l0_3.length c0_3] 29 (0,0)) Z140 hb) (Aside0.mk (below_step Z128 hb)));clear HO_3 BK198 HB;obtain ⟨HO_3,BK198,HB⟩ := n_;(try clear hb);(try clear hb2);(try clear hk);(try clear hi)))
    go_ret
    exact ⟨Z98,Z128⟩
   rw [if_pos c21] at H
   have c21b0 : decide (x4_1 < (l0_2.length : Int)) = true := decide_eq_true c21
   clear c21
   obtain ⟨y216,hyy⟩ : ∃ y_ : List ByteArray,y_ = (([] : List ByteArray)) := ⟨_,rfl⟩
   replace H : (spec_TableText.l1 k1 x3_1 x4_1 y216 0 l0_0 a0_1 l0_2 l0_3) = some r := zR
   have Ny216 := Aside0.mk hyy
   clear hyy
   have H' := Aside0.mk H
   clear H
   obtain ⟨hcz22_0,hcz22_1,hcz22_2,hcz22_3,hfz22_0,hfz22_1,hfz22_2,hfz22_3⟩ := cells4 BK198.out
   go_wp2_with (first | ((with_reducible refine gate_dst (N := 26) rfl ?_);refine Kd.R_lit Kd.string _ 9 ?hg (N := 26) ?hd (xs := ([] : List ByteArray)) (inner := []) (ok := fun _ => True) (okp := fun _ => True) ?hr ?hp (fun _ hk => hk) trivial (Below.refl _ _) (Nat.le_refl _) Z146 ?_;(case hd => rfl);(case hg => rfl);(case hr => exact Z107);(case hp => exact Z117);intro v217 w23 ho24 hb hg_ hnew_;clear hg_ hnew_;(first | rw [← Ny216.out] at ho24 | (simp only [Int.reduceToNat] at ho24;rw [← Ny216.out] at ho24));have n_ := jA (Kd.N_elder' Z94 (Kd.R_base ho24) hb) (jA (Kd.R_lower ho24 (below_size Z128)) (jA (blk_below (g := gb198) (o := .cells #[.slice A0_0 l0_0.length c0_0,.string a0_1,.slice A0_2 l0_2.length c0_2,.slice A0_3 l0_3.length c0_3] 29 (0,0)) Z140 hb) (Aside0.mk (below_step Z128 hb))));clear HO_3 BK198 HB;obtain ⟨HO_3,HO218,BK198,HB⟩ := n_;clear hb ho24))
   go_loopg [5,6] k1 (fun kq v5 v6 w' => ∃ (x5_2 : List ByteArray) (x6_2 : Int),v6 = .int .i64 x6_2 ∧ Aside0 (spec_TableText.l1 kq x3_1 x4_1 x5_2 x6_2 l0_0 a0_1 l0_2 l0_3 = some r) ∧ Aside0 (kq ≤ k1) ∧ Aside0 (Kd.N (Kd.slice 9 Kd.string) 22 w' w.heap.size (fun k_ => some k_ ≠ (v5 : Value).ownBlock ∧ k_ ≠ gb198) u3 x3_1) ∧ Aside0 (Kd.R Kd.string 9 w' w.heap.size (fun _ => True) v5 x5_2) ∧ Aside0 (w'.heap[gb198]? = some (.cells #[(.slice A0_0 l0_0.length c0_0),.string a0_1,(.slice A0_2 l0_2.length c0_2),(.slice A0_3 l0_3.length c0_3)] 29 (0,0))) ∧ Aside0 (Below w.heap.size w w'))
   case atStart => exact ⟨(y216),(0),Z106,H',⟨Nat.le_refl _⟩,⟨by (with_reducible repeat (first | apply Kd.N_alloc | apply Kd.N_drewN | apply Kd.N_drew));exact Kd.N_mono HO_3.out (fun _ hk => ⟨hk.2,hk.1⟩)⟩,⟨by (with_reducible repeat (first | apply Kd.R_alloc | apply Kd.R_drewN | apply Kd.R_drew));exact HO218.out⟩,⟨Z140⟩,⟨Z128⟩⟩
   case round =>
    clear H'
    try clear c1
    try clear c2
    try clear p2
    try clear c3
    try clear c4
    try clear c5
    try clear c12
    try clear c21
    try clear c21b0
    try clear p2
    obtain ⟨x5_2,x6_2,rfl,HA,HK2,HO_3,HO_5,BK198,HB⟩ := hrel
    cases gk with
    | zero => exact absurd HA.out (by simp [spec_TableText.l1])
    | succ k2 =>
     have H := HA.out
     clear HA
     simp only [spec_TableText.l1] at H
     obtain ⟨c25,H⟩ := ifp H
     have c25b0 : decide (0 ≤ x4_1) = true := decide_eq_true c25
     clear c25
     obtain ⟨c26,H⟩ := ifp H
     have c26b0 : decide (x4_1 < (l0_2.length : Int)) = true := decide_eq_true c26
     clear c26
     by_cases c27 : x6_2 < ((rd_L2 l0_2 x4_1).length : Int)
     ·rw [if_pos c27] at H
      have c27b0 : decide (x6_2 < ((rd_L2 l0_2 x4_1).length : Int)) = true := decide_eq_true c27
      clear c27
      obtain ⟨c28,H⟩ := ifp H
      have c28b0 : decide (0 ≤ x6_2) = true := decide_eq_true c28
      clear c28
      obtain ⟨t222,A290,H⟩ := Option.bind_eq_some_iff.mp H
      have A29 := Aside0.mk A290
      clear A290
      obtain ⟨y223,hyy⟩ : ∃ y_ : List ByteArray,y_ = (([t222] : List ByteArray)) := ⟨_,rfl⟩
      replace H : (if x5_2.length + y223.length < 8796093022208 then (spec_TableText.l1 k2 x3_1 x4_1 (x5_2 ++ y223) (wrap64 (x6_2 + 1)) l0_0 a0_1 l0_2 l0_3) else (none)) = some r := zR
      have Ny223 := Aside0.mk hyy
      clear hyy
      obtain ⟨c30,H⟩ := ifp H
      have LMc30 := Aside0.mk c30
      clear c30
      obtain ⟨y226,hyy⟩ : ∃ y_ : List ByteArray,y_ = (x5_2 ++ y223) := ⟨_,rfl⟩
      replace H : (spec_TableText.l1 k2 x3_1 x4_1 y226 (wrap64 (x6_2 + 1)) l0_0 a0_1 l0_2 l0_3) = some r := zR
      have Ny226 := Aside0.mk hyy
      clear hyy
      have H' := Aside0.mk H
      clear H
      obtain ⟨hcz31_0,hcz31_1,hcz31_2,hcz31_3,hfz31_0,hfz31_1,hfz31_2,hfz31_3⟩ := cells4 BK198.out
      have p219 : 0 ≤ (x4_1 : Int) := of_decide_eq_true Z105
      have q219 : x4_1 < (l0_2.length : Int) := of_decide_eq_true Z105
      obtain ⟨ad219,A219_0,c219_0,e219,hx219_0,hl219_0,hi219_0⟩ := at_L2 HR0_2.out x4_1 p219 q219
      cases e219
      replace hx219_0 := (HB.out.cell (World.block_lt_of_cell? w _ hx219_0)).trans hx219_0
      have HR219_0 := Aside0.mk hi219_0
      have HC219_0 := Aside0.mk hl219_0
      clear hi219_0 hl219_0
      replace p219 := eq_true p219
      replace q219 := eq_true q219
      have p220 : 0 ≤ (x4_1 : Int) := of_decide_eq_true Z105
      have q220 : x4_1 < (l0_2.length : Int) := of_decide_eq_true Z105
      obtain ⟨ad220,A220_0,c220_0,e220,hx220_0,hl220_0,hi220_0⟩ := at_L2 HR0_2.out x4_1 p220 q220
      obtain rfl : ad219 = ad220 := (by injection e220)
      replace hx220_0 := (HB.out.cell (World.block_lt_of_cell? w _ hx220_0)).trans hx220_0
      have HR220_0 := Aside0.mk hi220_0
      have HC220_0 := Aside0.mk hl220_0
      clear hi220_0 hl220_0
      replace p220 := eq_true p220
      replace q220 := eq_true q220
      have ea_ := Option.some.inj (hx219_0.symm.trans hx220_0)
      injection ea_ with ea_ en_ ec_
      subst ea_
      subst ec_
      clear en_
      have p221 : 0 ≤ (x6_2 : Int) := of_decide_eq_true Z105
      have q221 : x6_2 < ((rd_L2 l0_2 x4_1).length : Int) := of_decide_eq_true Z105
      obtain ⟨ad221,e221,hx221_0⟩ := Kd.at_int HR220_0.out x6_2 p221 q221
      cases e221
      replace hx221_0 := (HB.out.cell (World.block_lt_of_cell? w _ hx221_0)).trans hx221_0
      replace p221 := eq_true p221
      replace q221 := eq_true q221
      go_wp2_with (first | ((with_reducible refine gate_callee (f := 13) rfl ?_);refine goesL_ (some 46) rfl rfl Tryd.func13 Z121 rfl #[.int .i64 (rd (rd_L2 l0_2 x4_1) x6_2)] rfl Z66 ?_;(with_reducible refine (spec_FixText.calls k2 (rd (rd_L2 l0_2 x4_1) x6_2) t222 _ A29.out).mono ?_);rintro e w32 ⟨rfl,hb⟩;refine ⟨_,rfl,?_⟩;have n_ := jA (Kd.N_below Z94 hb) (jA (Kd.R_below Z95 hb) (jA (blk_below (g := gb198) (o := .cells #[.slice A0_0 l0_0.length c0_0,.string a0_1,.slice (some ad219) l0_2.length c0_2,.slice A0_3 l0_3.length c0_3] 29 (0,0)) Z140 hb) (Aside0.mk (below_step Z128 hb))));clear HO_3 HO_5 BK198 HB;obtain ⟨HO_3,HO_5,BK198,HB⟩ := n_;(try clear hb);(try clear hb2);(try clear hk);(try clear hi)) | ((with_reducible refine gate_dst (N := 47) rfl ?_);refine Kd.R_lit Kd.string _ 9 ?hg (N := 47) ?hd (xs := ([t222] : List ByteArray)) (inner := [.string t222]) (ok := fun _ => True) (okp := fun _ => True) ?hr ?hp (fun _ hk => hk) trivial (Below.refl _ _) (Nat.le_refl _) Z146 ?_;(case hd => rfl);(case hg => rfl);(case hr => exact Z107);(case hp => exact (Reps.one (show Kd.M Kd.string _ _ _ t222 [.string t222] from rfl) (Reps.none _ _)));intro v224 w33 ho34 hb hg_ hnew_;clear hg_ hnew_;(first | rw [← Ny223.out] at ho34 | (simp only [Int.reduceToNat] at ho34;rw [← Ny223.out] at ho34));have n_ := jA (Kd.N_elder' Z94 (Kd.R_base ho34) hb) (jA (Kd.R_elder' Z95 (Kd.R_base ho34) hb) (jA (Kd.R_lower (Kd.R_new' ho34 (Kd.R_lt Z95)) (below_size Z128)) (jA (blk_below (g := gb198) (o := .cells #[.slice A0_0 l0_0.length c0_0,.string a0_1,.slice (some ad219) l0_2.length c0_2,.slice A0_3 l0_3.length c0_3] 29 (0,0)) Z140 hb) (Aside0.mk (below_step Z128 hb)))));clear HO_3 HO_5 BK198 HB;obtain ⟨HO_3,HO_5,HO225,BK198,HB⟩ := n_;clear hb ho34;obtain ⟨Ao36,co36,eo36⟩ := Kd.R_slice HO225.out;subst eo36) | ((with_reducible refine gate_builtin (b := .append) (xs := #[.tmp 37,.tmp 47]) rfl ?_);at_builtin;refine Kd.R_append_rows Kd.string (w0 := w) w.heap.size rfl (.tmp 37) (.tmp 47) 22 9 (.string ⟨#[]⟩) 16 rfl Tryd.underlying22 info9 rfl Z145 Z122 u5 x5_2 y223 _ _ _ (fun k_ => some k_ ≠ (.slice Ao36 y223.length co36 : Value).ownBlock) (fun _ => False) rfl rfl ?aO ?aR (fun _ _ h => h) (fun _ h => h.elim) ?aF ?aB ?aS ?aL ?_;(case aR => repeat (first | exact (Kd.R_reads' HO225.out).2.2 | (with_reducible refine Kd.C_alloc ?_ _) | (with_reducible refine Kd.C_drewN ?_ _) | (with_reducible refine Kd.C_drew ?_)));(case aB => exact Z44);(case aF => exact (fun k_ hk => Kd.fresh' (Kd.R_lt Z90) k_ hk));(case aO => exact Z65);(case aS => exact Z38);(case aL => have := LMc30.out;omega);intro v227 w35 ho hb hg hat;rw [← Ny226.out] at ho;have n_ := jA (Kd.N_afterv (ok := (fun k_ => some k_ ≠ (.slice Ao36 y223.length co36 : Value).ownBlock ∧ k_ ≠ gb198)) Z55 hg hat) (jA (blk_grown (g := gb198) (o := .cells #[.slice A0_0 l0_0.length c0_0,.string a0_1,.slice (some ad219) l0_2.length c0_2,.slice A0_3 l0_3.length c0_3] 29 (0,0)) Z140 hg (Kd.R_ne HO_5.out BK198.out Z145)) (jA (Kd.R_after (ok := (fun _ => True)) Z90 hg hat) (jA (hb) (Aside0.mk (ho)))));clear HO_3 BK198 HO225 HB HO_5;obtain ⟨HO_3,BK198,HO225,HB,HO228⟩ := n_;clear ho hb hg hat))
      go_roundg k2
      case measure => have := HK1.out;have := HK2.out;omega
      case rel => exact ⟨(y226),(wrap64 (x6_2 + 1)),Z106,H',⟨Z108⟩,⟨by (with_reducible repeat (first | apply Kd.N_alloc | apply Kd.N_drewN | apply Kd.N_drew));exact Kd.N_mono HO_3.out (fun _ hk => ⟨hk.2,hk.1.2⟩)⟩,⟨by (with_reducible repeat (first | apply Kd.R_alloc | apply Kd.R_drewN | apply Kd.R_drew));exact Kd.R_mono HO228.out (fun _ hk => trivial)⟩,⟨Z140⟩,⟨Z128⟩⟩
     rw [if_neg c27] at H
     have c27b0 : decide (x6_2 < ((rd_L2 l0_2 x4_1).length : Int)) = false := decide_eq_false c27
     clear c27
     obtain ⟨c37,H⟩ := ifp H
     have c37b0 : decide (x4_1 < (l0_3.length : Int)) = true := decide_eq_true c37
     clear c37
     obtain ⟨t230,A380,H⟩ := Option.bind_eq_some_iff.mp H
     have A38 := Aside0.mk A380
     clear A380
     obtain ⟨y231,hyy⟩ : ∃ y_ : List ByteArray,y_ = (([t230] : List ByteArray)) := ⟨_,rfl⟩
     replace H : (if x5_2.length + y231.length < 8796093022208 then ((some (([(x5_2 ++ y231)] : List (List ByteArray)) : List (List ByteArray))).bind fun y237 => (if x3_1.length + y237.length < 5864062014805 then (spec_TableText.l0 k2 (x3_1 ++ y237) (wrap64 (x4_1 + 1)) l0_0 a0_1 l0_2 l0_3) else (none))) else (none)) = some r := zR
     have Ny231 := Aside0.mk hyy
     clear hyy
     obtain ⟨c39,H⟩ := ifp H
     have LMc39 := Aside0.mk c39
     clear c39
     obtain ⟨y234,hyy⟩ : ∃ y_ : List ByteArray,y_ = (x5_2 ++ y231) := ⟨_,rfl⟩
     replace H : ((some (([y234] : List (List ByteArray)) : List (List ByteArray))).bind fun y237 => (if x3_1.length + y237.length < 5864062014805 then (spec_TableText.l0 k2 (x3_1 ++ y237) (wrap64 (x4_1 + 1)) l0_0 a0_1 l0_2 l0_3) else (none))) = some r := zR
     have Ny234 := Aside0.mk hyy
     clear hyy
     obtain ⟨y237,hyy⟩ : ∃ y_ : List (List ByteArray),y_ = (([y234] : List (List ByteArray))) := ⟨_,rfl⟩
     replace H : (if x3_1.length + y237.length < 5864062014805 then (spec_TableText.l0 k2 (x3_1 ++ y237) (wrap64 (x4_1 + 1)) l0_0 a0_1 l0_2 l0_3) else (none)) = some r := zR
     have Ny237 := Aside0.mk hyy
     clear hyy
     obtain ⟨c40,H⟩ := ifp H
     have LMc40 := Aside0.mk c40
     clear c40
     obtain ⟨y240,hyy⟩ : ∃ y_ : List (List ByteArray),y_ = (x3_1 ++ y237) := ⟨_,rfl⟩
     replace H : (spec_TableText.l0 k2 y240 (wrap64 (x4_1 + 1)) l0_0 a0_1 l0_2 l0_3) = some r := zR
     have Ny240 := Aside0.mk hyy
     clear hyy
     have H' := Aside0.mk H
     clear H
     obtain ⟨hcz41_0,hcz41_1,hcz41_2,hcz41_3,hfz41_0,hfz41_1,hfz41_2,hfz41_3⟩ := cells4 BK198.out
     have p219 : 0 ≤ (x4_1 : Int) := of_decide_eq_true Z105
     have q219 : x4_1 < (l0_2.length : Int) := of_decide_eq_true Z105
     obtain ⟨ad219,A219_0,c219_0,e219,hx219_0,hl219_0,hi219_0⟩ := at_L2 HR0_2.out x4_1 p219 q219
     cases e219
     replace hx219_0 := (HB.out.cell (World.block_lt_of_cell? w _ hx219_0)).trans hx219_0
     have HR219_0 := Aside0.mk hi219_0
     have HC219_0 := Aside0.mk hl219_0
     clear hi219_0 hl219_0
     replace p219 := eq_true p219
     replace q219 := eq_true q219
     have p229 : 0 ≤ (x4_1 : Int) := of_decide_eq_true Z105
     have q229 : x4_1 < (l0_3.length : Int) := of_decide_eq_true Z105
     obtain ⟨ad229,e229,hx229_0⟩ := Kd.at_int HR0_3.out x4_1 p229 q229
     cases e229
     replace hx229_0 := (HB.out.cell (World.block_lt_of_cell? w _ hx229_0)).trans hx229_0
     replace p229 := eq_true p229
     replace q229 := eq_true q229
     go_wp2_with (first | ((with_reducible refine gate_callee (f := 13) rfl ?_);refine goesL_ (some 56) rfl rfl Tryd.func13 Z121 rfl #[.int .i64 (rd l0_3 x4_1)] rfl Z66 ?_;(with_reducible refine (spec_FixText.calls k2 (rd l0_3 x4_1) t230 _ A38.out).mono ?_);rintro e w42 ⟨rfl,hb⟩;refine ⟨_,rfl,?_⟩;have n_ := jA (Kd.N_below Z94 hb) (jA (Kd.R_below Z95 hb) (jA (blk_below (g := gb198) (o := .cells #[.slice A0_0 l0_0.length c0_0,.string a0_1,.slice (some ad219) l0_2.length c0_2,.slice (some ad229) l0_3.length c0_3] 29 (0,0)) Z140 hb) (Aside0.mk (below_step Z128 hb))));clear HO_3 HO_5 BK198 HB;obtain ⟨HO_3,HO_5,BK198,HB⟩ := n_;(try clear hb);(try clear hb2);(try clear hk);(try clear hi)) | ((with_reducible refine gate_dst (N := 57) rfl ?_);refine Kd.R_lit Kd.string _ 9 ?hg (N := 57) ?hd (xs := ([t230] : List ByteArray)) (inner := [.string t230]) (ok := fun _ => True) (okp := fun _ => True) ?hr ?hp (fun _ hk => hk) trivial (Below.refl _ _) (Nat.le_refl _) Z146 ?_;(case hd => rfl);(case hg => rfl);(case hr => exact Z107);(case hp => exact (Reps.one (show Kd.M Kd.string _ _ _ t230 [.string t230] from rfl) (Reps.none _ _)));intro v232 w43 ho44 hb hg_ hnew_;clear hg_ hnew_;(first | rw [← Ny231.out] at ho44 | (simp only [Int.reduceToNat] at ho44;rw [← Ny231.out] at ho44));have n_ := jA (Kd.N_elder' Z94 (Kd.R_base ho44) hb) (jA (Kd.R_elder' Z95 (Kd.R_base ho44) hb) (jA (Kd.R_lower (Kd.R_new' ho44 (Kd.R_lt Z95)) (below_size Z128)) (jA (blk_below (g := gb198) (o := .cells #[.slice A0_0 l0_0.length c0_0,.string a0_1,.slice (some ad219) l0_2.length c0_2,.slice (some ad229) l0_3.length c0_3] 29 (0,0)) Z140 hb) (Aside0.mk (below_step Z128 hb)))));clear HO_3 HO_5 BK198 HB;obtain ⟨HO_3,HO_5,HO233,BK198,HB⟩ := n_;clear hb ho44;obtain ⟨Ao46,co46,eo46⟩ := Kd.R_slice HO233.out;subst eo46) | ((with_reducible refine gate_builtin (b := .append) (xs := #[.tmp 50,.tmp 57]) rfl ?_);at_builtin;refine Kd.R_append_rows Kd.string (w0 := w) w.heap.size rfl (.tmp 50) (.tmp 57) 22 9 (.string ⟨#[]⟩) 16 rfl Tryd.underlying22 info9 rfl Z145 Z122 u5 x5_2 y231 _ _ _ (fun k_ => some k_ ≠ (.slice Ao46 y231.length co46 : Value).ownBlock) (fun _ => False) rfl rfl ?aO ?aR (fun _ _ h => h) (fun _ h => h.elim) ?aF ?aB ?aS ?aL ?_;(case aR => repeat (first | exact (Kd.R_reads' HO233.out).2.2 | (with_reducible refine Kd.C_alloc ?_ _) | (with_reducible refine Kd.C_drewN ?_ _) | (with_reducible refine Kd.C_drew ?_)));(case aB => exact Z44);(case aF => exact (fun k_ hk => Kd.fresh' (Kd.R_lt Z80) k_ hk));(case aO => exact Z65);(case aS => exact Z38);(case aL => have := LMc39.out;omega);intro v235 w45 ho hb hg hat;rw [← Ny234.out] at ho;have n_ := jA (Kd.N_afterv (ok := (fun k_ => some k_ ≠ (.slice Ao46 y231.length co46 : Value).ownBlock ∧ k_ ≠ gb198)) Z55 hg hat) (jA (blk_grown (g := gb198) (o := .cells #[.slice A0_0 l0_0.length c0_0,.string a0_1,.slice (some ad219) l0_2.length c0_2,.slice (some ad229) l0_3.length c0_3] 29 (0,0)) Z140 hg (Kd.R_ne HO_5.out BK198.out Z145)) (jA (Kd.R_after (ok := (fun _ => True)) Z80 hg hat) (jA (hb) (Aside0.mk (ho)))));clear HO_3 BK198 HO233 HB HO_5;obtain ⟨HO_3,BK198,HO233,HB,HO236⟩ := n_;clear ho hb hg hat;obtain ⟨Ao47,co47,eo47⟩ := Kd.R_slice HO236.out;subst eo47) | ((with_reducible refine gate_dst (N := 59) rfl ?_);refine Kd.N_lit (Kd.slice 9 Kd.string) _ 22 ?hg (N' := 59) ?hd (xs := ([y234] : List (List ByteArray))) (inner := [.slice Ao47 y234.length co47]) (ok := (fun k_ => some k_ ≠ (u3 : Value).ownBlock ∧ some k_ ≠ (.slice Ao46 y231.length co46 : Value).ownBlock ∧ k_ ≠ gb198)) (okp := (fun k_ => some k_ ≠ (u3 : Value).ownBlock ∧ some k_ ≠ (.slice Ao46 y231.length co46 : Value).ownBlock ∧ k_ ≠ gb198)) ?hr ?hp (fun _ hk => hk) ((show ∀ k_,w45.heap.size ≤ k_ → (fun k_ => some k_ ≠ (u3 : Value).ownBlock ∧ some k_ ≠ (.slice Ao46 y231.length co46 : Value).ownBlock ∧ k_ ≠ gb198) k_ from fun k_ hk => ⟨Kd.fresh' (Kd.N_lt Z94) k_ hk,Kd.fresh' (Kd.R_lt Z80) k_ hk,Kd.freshB (g := gb198) (o := .cells #[.slice A0_0 l0_0.length c0_0,.string a0_1,.slice (some ad219) l0_2.length c0_2,.slice (some ad229) l0_3.length c0_3] 29 (0,0)) Z140 k_ hk⟩) _ (Nat.le_refl _)) (Below.refl _ _) (Nat.le_refl _) Z146 ?_;(case hd => rfl);(case hg => rfl);(case hr => exact Z107);(case hp => exact (Reps.one (show Kd.FK (Kd.slice 9 Kd.string) _ _ y234 [.slice Ao47 y234.length co47] from (Kd.FK_slice_mk (Kd.R_reads' (Kd.R_mono (ok' := (fun k_ => some k_ ≠ (u3 : Value).ownBlock ∧ some k_ ≠ (.slice Ao46 y231.length co46 : Value).ownBlock ∧ k_ ≠ gb198)) (Kd.R_types (Kd.R_apart' (HO236.out) (Kd.N_typed HO_3.out) Z145) BK198.out Z145) (fun k_ hk => ⟨hk.1.2,⟨hk.1.1,hk.2⟩⟩))).2.1 (Kd.R_F (Kd.R_mono (ok' := (fun k_ => some k_ ≠ (u3 : Value).ownBlock ∧ some k_ ≠ (.slice Ao46 y231.length co46 : Value).ownBlock ∧ k_ ≠ gb198)) (Kd.R_types (Kd.R_apart' (HO236.out) (Kd.N_typed HO_3.out) Z145) BK198.out Z145) (fun k_ hk => ⟨hk.1.2,⟨hk.1.1,hk.2⟩⟩))))) (Reps.none _ _)));intro v238 w48 ho49 hb hg_ hnew_;clear hg_ hnew_;(first | rw [← Ny237.out] at ho49 | (simp only [Int.reduceToNat] at ho49;rw [← Ny237.out] at ho49));have n_ := jA (Kd.N_elder' Z94 (Kd.N_base ho49) hb) (jA (Kd.R_below Z80 hb) (jA (Kd.N_lower ho49 (below_size Z128)) (jA (blk_below (g := gb198) (o := .cells #[.slice A0_0 l0_0.length c0_0,.string a0_1,.slice (some ad219) l0_2.length c0_2,.slice (some ad229) l0_3.length c0_3] 29 (0,0)) Z140 hb) (Aside0.mk (below_step Z128 hb)))));clear HO_3 HO233 BK198 HB HO236;obtain ⟨HO_3,HO233,HO239,BK198,HB⟩ := n_;clear hb ho49;obtain ⟨Ao51,co51,eo51⟩ := Kd.N_slice HO239.out;subst eo51) | ((with_reducible refine gate_builtin (b := .append) (xs := #[.tmp 49,.tmp 59]) rfl ?_);at_builtin;refine Kd.N_append_rows (Kd.slice 9 Kd.string) (w0 := w) w.heap.size rfl (.tmp 49) (.tmp 59) 37 22 (.slice none 0 0) 24 rfl Tryd.underlying37 info22 rfl Z145 Z122 u3 x3_1 y237 _ _ _ (fun k_ => some k_ ≠ (.slice Ao46 y231.length co46 : Value).ownBlock ∧ k_ ≠ gb198) (fun k_ => ((fun k_ => some k_ ≠ (.slice Ao46 y231.length co46 : Value).ownBlock ∧ k_ ≠ gb198)) k_ ∧ some k_ ≠ (u3 : Value).ownBlock) rfl rfl ?aO ?aR (fun _ hk => hk) ?aF ?aB ?aS ?aL ?_;(case aR => exact (by skip;exact Kd.N_F (Kd.N_mono (ok' := (fun k_ => ((fun k_ => some k_ ≠ (.slice Ao46 y231.length co46 : Value).ownBlock ∧ k_ ≠ gb198)) k_ ∧ some k_ ≠ (u3 : Value).ownBlock)) (HO239.out) (fun k_ hk => ⟨⟨hk.2.1,hk.2.2⟩,hk.1⟩))));(case aB => exact Z44);(case aF => exact (fun k_ hk => ⟨Kd.fresh' (Kd.R_lt Z80) k_ hk,Kd.freshB (g := gb198) (o := .cells #[.slice A0_0 l0_0.length c0_0,.string a0_1,.slice (some ad219) l0_2.length c0_2,.slice (some ad229) l0_3.length c0_3] 29 (0,0)) Z140 k_ hk⟩));(case aO => exact Z51);(case aS => exact Z38);(case aL => have := LMc40.out;omega);intro v241 w50 ho hb hg hat;rw [← Ny240.out] at ho;have n_ := jA (blk_grown (g := gb198) (o := .cells #[.slice A0_0 l0_0.length c0_0,.string a0_1,.slice (some ad219) l0_2.length c0_2,.slice (some ad229) l0_3.length c0_3] 29 (0,0)) Z140 hg (Kd.N_ne HO_3.out BK198.out Z145)) (jA (Kd.R_over' Z80 (Kd.N_typed Z94) Z145 hg) (jA (Kd.N_afterv (ok := (fun k_ => some k_ ≠ (.slice Ao46 y231.length co46 : Value).ownBlock ∧ k_ ≠ gb198)) (by (with_reducible repeat (first | apply Kd.N_alloc | apply Kd.N_drewN | apply Kd.N_drew));exact Kd.N_mono HO239.out (fun _ hk => ⟨⟨hk.2.1,hk.2.2⟩,hk.1⟩)) hg hat) (jA (hb) (Aside0.mk (ho)))));clear BK198 HO233 HO239 HB HO_3;obtain ⟨BK198,HO233,HO239,HB,HO242⟩ := n_;clear ho hb hg hat))
     go_roundg k2
     case measure => have := HK1.out;have := HK2.out;omega
     case rel => exact ⟨(y240),(wrap64 (x4_1 + 1)),Z106,H',⟨Z108⟩,⟨by (with_reducible repeat (first | apply Kd.N_alloc | apply Kd.N_drewN | apply Kd.N_drew));exact Kd.N_mono HO242.out (fun _ hk => hk.2)⟩,⟨Z140⟩,⟨Z128⟩⟩

end Go.Proofs.YtepnbcdbagjmbabDoor.QFnExactTableText
