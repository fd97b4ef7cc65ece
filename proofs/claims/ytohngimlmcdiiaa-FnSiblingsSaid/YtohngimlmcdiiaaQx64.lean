/- The machine side of this seat's laws: what each Go function that they reach comes to. Conditions: none. -/
import Derived.Test.YtohngimlmcdiiaaQx0
import Derived.Test.YtohngimlmcdiiaaQx11
import Derived.Test.YtohngimlmcdiiaaQx24
import Derived.Test.YtohngimlmcdiiaaQx26
import Derived.Test.YtohngimlmcdiiaaQx60
import Derived.Test.YtohngimlmcdiiaaQx61
import Derived.Test.YtohngimlmcdiiaaQx62
import Derived.Test.YtohngimlmcdiiaaQx63
namespace Go.Proofs.Ytohngimlmcdiiaa.Q
open Go.RowKit Go.Proofs.YtohngimlmcdiiaaW.PrintWords Go.Proofs.YtohngimlmcdiiaaW.PrintLast Go.Proofs.YtohngimlmcdiiaaW.PrintMore
attribute [local go_sem] max2_int min2_int max_two min_two max_three min_three max_four min_four   -- for this text's walks alone
set_option linter.unusedVariables false
set_option linter.unusedSimpArgs false

/-! ### laws_FnSiblings: function 14 -/
mutual
def laws_FnSiblings.j0 : Nat → List Int → List Int → List Int → Int → List (S41) → Bool → Bool → Bool → Option (Bool)
 | 0,_,_,_,_,_,_,_,_ => none
 | k + 1,x3,x4,x5,x6,x7,x8,x10,x50 => if x50 = true then (some (x8 == x10)) else ((spec_SplitRows.f k x3 x5 1).bind fun bt1541 => ((impl_HistOf.f k x3 x4 bt1541.1 x6).bind fun bt1547 => ((impl_HistOf.f k x3 x4 bt1541.2 x6).bind fun bt1551 => (if bt1547.2 = true then (laws_FnSiblings.j1 k x7 bt1547.1 bt1551.1 (!bt1551.2)) else (laws_FnSiblings.j1 k x7 bt1547.1 bt1551.1 true)))))
def laws_FnSiblings.j1 : Nat → List (S41) → List (S41) → List (S41) → Bool → Option (Bool)
 | 0,_,_,_,_ => none
 | k + 1,x7,x13,x15,x81 => if x81 = true then (some true) else ((impl_SubHist.f k x7 x13).bind fun bt1555 => (if bt1555.2 = true then ((spec_SameHist.f k bt1555.1 x15).bind fun t1559 => (some t1559)) else (some false)))
end
def laws_FnSiblings.f (k : Nat) (l0 : List Int) : Option (Bool) := (laws_big.f l0).bind fun t1522 => (if t1522 = true then (some true) else ((spec_DrawHistOf.f k l0).bind fun bt1523 => ((impl_HistOf.f k bt1523.1 bt1523.2.1 bt1523.2.2.1 bt1523.2.2.2).bind fun bt1533 => ((spec_HistOf.f k bt1523.1 bt1523.2.1 bt1523.2.2.1 bt1523.2.2.2).bind fun bt1537 => (if (bt1533.2 != bt1537.2) = true then (laws_FnSiblings.j0 k bt1523.1 bt1523.2.1 bt1523.2.2.1 bt1523.2.2.2 bt1533.1 bt1533.2 bt1537.2 true) else (laws_FnSiblings.j0 k bt1523.1 bt1523.2.1 bt1523.2.2.1 bt1523.2.2.2 bt1533.1 bt1533.2 bt1537.2 (!bt1533.2)))))))
theorem laws_FnSiblings.mono_l : ∀ k,(∀ y0 y1 y2 y3 y4 y5 y6 y7,LeO (laws_FnSiblings.j0 k y0 y1 y2 y3 y4 y5 y6 y7) (laws_FnSiblings.j0 (k + 1) y0 y1 y2 y3 y4 y5 y6 y7)) ∧ (∀ y0 y1 y2 y3,LeO (laws_FnSiblings.j1 k y0 y1 y2 y3) (laws_FnSiblings.j1 (k + 1) y0 y1 y2 y3))
 | 0 => ⟨fun _ _ _ _ _ _ _ _ r h => by simp [laws_FnSiblings.j0] at h,fun _ _ _ _ r h => by simp [laws_FnSiblings.j1] at h⟩
 | k + 1 => by
   obtain ⟨ih0,ih1⟩ := laws_FnSiblings.mono_l k
   refine ⟨?_,?_⟩
   · intro y0 y1 y2 y3 y4 y5 y6 y7
     unfold laws_FnSiblings.j0
     repeat' first
     | (with_reducible exact ih0 _ _ _ _ _ _ _ _)
     | (with_reducible exact ih1 _ _ _ _)
     | (with_reducible exact impl_HistOf.mono _ _ _ _ _)
     | (with_reducible exact impl_SubHist.mono _ _ _)
     | (with_reducible exact spec_DrawHistOf.mono _ _)
     | (with_reducible exact spec_HistOf.mono _ _ _ _ _)
     | (with_reducible exact spec_SameHist.mono _ _ _)
     | (with_reducible exact spec_SplitRows.mono _ _ _ _)
     | (with_reducible exact LeO.refl _)
     | (with_reducible exact LeO.none _)
     | (with_reducible refine LeO.ite ?_ ?_)
     | (with_reducible refine LeO.bind ?_ (fun _ => ?_))
     | exact ih0 _ _ _ _ _ _ _ _
     | exact ih1 _ _ _ _
     | exact impl_HistOf.mono _ _ _ _ _
     | exact impl_SubHist.mono _ _ _
     | exact spec_DrawHistOf.mono _ _
     | exact spec_HistOf.mono _ _ _ _ _
     | exact spec_SameHist.mono _ _ _
     | exact spec_SplitRows.mono _ _ _ _
     | exact LeO.none _
     | refine LeO.ite ?_ ?_
     | refine LeO.bind ?_ (fun _ => ?_)
   · intro y0 y1 y2 y3
     unfold laws_FnSiblings.j1
     repeat' first
     | (with_reducible exact ih0 _ _ _ _ _ _ _ _)
     | (with_reducible exact ih1 _ _ _ _)
     | (with_reducible exact impl_HistOf.mono _ _ _ _ _)
     | (with_reducible exact impl_SubHist.mono _ _ _)
     | (with_reducible exact spec_DrawHistOf.mono _ _)
     | (with_reducible exact spec_HistOf.mono _ _ _ _ _)
     | (with_reducible exact spec_SameHist.mono _ _ _)
     | (with_reducible exact spec_SplitRows.mono _ _ _ _)
     | (with_reducible exact LeO.refl _)
     | (with_reducible exact LeO.none _)
     | (with_reducible refine LeO.ite ?_ ?_)
     | (with_reducible refine LeO.bind ?_ (fun _ => ?_))
     | exact ih0 _ _ _ _ _ _ _ _
     | exact ih1 _ _ _ _
     | exact impl_HistOf.mono _ _ _ _ _
     | exact impl_SubHist.mono _ _ _
     | exact spec_DrawHistOf.mono _ _
     | exact spec_HistOf.mono _ _ _ _ _
     | exact spec_SameHist.mono _ _ _
     | exact spec_SplitRows.mono _ _ _ _
     | exact LeO.none _
     | refine LeO.ite ?_ ?_
     | refine LeO.bind ?_ (fun _ => ?_)
theorem laws_FnSiblings.mono : ∀ a0 k,LeO (laws_FnSiblings.f k a0) (laws_FnSiblings.f (k + 1) a0) := by
 intro a0 k
 obtain ⟨ih0,ih1⟩ := laws_FnSiblings.mono_l k
 unfold laws_FnSiblings.f
 repeat' first
     | (with_reducible exact ih0 _ _ _ _ _ _ _ _)
     | (with_reducible exact ih1 _ _ _ _)
     | (with_reducible exact impl_HistOf.mono _ _ _ _ _)
     | (with_reducible exact impl_SubHist.mono _ _ _)
     | (with_reducible exact spec_DrawHistOf.mono _ _)
     | (with_reducible exact spec_HistOf.mono _ _ _ _ _)
     | (with_reducible exact spec_SameHist.mono _ _ _)
     | (with_reducible exact spec_SplitRows.mono _ _ _ _)
     | (with_reducible exact LeO.refl _)
     | (with_reducible exact LeO.none _)
     | (with_reducible refine LeO.ite ?_ ?_)
     | (with_reducible refine LeO.bind ?_ (fun _ => ?_))
     | exact ih0 _ _ _ _ _ _ _ _
     | exact ih1 _ _ _ _
     | exact impl_HistOf.mono _ _ _ _ _
     | exact impl_SubHist.mono _ _ _
     | exact spec_DrawHistOf.mono _ _
     | exact spec_HistOf.mono _ _ _ _ _
     | exact spec_SameHist.mono _ _ _
     | exact spec_SplitRows.mono _ _ _ _
     | exact LeO.none _
     | refine LeO.ite ?_ ?_
     | refine LeO.bind ?_ (fun _ => ?_)
set_option maxHeartbeats 8000000 in
set_option maxRecDepth 100000 in
theorem laws_FnSiblings.calls (k : Nat) (A0 : Option Addr) (c0 : Nat) (l0 : List Int) (r : Bool) (w : World) (hr0 : Kd.C (Kd.int .u8) w A0 l0.length l0) (hc0 : l0.length ≤ c0) (h : laws_FnSiblings.f k l0 = some r) (hr_ : r = true) :
   Calls Try.prog 14 #[.slice A0 l0.length c0] w fun e w' => e = .returned (.bool r) ∧ Below w.heap.size w w' := by
 have HRT := Aside0.mk hr_
 clear hr_
 have HR0 := Aside0.mk hr0
 have HC0 := Aside0.mk hc0
 clear hr0 hc0
 have HB := Aside0.mk (Below.refl w.heap.size w)
 have H : ((laws_big.f l0).bind fun t1522 => (if t1522 = true then (some true) else ((spec_DrawHistOf.f k l0).bind fun bt1523 => ((impl_HistOf.f k bt1523.1 bt1523.2.1 bt1523.2.2.1 bt1523.2.2.2).bind fun bt1533 => ((spec_HistOf.f k bt1523.1 bt1523.2.1 bt1523.2.2.1 bt1523.2.2.2).bind fun bt1537 => (if (bt1533.2 != bt1537.2) = true then (laws_FnSiblings.j0 k bt1523.1 bt1523.2.1 bt1523.2.2.1 bt1523.2.2.2 bt1533.1 bt1533.2 bt1537.2 true) else (laws_FnSiblings.j0 k bt1523.1 bt1523.2.1 bt1523.2.2.1 bt1523.2.2.2 bt1533.1 bt1533.2 bt1537.2 (!bt1533.2)))))))) = some r := h
 clear h
 replace H := Option.bind_eq_some_iff.mp H
 obtain ⟨t1522,A20,H⟩ := H
 replace H : (if t1522 = true then (some true) else ((spec_DrawHistOf.f k l0).bind fun bt1523 => ((impl_HistOf.f k bt1523.1 bt1523.2.1 bt1523.2.2.1 bt1523.2.2.2).bind fun bt1533 => ((spec_HistOf.f k bt1523.1 bt1523.2.1 bt1523.2.2.1 bt1523.2.2.2).bind fun bt1537 => (if (bt1533.2 != bt1537.2) = true then (laws_FnSiblings.j0 k bt1523.1 bt1523.2.1 bt1523.2.2.1 bt1523.2.2.2 bt1533.1 bt1533.2 bt1537.2 true) else (laws_FnSiblings.j0 k bt1523.1 bt1523.2.1 bt1523.2.2.1 bt1523.2.2.2 bt1533.1 bt1533.2 bt1537.2 (!bt1533.2))))))) = some r := H
 have A2 := Aside0.mk A20
 clear A20
 by_cases c3 : t1522 = true
 · subst c3
   have H1 : (some true) = some r := by rw [if_pos rfl] at H;exact H
   clear H
   have H := H1
   clear H1
   obtain rfl := Option.some.inj H
   go_enter Try.func14,Try.ntmps14
   go_wp2_with (first | ((with_reducible refine gate_callee (f := 22) rfl ?_);refine goesL_ (some 20) rfl rfl Try.func22 (by kernel_rfl) rfl #[.slice A0 l0.length c0] rfl (by (try simp only [List.map_toArray,List.map_cons,List.map_nil]);first | done | rfl | (simp only [List.length_drop,List.length_take];rfl)) ?_;(with_reducible refine (laws_big.calls _ _ l0 true _ ?side1 ?side2 A2.out).mono ?_);(case side1 => repeat (first | exact HR0.out | (with_reducible refine Kd.C_alloc ?_ _) | (with_reducible refine Kd.C_drewN ?_ _) | (with_reducible refine Kd.C_drew ?_)));(case side2 => exact HC0.out);rintro e w' ⟨rfl,⟨nd,rfl⟩⟩;refine ⟨_,rfl,?_⟩))
   go_ret
   exact ⟨by first | rfl | (simp [errW_none,errW_some] <;> rfl) | (simp [*,errW_none,errW_some] <;> rfl),by repeat (first | (with_reducible first | exact HB.out | apply below_alloc | apply pw_below_drewN | apply below_drew1) | exact HB.out)⟩
 · replace c3 := Bool.eq_false_iff.mpr c3
   subst c3
   have H1 : ((spec_DrawHistOf.f k l0).bind fun bt1523 => ((impl_HistOf.f k bt1523.1 bt1523.2.1 bt1523.2.2.1 bt1523.2.2.2).bind fun bt1533 => ((spec_HistOf.f k bt1523.1 bt1523.2.1 bt1523.2.2.1 bt1523.2.2.2).bind fun bt1537 => (if (bt1533.2 != bt1537.2) = true then (laws_FnSiblings.j0 k bt1523.1 bt1523.2.1 bt1523.2.2.1 bt1523.2.2.2 bt1533.1 bt1533.2 bt1537.2 true) else (laws_FnSiblings.j0 k bt1523.1 bt1523.2.1 bt1523.2.2.1 bt1523.2.2.2 bt1533.1 bt1533.2 bt1537.2 (!bt1533.2)))))) = some r := by rw [if_neg (show ¬ (false = true) by decide)] at H;exact H
   clear H
   have H := H1
   clear H1
   replace H := Option.bind_eq_some_iff.mp H
   obtain ⟨⟨t1523,t1524,t1525,t1526⟩,A40,H⟩ := H
   replace H : ((impl_HistOf.f k t1523 t1524 t1525 t1526).bind fun bt1533 => ((spec_HistOf.f k t1523 t1524 t1525 t1526).bind fun bt1537 => (if (bt1533.2 != bt1537.2) = true then (laws_FnSiblings.j0 k t1523 t1524 t1525 t1526 bt1533.1 bt1533.2 bt1537.2 true) else (laws_FnSiblings.j0 k t1523 t1524 t1525 t1526 bt1533.1 bt1533.2 bt1537.2 (!bt1533.2))))) = some r := H
   have A4 := Aside0.mk A40
   clear A40
   replace H := Option.bind_eq_some_iff.mp H
   obtain ⟨⟨t1533,t1534⟩,A50,H⟩ := H
   replace H : ((spec_HistOf.f k t1523 t1524 t1525 t1526).bind fun bt1537 => (if (t1534 != bt1537.2) = true then (laws_FnSiblings.j0 k t1523 t1524 t1525 t1526 t1533 t1534 bt1537.2 true) else (laws_FnSiblings.j0 k t1523 t1524 t1525 t1526 t1533 t1534 bt1537.2 (!t1534)))) = some r := H
   have A5 := Aside0.mk A50
   clear A50
   replace H := Option.bind_eq_some_iff.mp H
   obtain ⟨⟨t1537,t1538⟩,A60,H⟩ := H
   replace H : (if (t1534 != t1538) = true then (laws_FnSiblings.j0 k t1523 t1524 t1525 t1526 t1533 t1534 t1538 true) else (laws_FnSiblings.j0 k t1523 t1524 t1525 t1526 t1533 t1534 t1538 (!t1534))) = some r := H
   have A6 := Aside0.mk A60
   clear A60
   have HC7 := Aside0.mk H
   clear H
   go_enter Try.func14,Try.ntmps14
   go_upto_region 6 with (first | ((with_reducible refine gate_callee (f := 22) rfl ?_);refine goesL_ (some 20) rfl rfl Try.func22 (by kernel_rfl) rfl #[.slice A0 l0.length c0] rfl (by (try simp only [List.map_toArray,List.map_cons,List.map_nil]);first | done | rfl | (simp only [List.length_drop,List.length_take];rfl)) ?_;(with_reducible refine (laws_big.calls _ _ l0 false _ ?side1 ?side2 A2.out).mono ?_);(case side1 => repeat (first | exact HR0.out | (with_reducible refine Kd.C_alloc ?_ _) | (with_reducible refine Kd.C_drewN ?_ _) | (with_reducible refine Kd.C_drew ?_)));(case side2 => exact HC0.out);rintro e w' ⟨rfl,⟨nd,rfl⟩⟩;refine ⟨_,rfl,?_⟩) | ((with_reducible refine gate_callee (f := 66) rfl ?_);refine goesL_ (some 23) rfl rfl Try.func66 (by kernel_rfl) rfl #[.slice A0 l0.length c0] rfl (by (try simp only [List.map_toArray,List.map_cons,List.map_nil]);first | done | rfl | (simp only [List.length_drop,List.length_take];rfl)) ?_;(with_reducible refine (spec_DrawHistOf.calls k _ _ l0 t1523 t1524 t1525 t1526 _ ?side1 ?side2 A4.out).mono ?_);(case side1 => repeat (first | exact HR0.out | (with_reducible refine Kd.C_alloc ?_ _) | (with_reducible refine Kd.C_drewN ?_ _) | (with_reducible refine Kd.C_drew ?_)));(case side2 => exact HC0.out);rintro e w8 ⟨v1527,v1529,v1531,rfl,ho0,ho1,ho2,hb⟩;refine ⟨_,rfl,?_⟩;have n0_ := Aside0.mk (Kd.R_lower ho0 (below_size (by repeat (first | (with_reducible first | exact HB.out | apply below_alloc | apply pw_below_drewN | apply below_drew1) | exact HB.out))));have n1_ := Aside0.mk (Kd.R_lower ho1 (below_size (by repeat (first | (with_reducible first | exact HB.out | apply below_alloc | apply pw_below_drewN | apply below_drew1) | exact HB.out))));have n2_ := Aside0.mk (Kd.R_lower ho2 (below_size (by repeat (first | (with_reducible first | exact HB.out | apply below_alloc | apply pw_below_drewN | apply below_drew1) | exact HB.out))));have n3_ := Aside0.mk (below_step (by repeat (first | (with_reducible first | exact HB.out | apply below_alloc | apply pw_below_drewN | apply below_drew1) | exact HB.out)) hb);clear HB;have HO1528 := n0_;have HO1530 := n1_;have HO1532 := n2_;have HB := n3_;clear n0_ n1_ n2_ n3_;(try clear hb);(try clear hb2);(try clear hk);(try clear hi);(try clear ho0);(try clear ho1);(try clear ho2);obtain ⟨Ao9,co9,eo9⟩ := Kd.R_slice HO1528.out;subst eo9;obtain ⟨Ao10,co10,eo10⟩ := Kd.R_slice HO1530.out;subst eo10;obtain ⟨Ao11,co11,eo11⟩ := Kd.R_slice HO1532.out;subst eo11) | ((with_reducible refine gate_callee (f := 36) rfl ?_);refine goesL_ (some 33) rfl rfl Try.func36 (by kernel_rfl) rfl #[.slice Ao9 t1523.length co9,.slice Ao10 t1524.length co10,.slice Ao11 t1525.length co11,.int .i64 t1526] rfl (by (try simp only [List.map_toArray,List.map_cons,List.map_nil]);first | done | rfl | (simp only [List.length_drop,List.length_take];rfl)) ?_;(with_reducible refine (impl_HistOf.calls k _ _ t1523 _ _ t1524 _ _ t1525 t1526 t1533 t1534 _ ?side1 ?side2 ?side3 ?side4 ?side5 ?side6 A5.out).mono ?_);(case side1 => repeat (first | exact (Kd.R_reads' HO1528.out).2.2 | (with_reducible refine Kd.C_alloc ?_ _) | (with_reducible refine Kd.C_drewN ?_ _) | (with_reducible refine Kd.C_drew ?_)));(case side2 => exact (Kd.R_reads' HO1528.out).2.1);(case side3 => repeat (first | exact (Kd.R_reads' HO1530.out).2.2 | (with_reducible refine Kd.C_alloc ?_ _) | (with_reducible refine Kd.C_drewN ?_ _) | (with_reducible refine Kd.C_drew ?_)));(case side4 => exact (Kd.R_reads' HO1530.out).2.1);(case side5 => repeat (first | exact (Kd.R_reads' HO1532.out).2.2 | (with_reducible refine Kd.C_alloc ?_ _) | (with_reducible refine Kd.C_drewN ?_ _) | (with_reducible refine Kd.C_drew ?_)));(case side6 => exact (Kd.R_reads' HO1532.out).2.1);rintro e w12 ⟨v1535,rfl,ho0,hb⟩;refine ⟨_,rfl,?_⟩;have n0_ := Aside0.mk (Kd.R_below (by (with_reducible repeat (first | apply Kd.R_alloc | apply Kd.R_drewN | apply Kd.R_drew));exact HO1528.out) hb);have n1_ := Aside0.mk (Kd.R_below (by (with_reducible repeat (first | apply Kd.R_alloc | apply Kd.R_drewN | apply Kd.R_drew));exact HO1530.out) hb);have n2_ := Aside0.mk (Kd.R_below (by (with_reducible repeat (first | apply Kd.R_alloc | apply Kd.R_drewN | apply Kd.R_drew));exact HO1532.out) hb);have n3_ := Aside0.mk (Kd.R_lower ho0 (below_size (by repeat (first | (with_reducible first | exact HB.out | apply below_alloc | apply pw_below_drewN | apply below_drew1) | exact HB.out))));have n4_ := Aside0.mk (below_step (by repeat (first | (with_reducible first | exact HB.out | apply below_alloc | apply pw_below_drewN | apply below_drew1) | exact HB.out)) hb);clear HO1528;clear HO1530;clear HO1532;clear HB;have HO1528 := n0_;have HO1530 := n1_;have HO1532 := n2_;have HO1536 := n3_;have HB := n4_;clear n0_ n1_ n2_ n3_ n4_;(try clear hb);(try clear hb2);(try clear hk);(try clear hi);(try clear ho0)) | ((with_reducible refine gate_callee (f := 34) rfl ?_);refine goesL_ (some 41) rfl rfl Try.func34 (by kernel_rfl) rfl #[.slice Ao9 t1523.length co9,.slice Ao10 t1524.length co10,.slice Ao11 t1525.length co11,.int .i64 t1526] rfl (by (try simp only [List.map_toArray,List.map_cons,List.map_nil]);first | done | rfl | (simp only [List.length_drop,List.length_take];rfl)) ?_;(with_reducible refine (spec_HistOf.calls k _ _ t1523 _ _ t1524 _ _ t1525 t1526 t1537 t1538 _ ?side1 ?side2 ?side3 ?side4 ?side5 ?side6 A6.out).mono ?_);(case side1 => repeat (first | exact (Kd.R_reads' HO1528.out).2.2 | (with_reducible refine Kd.C_alloc ?_ _) | (with_reducible refine Kd.C_drewN ?_ _) | (with_reducible refine Kd.C_drew ?_)));(case side2 => exact (Kd.R_reads' HO1528.out).2.1);(case side3 => repeat (first | exact (Kd.R_reads' HO1530.out).2.2 | (with_reducible refine Kd.C_alloc ?_ _) | (with_reducible refine Kd.C_drewN ?_ _) | (with_reducible refine Kd.C_drew ?_)));(case side4 => exact (Kd.R_reads' HO1530.out).2.1);(case side5 => repeat (first | exact (Kd.R_reads' HO1532.out).2.2 | (with_reducible refine Kd.C_alloc ?_ _) | (with_reducible refine Kd.C_drewN ?_ _) | (with_reducible refine Kd.C_drew ?_)));(case side6 => exact (Kd.R_reads' HO1532.out).2.1);rintro e w13 ⟨v1539,rfl,ho0,hb⟩;refine ⟨_,rfl,?_⟩;have n0_ := Aside0.mk (Kd.R_below (by (with_reducible repeat (first | apply Kd.R_alloc | apply Kd.R_drewN | apply Kd.R_drew));exact HO1528.out) hb);have n1_ := Aside0.mk (Kd.R_below (by (with_reducible repeat (first | apply Kd.R_alloc | apply Kd.R_drewN | apply Kd.R_drew));exact HO1530.out) hb);have n2_ := Aside0.mk (Kd.R_below (by (with_reducible repeat (first | apply Kd.R_alloc | apply Kd.R_drewN | apply Kd.R_drew));exact HO1532.out) hb);have n3_ := Aside0.mk (Kd.R_elder' (by (with_reducible repeat (first | apply Kd.R_alloc | apply Kd.R_drewN | apply Kd.R_drew));exact HO1536.out) (Kd.R_base ho0) hb);have n4_ := Aside0.mk (Kd.R_lower (Kd.R_new' ho0 (Kd.R_lt (by (with_reducible repeat (first | apply Kd.R_alloc | apply Kd.R_drewN | apply Kd.R_drew));exact HO1536.out))) (below_size (by repeat (first | (with_reducible first | exact HB.out | apply below_alloc | apply pw_below_drewN | apply below_drew1) | exact HB.out))));have n5_ := Aside0.mk (below_step (by repeat (first | (with_reducible first | exact HB.out | apply below_alloc | apply pw_below_drewN | apply below_drew1) | exact HB.out)) hb);clear HO1528;clear HO1530;clear HO1532;clear HO1536;clear HB;have HO1528 := n0_;have HO1530 := n1_;have HO1532 := n2_;have HO1536 := n3_;have HO1540 := n4_;have HB := n5_;clear n0_ n1_ n2_ n3_ n4_ n5_;(try clear hb);(try clear hb2);(try clear hk);(try clear hi);(try clear ho0)))
   (try simp only [Act.put,List.setIfInBounds_toArray,List.set_cons_zero,List.set_cons_succ])
   go_cut [50] (fun v50 wc => ∃ (kq : Nat) (x50_6 : Bool),v50 = .bool x50_6 ∧ Aside0 (laws_FnSiblings.j0 kq t1523 t1524 t1525 t1526 t1533 t1534 t1538 x50_6 = some r) ∧ Aside0 (kq ≤ k) ∧ Aside0 (Kd.R (Kd.int .i64) 3 wc w.heap.size (fun k_ => some k_ ≠ ((.slice Ao10 t1524.length co10) : Value).ownBlock ∧ some k_ ≠ ((.slice Ao11 t1525.length co11) : Value).ownBlock) (.slice Ao9 t1523.length co9) t1523) ∧ Aside0 (Kd.R (Kd.int .i64) 3 wc w.heap.size (fun k_ => some k_ ≠ ((.slice Ao9 t1523.length co9) : Value).ownBlock ∧ some k_ ≠ ((.slice Ao11 t1525.length co11) : Value).ownBlock) (.slice Ao10 t1524.length co10) t1524) ∧ Aside0 (Kd.R (Kd.int .i64) 3 wc w.heap.size (fun k_ => some k_ ≠ ((.slice Ao9 t1523.length co9) : Value).ownBlock ∧ some k_ ≠ ((.slice Ao10 t1524.length co10) : Value).ownBlock) (.slice Ao11 t1525.length co11) t1525) ∧ Aside0 (Kd.R k41 41 wc w.heap.size (fun _ => True) v1535 t1533) ∧ Aside0 (Below w.heap.size w wc))
   case first =>
     have H := HC7.out
     clear HC7
     by_cases c14 : (t1534 != t1538) = true
     · rw [if_pos c14] at H
       have c14b0 : (t1534 != t1538) = true := c14
       (try (have c14b1 : decide (t1534 = t1538) = false := by simpa using c14))
       (try (have c14b2 : (t1534 == t1538) = false := by simpa using c14))
       (try (have c14b3 : ¬ (t1534 = t1538) := by simpa using c14))
       clear c14
       (first | rw [c14b0] | (simp only [i64_w,i32_w];rw [c14b0]) | skip)
       have H' := Aside0.mk H
       clear H
       go_wp2
       go_meet
       case rel => exact ⟨_,(true),(by first | rfl | (simp;done) | (simp [*];done)),H',⟨by first | omega | exact Nat.le_refl _⟩,⟨by (with_reducible repeat (first | apply Kd.R_alloc | apply Kd.R_drewN | apply Kd.R_drew));exact HO1528.out⟩,⟨by (with_reducible repeat (first | apply Kd.R_alloc | apply Kd.R_drewN | apply Kd.R_drew));exact HO1530.out⟩,⟨by (with_reducible repeat (first | apply Kd.R_alloc | apply Kd.R_drewN | apply Kd.R_drew));exact HO1532.out⟩,⟨by (with_reducible repeat (first | apply Kd.R_alloc | apply Kd.R_drewN | apply Kd.R_drew));exact Kd.R_mono HO1536.out (fun _ hk => trivial)⟩,⟨by repeat (first | (with_reducible first | exact HB.out | apply below_alloc | apply pw_below_drewN | apply below_drew1) | exact HB.out)⟩⟩
     · rw [if_neg c14] at H
       have c14b0 : (t1534 != t1538) = false := by simpa using c14
       (try (have c14b1 : decide (t1534 = t1538) = true := by simpa using c14))
       (try (have c14b2 : (t1534 == t1538) = true := by simpa using c14))
       clear c14
       (first | rw [c14b0] | (simp only [i64_w,i32_w];rw [c14b0]) | skip)
       have H' := Aside0.mk H
       clear H
       go_wp2
       go_meet
       case rel => exact ⟨_,(!t1534),(by first | rfl | (simp;done) | (simp [*];done)),H',⟨by first | omega | exact Nat.le_refl _⟩,⟨by (with_reducible repeat (first | apply Kd.R_alloc | apply Kd.R_drewN | apply Kd.R_drew));exact HO1528.out⟩,⟨by (with_reducible repeat (first | apply Kd.R_alloc | apply Kd.R_drewN | apply Kd.R_drew));exact HO1530.out⟩,⟨by (with_reducible repeat (first | apply Kd.R_alloc | apply Kd.R_drewN | apply Kd.R_drew));exact HO1532.out⟩,⟨by (with_reducible repeat (first | apply Kd.R_alloc | apply Kd.R_drewN | apply Kd.R_drew));exact Kd.R_mono HO1536.out (fun _ hk => trivial)⟩,⟨by repeat (first | (with_reducible first | exact HB.out | apply below_alloc | apply pw_below_drewN | apply below_drew1) | exact HB.out)⟩⟩
   case rest =>
     clear HC7
     try clear c1
     try clear c2
     try clear p2
     try clear c3
     try clear c6
     try clear c14
     try clear c14b0
     try clear c14b1
     try clear c14b2
     obtain ⟨kq,x50_6,rfl,HA,HJ6,HO_3,HO_4,HO_5,HO_7,HB⟩ := hcut
     cases kq with
     | zero => exact absurd HA.out (by simp [laws_FnSiblings.j0])
     | succ kj6 =>
       have H := HA.out
       clear HA
       simp only [laws_FnSiblings.j0] at H
       by_cases c15 : x50_6 = true
       · subst c15
         have H1 : (some (t1534 == t1538)) = some r := by rw [if_pos rfl] at H;exact H
         clear H
         have H := H1
         clear H1
         obtain rfl := Option.some.inj H
         go_wp2
         go_ret
         exact ⟨by first | rfl | (simp [errW_none,errW_some] <;> rfl) | (simp [*,errW_none,errW_some] <;> rfl),by repeat (first | (with_reducible first | exact HB.out | apply below_alloc | apply pw_below_drewN | apply below_drew1) | exact HB.out)⟩
       · replace c15 := Bool.eq_false_iff.mpr c15
         subst c15
         have H1 : ((spec_SplitRows.f kj6 t1523 t1525 1).bind fun bt1541 => ((impl_HistOf.f kj6 t1523 t1524 bt1541.1 t1526).bind fun bt1547 => ((impl_HistOf.f kj6 t1523 t1524 bt1541.2 t1526).bind fun bt1551 => (if bt1547.2 = true then (laws_FnSiblings.j1 kj6 t1533 bt1547.1 bt1551.1 (!bt1551.2)) else (laws_FnSiblings.j1 kj6 t1533 bt1547.1 bt1551.1 true))))) = some r := by rw [if_neg (show ¬ (false = true) by decide)] at H;exact H
         clear H
         have H := H1
         clear H1
         replace H := Option.bind_eq_some_iff.mp H
         obtain ⟨⟨t1541,t1542⟩,A160,H⟩ := H
         replace H : ((impl_HistOf.f kj6 t1523 t1524 t1541 t1526).bind fun bt1547 => ((impl_HistOf.f kj6 t1523 t1524 t1542 t1526).bind fun bt1551 => (if bt1547.2 = true then (laws_FnSiblings.j1 kj6 t1533 bt1547.1 bt1551.1 (!bt1551.2)) else (laws_FnSiblings.j1 kj6 t1533 bt1547.1 bt1551.1 true)))) = some r := H
         have A16 := Aside0.mk A160
         clear A160
         replace H := Option.bind_eq_some_iff.mp H
         obtain ⟨⟨t1547,t1548⟩,A170,H⟩ := H
         replace H : ((impl_HistOf.f kj6 t1523 t1524 t1542 t1526).bind fun bt1551 => (if t1548 = true then (laws_FnSiblings.j1 kj6 t1533 t1547 bt1551.1 (!bt1551.2)) else (laws_FnSiblings.j1 kj6 t1533 t1547 bt1551.1 true))) = some r := H
         have A17 := Aside0.mk A170
         clear A170
         replace H := Option.bind_eq_some_iff.mp H
         obtain ⟨⟨t1551,t1552⟩,A180,H⟩ := H
         replace H : (if t1548 = true then (laws_FnSiblings.j1 kj6 t1533 t1547 t1551 (!t1552)) else (laws_FnSiblings.j1 kj6 t1533 t1547 t1551 true)) = some r := H
         have A18 := Aside0.mk A180
         clear A180
         have HC19 := Aside0.mk H
         clear H
         go_upto_region 11 with (first | ((with_reducible refine gate_callee (f := 67) rfl ?_);refine goesL_ (some 57) rfl rfl Try.func67 (by kernel_rfl) rfl #[.slice Ao9 t1523.length co9,.slice Ao11 t1525.length co11,.int .i64 1] rfl (by (try simp only [List.map_toArray,List.map_cons,List.map_nil]);first | done | rfl | (simp only [List.length_drop,List.length_take];rfl)) ?_;(with_reducible refine (spec_SplitRows.calls kj6 _ _ t1523 _ _ t1525 1 t1541 t1542 _ ?side1 ?side2 ?side3 ?side4 A16.out).mono ?_);(case side1 => repeat (first | exact (Kd.R_reads' HO_3.out).2.2 | (with_reducible refine Kd.C_alloc ?_ _) | (with_reducible refine Kd.C_drewN ?_ _) | (with_reducible refine Kd.C_drew ?_)));(case side2 => exact (Kd.R_reads' HO_3.out).2.1);(case side3 => repeat (first | exact (Kd.R_reads' HO_5.out).2.2 | (with_reducible refine Kd.C_alloc ?_ _) | (with_reducible refine Kd.C_drewN ?_ _) | (with_reducible refine Kd.C_drew ?_)));(case side4 => exact (Kd.R_reads' HO_5.out).2.1);rintro e w20 ⟨v1543,v1545,rfl,ho0,ho1,hb⟩;refine ⟨_,rfl,?_⟩;have n0_ := Aside0.mk (Kd.R_mono (Kd.R_told (Kd.R_told (Kd.R_old (by (with_reducible repeat (first | apply Kd.R_alloc | apply Kd.R_drewN | apply Kd.R_drew));exact HO_3.out) hb) (Kd.R_base ho0)) (Kd.R_base ho1)) (fun _ h_ => h_.1));have n1_ := Aside0.mk (Kd.R_mono (Kd.R_told (Kd.R_told (Kd.R_old (by (with_reducible repeat (first | apply Kd.R_alloc | apply Kd.R_drewN | apply Kd.R_drew));exact HO_4.out) hb) (Kd.R_base ho0)) (Kd.R_base ho1)) (fun _ h_ => h_.1));have n2_ := Aside0.mk (Kd.R_mono (Kd.R_told (Kd.R_told (Kd.R_old (by (with_reducible repeat (first | apply Kd.R_alloc | apply Kd.R_drewN | apply Kd.R_drew));exact HO_5.out) hb) (Kd.R_base ho0)) (Kd.R_base ho1)) (fun _ h_ => h_.1));have n3_ := Aside0.mk (Kd.R_below (by (with_reducible repeat (first | apply Kd.R_alloc | apply Kd.R_drewN | apply Kd.R_drew));exact HO_7.out) hb);have n4_ := Aside0.mk (Kd.R_lower (Kd.R_new' (Kd.R_new' (Kd.R_new' ho0 (Kd.R_lt (by (with_reducible repeat (first | apply Kd.R_alloc | apply Kd.R_drewN | apply Kd.R_drew));exact HO_3.out))) (Kd.R_lt (by (with_reducible repeat (first | apply Kd.R_alloc | apply Kd.R_drewN | apply Kd.R_drew));exact HO_4.out))) (Kd.R_lt (by (with_reducible repeat (first | apply Kd.R_alloc | apply Kd.R_drewN | apply Kd.R_drew));exact HO_5.out))) (below_size (by repeat (first | (with_reducible first | exact HB.out | apply below_alloc | apply pw_below_drewN | apply below_drew1) | exact HB.out))));have n5_ := Aside0.mk (Kd.R_lower (Kd.R_new' (Kd.R_new' (Kd.R_new' ho1 (Kd.R_lt (by (with_reducible repeat (first | apply Kd.R_alloc | apply Kd.R_drewN | apply Kd.R_drew));exact HO_3.out))) (Kd.R_lt (by (with_reducible repeat (first | apply Kd.R_alloc | apply Kd.R_drewN | apply Kd.R_drew));exact HO_4.out))) (Kd.R_lt (by (with_reducible repeat (first | apply Kd.R_alloc | apply Kd.R_drewN | apply Kd.R_drew));exact HO_5.out))) (below_size (by repeat (first | (with_reducible first | exact HB.out | apply below_alloc | apply pw_below_drewN | apply below_drew1) | exact HB.out))));have n6_ := Aside0.mk (below_step (by repeat (first | (with_reducible first | exact HB.out | apply below_alloc | apply pw_below_drewN | apply below_drew1) | exact HB.out)) hb);clear HO_3;clear HO_4;clear HO_5;clear HO_7;clear HB;have HO_3 := n0_;have HO_4 := n1_;have HO_5 := n2_;have HO_7 := n3_;have HO1544 := n4_;have HO1546 := n5_;have HB := n6_;clear n0_ n1_ n2_ n3_ n4_ n5_ n6_;(try clear hb);(try clear hb2);(try clear hk);(try clear hi);(try clear ho0);(try clear ho1);obtain ⟨Ao21,co21,eo21⟩ := Kd.R_slice HO1544.out;subst eo21) | ((with_reducible refine gate_callee (f := 36) rfl ?_);refine goesL_ (some 65) rfl rfl Try.func36 (by kernel_rfl) rfl #[.slice Ao9 t1523.length co9,.slice Ao10 t1524.length co10,.slice Ao21 t1541.length co21,.int .i64 t1526] rfl (by (try simp only [List.map_toArray,List.map_cons,List.map_nil]);first | done | rfl | (simp only [List.length_drop,List.length_take];rfl)) ?_;(with_reducible refine (impl_HistOf.calls kj6 _ _ t1523 _ _ t1524 _ _ t1541 t1526 t1547 t1548 _ ?side1 ?side2 ?side3 ?side4 ?side5 ?side6 A17.out).mono ?_);(case side1 => repeat (first | exact (Kd.R_reads' HO_3.out).2.2 | (with_reducible refine Kd.C_alloc ?_ _) | (with_reducible refine Kd.C_drewN ?_ _) | (with_reducible refine Kd.C_drew ?_)));(case side2 => exact (Kd.R_reads' HO_3.out).2.1);(case side3 => repeat (first | exact (Kd.R_reads' HO_4.out).2.2 | (with_reducible refine Kd.C_alloc ?_ _) | (with_reducible refine Kd.C_drewN ?_ _) | (with_reducible refine Kd.C_drew ?_)));(case side4 => exact (Kd.R_reads' HO_4.out).2.1);(case side5 => repeat (first | exact (Kd.R_reads' HO1544.out).2.2 | (with_reducible refine Kd.C_alloc ?_ _) | (with_reducible refine Kd.C_drewN ?_ _) | (with_reducible refine Kd.C_drew ?_)));(case side6 => exact (Kd.R_reads' HO1544.out).2.1);rintro e w22 ⟨v1549,rfl,ho0,hb⟩;refine ⟨_,rfl,?_⟩;have n0_ := Aside0.mk (Kd.R_below (by (with_reducible repeat (first | apply Kd.R_alloc | apply Kd.R_drewN | apply Kd.R_drew));exact HO_3.out) hb);have n1_ := Aside0.mk (Kd.R_below (by (with_reducible repeat (first | apply Kd.R_alloc | apply Kd.R_drewN | apply Kd.R_drew));exact HO_4.out) hb);have n2_ := Aside0.mk (Kd.R_below (by (with_reducible repeat (first | apply Kd.R_alloc | apply Kd.R_drewN | apply Kd.R_drew));exact HO_5.out) hb);have n3_ := Aside0.mk (Kd.R_elder' (by (with_reducible repeat (first | apply Kd.R_alloc | apply Kd.R_drewN | apply Kd.R_drew));exact HO_7.out) (Kd.R_base ho0) hb);have n4_ := Aside0.mk (Kd.R_below (by (with_reducible repeat (first | apply Kd.R_alloc | apply Kd.R_drewN | apply Kd.R_drew));exact HO1544.out) hb);have n5_ := Aside0.mk (Kd.R_below (by (with_reducible repeat (first | apply Kd.R_alloc | apply Kd.R_drewN | apply Kd.R_drew));exact HO1546.out) hb);have n6_ := Aside0.mk (Kd.R_lower (Kd.R_new' ho0 (Kd.R_lt (by (with_reducible repeat (first | apply Kd.R_alloc | apply Kd.R_drewN | apply Kd.R_drew));exact HO_7.out))) (below_size (by repeat (first | (with_reducible first | exact HB.out | apply below_alloc | apply pw_below_drewN | apply below_drew1) | exact HB.out))));have n7_ := Aside0.mk (below_step (by repeat (first | (with_reducible first | exact HB.out | apply below_alloc | apply pw_below_drewN | apply below_drew1) | exact HB.out)) hb);clear HO_3;clear HO_4;clear HO_5;clear HO_7;clear HO1544;clear HO1546;clear HB;have HO_3 := n0_;have HO_4 := n1_;have HO_5 := n2_;have HO_7 := n3_;have HO1544 := n4_;have HO1546 := n5_;have HO1550 := n6_;have HB := n7_;clear n0_ n1_ n2_ n3_ n4_ n5_ n6_ n7_;(try clear hb);(try clear hb2);(try clear hk);(try clear hi);(try clear ho0);obtain ⟨Ao23,co23,eo23⟩ := Kd.R_slice HO1546.out;subst eo23) | ((with_reducible refine gate_callee (f := 36) rfl ?_);refine goesL_ (some 73) rfl rfl Try.func36 (by kernel_rfl) rfl #[.slice Ao9 t1523.length co9,.slice Ao10 t1524.length co10,.slice Ao23 t1542.length co23,.int .i64 t1526] rfl (by (try simp only [List.map_toArray,List.map_cons,List.map_nil]);first | done | rfl | (simp only [List.length_drop,List.length_take];rfl)) ?_;(with_reducible refine (impl_HistOf.calls kj6 _ _ t1523 _ _ t1524 _ _ t1542 t1526 t1551 t1552 _ ?side1 ?side2 ?side3 ?side4 ?side5 ?side6 A18.out).mono ?_);(case side1 => repeat (first | exact (Kd.R_reads' HO_3.out).2.2 | (with_reducible refine Kd.C_alloc ?_ _) | (with_reducible refine Kd.C_drewN ?_ _) | (with_reducible refine Kd.C_drew ?_)));(case side2 => exact (Kd.R_reads' HO_3.out).2.1);(case side3 => repeat (first | exact (Kd.R_reads' HO_4.out).2.2 | (with_reducible refine Kd.C_alloc ?_ _) | (with_reducible refine Kd.C_drewN ?_ _) | (with_reducible refine Kd.C_drew ?_)));(case side4 => exact (Kd.R_reads' HO_4.out).2.1);(case side5 => repeat (first | exact (Kd.R_reads' HO1546.out).2.2 | (with_reducible refine Kd.C_alloc ?_ _) | (with_reducible refine Kd.C_drewN ?_ _) | (with_reducible refine Kd.C_drew ?_)));(case side6 => exact (Kd.R_reads' HO1546.out).2.1);rintro e w24 ⟨v1553,rfl,ho0,hb⟩;refine ⟨_,rfl,?_⟩;have n0_ := Aside0.mk (Kd.R_below (by (with_reducible repeat (first | apply Kd.R_alloc | apply Kd.R_drewN | apply Kd.R_drew));exact HO_3.out) hb);have n1_ := Aside0.mk (Kd.R_below (by (with_reducible repeat (first | apply Kd.R_alloc | apply Kd.R_drewN | apply Kd.R_drew));exact HO_4.out) hb);have n2_ := Aside0.mk (Kd.R_below (by (with_reducible repeat (first | apply Kd.R_alloc | apply Kd.R_drewN | apply Kd.R_drew));exact HO_5.out) hb);have n3_ := Aside0.mk (Kd.R_elder' (by (with_reducible repeat (first | apply Kd.R_alloc | apply Kd.R_drewN | apply Kd.R_drew));exact HO_7.out) (Kd.R_base ho0) hb);have n4_ := Aside0.mk (Kd.R_below (by (with_reducible repeat (first | apply Kd.R_alloc | apply Kd.R_drewN | apply Kd.R_drew));exact HO1544.out) hb);have n5_ := Aside0.mk (Kd.R_below (by (with_reducible repeat (first | apply Kd.R_alloc | apply Kd.R_drewN | apply Kd.R_drew));exact HO1546.out) hb);have n6_ := Aside0.mk (Kd.R_elder' (by (with_reducible repeat (first | apply Kd.R_alloc | apply Kd.R_drewN | apply Kd.R_drew));exact HO1550.out) (Kd.R_base ho0) hb);have n7_ := Aside0.mk (Kd.R_lower (Kd.R_new' (Kd.R_new' ho0 (Kd.R_lt (by (with_reducible repeat (first | apply Kd.R_alloc | apply Kd.R_drewN | apply Kd.R_drew));exact HO_7.out))) (Kd.R_lt (by (with_reducible repeat (first | apply Kd.R_alloc | apply Kd.R_drewN | apply Kd.R_drew));exact HO1550.out))) (below_size (by repeat (first | (with_reducible first | exact HB.out | apply below_alloc | apply pw_below_drewN | apply below_drew1) | exact HB.out))));have n8_ := Aside0.mk (below_step (by repeat (first | (with_reducible first | exact HB.out | apply below_alloc | apply pw_below_drewN | apply below_drew1) | exact HB.out)) hb);clear HO_3;clear HO_4;clear HO_5;clear HO_7;clear HO1544;clear HO1546;clear HO1550;clear HB;have HO_3 := n0_;have HO_4 := n1_;have HO_5 := n2_;have HO_7 := n3_;have HO1544 := n4_;have HO1546 := n5_;have HO1550 := n6_;have HO1554 := n7_;have HB := n8_;clear n0_ n1_ n2_ n3_ n4_ n5_ n6_ n7_ n8_;(try clear hb);(try clear hb2);(try clear hk);(try clear hi);(try clear ho0)))
         (try simp only [Act.put,List.setIfInBounds_toArray,List.set_cons_zero,List.set_cons_succ])
         go_cut [81] (fun v81 wc => ∃ (kq : Nat) (x81_18 : Bool),v81 = .bool x81_18 ∧ Aside0 (laws_FnSiblings.j1 kq t1533 t1547 t1551 x81_18 = some r) ∧ Aside0 (kq ≤ kj6) ∧ Aside0 (Kd.R k41 41 wc w.heap.size (fun k_ => some k_ ≠ (v1549 : Value).ownBlock ∧ some k_ ≠ (v1553 : Value).ownBlock) v1535 t1533) ∧ Aside0 (Kd.R k41 41 wc w.heap.size (fun k_ => some k_ ≠ (v1535 : Value).ownBlock ∧ some k_ ≠ (v1553 : Value).ownBlock) v1549 t1547) ∧ Aside0 (Kd.R k41 41 wc w.heap.size (fun k_ => some k_ ≠ (v1535 : Value).ownBlock ∧ some k_ ≠ (v1549 : Value).ownBlock) v1553 t1551) ∧ Aside0 (Below w.heap.size w wc))
         case first =>
           have H := HC19.out
           clear HC19
           by_cases c25 : t1548 = true
           · subst c25
             have H1 : (laws_FnSiblings.j1 kj6 t1533 t1547 t1551 (!t1552)) = some r := by rw [if_pos rfl] at H;exact H
             clear H
             have H := H1
             clear H1
             have H' := Aside0.mk H
             clear H
             go_wp2
             go_meet
             case rel => exact ⟨_,(!t1552),(by first | rfl | (simp;done) | (simp [*];done)),H',⟨by have := HJ6.out;first | omega | exact Nat.le_refl _⟩,⟨by (with_reducible repeat (first | apply Kd.R_alloc | apply Kd.R_drewN | apply Kd.R_drew));exact Kd.R_mono HO_7.out (fun _ hk => ⟨hk.1.2,hk.2⟩)⟩,⟨by (with_reducible repeat (first | apply Kd.R_alloc | apply Kd.R_drewN | apply Kd.R_drew));exact Kd.R_mono HO1550.out (fun _ hk => ⟨hk.1.2,hk.2⟩)⟩,⟨by (with_reducible repeat (first | apply Kd.R_alloc | apply Kd.R_drewN | apply Kd.R_drew));exact Kd.R_mono HO1554.out (fun _ hk => ⟨hk.1.2,hk.2⟩)⟩,⟨by repeat (first | (with_reducible first | exact HB.out | apply below_alloc | apply pw_below_drewN | apply below_drew1) | exact HB.out)⟩⟩
           · replace c25 := Bool.eq_false_iff.mpr c25
             subst c25
             have H1 : (laws_FnSiblings.j1 kj6 t1533 t1547 t1551 true) = some r := by rw [if_neg (show ¬ (false = true) by decide)] at H;exact H
             clear H
             have H := H1
             clear H1
             have H' := Aside0.mk H
             clear H
             go_wp2
             go_meet
             case rel => exact ⟨_,(true),(by first | rfl | (simp;done) | (simp [*];done)),H',⟨by have := HJ6.out;first | omega | exact Nat.le_refl _⟩,⟨by (with_reducible repeat (first | apply Kd.R_alloc | apply Kd.R_drewN | apply Kd.R_drew));exact Kd.R_mono HO_7.out (fun _ hk => ⟨hk.1.2,hk.2⟩)⟩,⟨by (with_reducible repeat (first | apply Kd.R_alloc | apply Kd.R_drewN | apply Kd.R_drew));exact Kd.R_mono HO1550.out (fun _ hk => ⟨hk.1.2,hk.2⟩)⟩,⟨by (with_reducible repeat (first | apply Kd.R_alloc | apply Kd.R_drewN | apply Kd.R_drew));exact Kd.R_mono HO1554.out (fun _ hk => ⟨hk.1.2,hk.2⟩)⟩,⟨by repeat (first | (with_reducible first | exact HB.out | apply below_alloc | apply pw_below_drewN | apply below_drew1) | exact HB.out)⟩⟩
         case rest =>
           clear HC19
           try clear c1
           try clear c2
           try clear p2
           try clear c3
           try clear c6
           try clear c14
           try clear c14b0
           try clear c14b1
           try clear c14b2
           try clear c15
           try clear c22
           try clear c25
           try clear p2
           obtain ⟨kq,x81_18,rfl,HA,HJ18,HO_7,HO_13,HO_15,HB⟩ := hcut
           cases kq with
           | zero => exact absurd HA.out (by simp [laws_FnSiblings.j1])
           | succ kj18 =>
             have H := HA.out
             clear HA
             simp only [laws_FnSiblings.j1] at H
             by_cases c26 : x81_18 = true
             · subst c26
               have H1 : (some true) = some r := by rw [if_pos rfl] at H;exact H
               clear H
               have H := H1
               clear H1
               obtain rfl := Option.some.inj H
               go_wp2
               go_ret
               exact ⟨by first | rfl | (simp [errW_none,errW_some] <;> rfl) | (simp [*,errW_none,errW_some] <;> rfl),by repeat (first | (with_reducible first | exact HB.out | apply below_alloc | apply pw_below_drewN | apply below_drew1) | exact HB.out)⟩
             · replace c26 := Bool.eq_false_iff.mpr c26
               subst c26
               have H1 : ((impl_SubHist.f kj18 t1533 t1547).bind fun bt1555 => (if bt1555.2 = true then ((spec_SameHist.f kj18 bt1555.1 t1551).bind fun t1559 => (some t1559)) else (some false))) = some r := by rw [if_neg (show ¬ (false = true) by decide)] at H;exact H
               clear H
               have H := H1
               clear H1
               replace H := Option.bind_eq_some_iff.mp H
               obtain ⟨⟨t1555,t1556⟩,A270,H⟩ := H
               replace H : (if t1556 = true then ((spec_SameHist.f kj18 t1555 t1551).bind fun t1559 => (some t1559)) else (some false)) = some r := H
               have A27 := Aside0.mk A270
               clear A270
               by_cases c28 : t1556 = true
               · subst c28
                 have H1 : ((spec_SameHist.f kj18 t1555 t1551).bind fun t1559 => (some t1559)) = some r := by rw [if_pos rfl] at H;exact H
                 clear H
                 have H := H1
                 clear H1
                 replace H := Option.bind_eq_some_iff.mp H
                 obtain ⟨t1559,A290,H⟩ := H
                 replace H : (some t1559) = some r := H
                 have A29 := Aside0.mk A290
                 clear A290
                 obtain rfl := Option.some.inj H
                 obtain ⟨Ao30,co30,eo30⟩ := Kd.R_slice HO_7.out
                 subst eo30
                 obtain ⟨Ao31,co31,eo31⟩ := Kd.R_slice HO_13.out
                 subst eo31
                 go_wp2_with (first | ((with_reducible refine gate_callee (f := 68) rfl ?_);refine goesL_ (some 85) rfl rfl Try.func68 (by kernel_rfl) rfl #[.slice Ao30 t1533.length co30,.slice Ao31 t1547.length co31] rfl (by (try simp only [List.map_toArray,List.map_cons,List.map_nil]);first | done | rfl | (simp only [List.length_drop,List.length_take];rfl)) ?_;(with_reducible refine (impl_SubHist.calls kj18 _ _ t1533 _ _ t1547 t1555 true _ ?side1 ?side2 ?side3 ?side4 A27.out).mono ?_);(case side1 => repeat (first | exact (Kd.R_reads' HO_7.out).2.2 | (with_reducible refine Kd.C_alloc ?_ _) | (with_reducible refine Kd.C_drewN ?_ _) | (with_reducible refine Kd.C_drew ?_)));(case side2 => exact (Kd.R_reads' HO_7.out).2.1);(case side3 => repeat (first | exact (Kd.R_reads' HO_13.out).2.2 | (with_reducible refine Kd.C_alloc ?_ _) | (with_reducible refine Kd.C_drewN ?_ _) | (with_reducible refine Kd.C_drew ?_)));(case side4 => exact (Kd.R_reads' HO_13.out).2.1);rintro e w32 ⟨v1557,rfl,ho0,hb⟩;refine ⟨_,rfl,?_⟩;have n0_ := Aside0.mk (Kd.R_elder' (by (with_reducible repeat (first | apply Kd.R_alloc | apply Kd.R_drewN | apply Kd.R_drew));exact HO_7.out) (Kd.R_base ho0) hb);have n1_ := Aside0.mk (Kd.R_elder' (by (with_reducible repeat (first | apply Kd.R_alloc | apply Kd.R_drewN | apply Kd.R_drew));exact HO_13.out) (Kd.R_base ho0) hb);have n2_ := Aside0.mk (Kd.R_elder' (by (with_reducible repeat (first | apply Kd.R_alloc | apply Kd.R_drewN | apply Kd.R_drew));exact HO_15.out) (Kd.R_base ho0) hb);have n3_ := Aside0.mk (Kd.R_lower (Kd.R_new' (Kd.R_new' (Kd.R_new' ho0 (Kd.R_lt (by (with_reducible repeat (first | apply Kd.R_alloc | apply Kd.R_drewN | apply Kd.R_drew));exact HO_7.out))) (Kd.R_lt (by (with_reducible repeat (first | apply Kd.R_alloc | apply Kd.R_drewN | apply Kd.R_drew));exact HO_13.out))) (Kd.R_lt (by (with_reducible repeat (first | apply Kd.R_alloc | apply Kd.R_drewN | apply Kd.R_drew));exact HO_15.out))) (below_size (by repeat (first | (with_reducible first | exact HB.out | apply below_alloc | apply pw_below_drewN | apply below_drew1) | exact HB.out))));have n4_ := Aside0.mk (below_step (by repeat (first | (with_reducible first | exact HB.out | apply below_alloc | apply pw_below_drewN | apply below_drew1) | exact HB.out)) hb);clear HO_7;clear HO_13;clear HO_15;clear HB;have HO_7 := n0_;have HO_13 := n1_;have HO_15 := n2_;have HO1558 := n3_;have HB := n4_;clear n0_ n1_ n2_ n3_ n4_;(try clear hb);(try clear hb2);(try clear hk);(try clear hi);(try clear ho0);obtain ⟨Ao33,co33,eo33⟩ := Kd.R_slice HO1558.out;subst eo33;obtain ⟨Ao34,co34,eo34⟩ := Kd.R_slice HO_15.out;subst eo34) | (go_at_call 69;(with_reducible refine (spec_SameHist.calls kj18 _ _ t1555 _ _ t1551 t1559 _ ?side1 ?side2 ?side3 ?side4 A29.out).mono ?_);(case side1 => repeat (first | exact (Kd.R_reads' HO1558.out).2.2 | (with_reducible refine Kd.C_alloc ?_ _) | (with_reducible refine Kd.C_drewN ?_ _) | (with_reducible refine Kd.C_drew ?_)));(case side2 => exact (Kd.R_reads' HO1558.out).2.1);(case side3 => repeat (first | exact (Kd.R_reads' HO_15.out).2.2 | (with_reducible refine Kd.C_alloc ?_ _) | (with_reducible refine Kd.C_drewN ?_ _) | (with_reducible refine Kd.C_drew ?_)));(case side4 => exact (Kd.R_reads' HO_15.out).2.1);rintro e w' ⟨rfl,⟨nd,rfl⟩⟩))
                 go_ret
                 exact ⟨by first | rfl | (simp [errW_none,errW_some] <;> rfl) | (simp [*,errW_none,errW_some] <;> rfl),by repeat (first | (with_reducible first | exact HB.out | apply below_alloc | apply pw_below_drewN | apply below_drew1) | exact HB.out)⟩
               · replace c28 := Bool.eq_false_iff.mpr c28
                 subst c28
                 have H1 : (some false) = some r := by rw [if_neg (show ¬ (false = true) by decide)] at H;exact H
                 clear H
                 have H := H1
                 clear H1
                 exact absurd ((Option.some.inj H).trans HRT.out) (by decide)

/-- THE ONE PURE STATEMENT of laws_FnSiblings: yours. -/
def laws_FnSiblings.Pure : Prop := ∀ (l0 : List Int),l0.length ≤ maxLen → l0.length * 1 ≤ 140737488351232 → (∀ x ∈ l0,(Lit.int .u8 x).wf = true) → ∃ k,laws_FnSiblings.f k l0 = some true
theorem laws_FnSiblings.walk (P : laws_FnSiblings.Pure) (a0 : Option Addr) (len0 cap0 : Nat) (z0 : List Int) (w : World) (w0 : (a0 = none ∧ len0 = 0 ∧ cap0 = 0 ∧ z0 = []) ∨ ∃ x,a0 = some x ∧ len0 ≤ cap0 ∧ cap0 ≤ maxLen ∧ z0.length = cap0 ∧ (∀ i,i < z0.length → w.cell? (x.add i) = some (.int .u8 (z0.getD i 0))) ∧ ∀ n ∈ z0,(Lit.int .u8 n).wf = true) (y0 : len0 * 1 ≤ 140737488351232) :
   Calls Try.prog 14 #[.slice a0 len0 cap0] w fun e w' => e = .returned (.bool true) ∧ Below w.heap.size w w' := by
 obtain ⟨l0,rfl,hr0,hm0,hw0,hc0⟩ := ReadsInt.ofRowC w0
 obtain ⟨k,h⟩ := P l0 hm0 y0 hw0
 refine (laws_FnSiblings.calls k _ _ l0 true w (Kd.C_of_reads (d := (0 : Int)) (h1 := fun _ => rfl) hr0) hc0 h rfl).mono ?_
 rintro e w' ⟨rfl,hd⟩
 exact ⟨rfl,hd⟩

end Go.Proofs.Ytohngimlmcdiiaa.Q
