/- The machine side of FnExactGridOf: what each Go function that it reaches comes to. Conditions: none. -/
import Derived.Test.YtnidkpkfkklkaaaQFnExactGridOfx0
namespace Go.Proofs.Ytnidkpkfkklkaaa.QFnExactGridOf
open Go.RowKit Go.Proofs.YtnidkpkfkklkaaaW.PrintWords Go.Proofs.YtnidkpkfkklkaaaW.PrintLast Go.Proofs.YtnidkpkfkklkaaaW.PrintMore
attribute [local go_sem] max2_int min2_int max_two min_two max_three min_three max_four min_four   -- for this text's walks alone
set_option linter.unusedVariables false
set_option linter.unusedSimpArgs false

/-! ### spec_SortInts: function 39 -/
mutual
def spec_SortInts.l0 : Nat → List Int → List Int → Int → Option (List Int)
 | 0,_,_,_ => none
 | k + 1,x0,x3,x4 => if x4 < (x0.length : Int) then (spec_SortInts.l1 k x0 x3 x4 (x3.length : Int)) else (some x3)
def spec_SortInts.l1 : Nat → List Int → List Int → Int → Int → Option (List Int)
 | 0,_,_,_,_ => none
 | k + 1,x0,x3,x4,x5 => if x5 > 0 then (if 0 ≤ (wrap64 (x5 - 1)) then (if (wrap64 (x5 - 1)) < (x3.length : Int) then (if 0 ≤ x4 then (if x4 < (x0.length : Int) then (if (rd x3 (wrap64 (x5 - 1))) > (rd x0 x4) then (spec_SortInts.l1 k x0 x3 x4 (wrap64 (x5 - 1))) else ((some (([] : List Int) : List Int)).bind fun y150 => (if 0 ≤ x5 then (if x5 ≤ (x3.length : Int) then ((some (x3.take (x5 : Int).toNat : List Int)).bind fun y153 => (if y150.length + y153.length < 17592186044416 then ((some (y150 ++ y153 : List Int)).bind fun y157 => ((some (([rd x0 x4] : List Int) : List Int)).bind fun y161 => (if y157.length + y161.length < 17592186044416 then ((some (y157 ++ y161 : List Int)).bind fun y164 => ((some (x3.drop (x5 : Int).toNat : List Int)).bind fun y167 => (if y164.length + y167.length < 17592186044416 then (spec_SortInts.l0 k x0 (y164 ++ y167) (wrap64 (x4 + 1))) else (none)))) else (none)))) else (none))) else (none)) else (none)))) else (none)) else (none)) else (none)) else (none)) else ((some (([] : List Int) : List Int)).bind fun y174 => (if 0 ≤ x5 then (if x5 ≤ (x3.length : Int) then ((some (x3.take (x5 : Int).toNat : List Int)).bind fun y177 => (if y174.length + y177.length < 17592186044416 then ((some (y174 ++ y177 : List Int)).bind fun y181 => (if 0 ≤ x4 then (if x4 < (x0.length : Int) then ((some (([rd x0 x4] : List Int) : List Int)).bind fun y185 => (if y181.length + y185.length < 17592186044416 then ((some (y181 ++ y185 : List Int)).bind fun y188 => ((some (x3.drop (x5 : Int).toNat : List Int)).bind fun y191 => (if y188.length + y191.length < 17592186044416 then (spec_SortInts.l0 k x0 (y188 ++ y191) (wrap64 (x4 + 1))) else (none)))) else (none))) else (none)) else (none))) else (none))) else (none)) else (none)))
end
def spec_SortInts.f (k : Nat) (l0 : List Int) : Option (List Int) := spec_SortInts.l0 k l0 (([] : List Int)) 0
theorem spec_SortInts.mono_l : ∀ k,(∀ y0 y1 y2,LeO (spec_SortInts.l0 k y0 y1 y2) (spec_SortInts.l0 (k + 1) y0 y1 y2)) ∧ (∀ y0 y1 y2 y3,LeO (spec_SortInts.l1 k y0 y1 y2 y3) (spec_SortInts.l1 (k + 1) y0 y1 y2 y3))
 | 0 => ⟨fun _ _ _ r h => by simp [spec_SortInts.l0] at h,fun _ _ _ _ r h => by simp [spec_SortInts.l1] at h⟩
 | k + 1 => by
  obtain ⟨ih0,ih1⟩ := spec_SortInts.mono_l k
  refine ⟨?_,?_⟩
  ·intro y0 y1 y2
   unfold spec_SortInts.l0
   repeat' first
   | (with_reducible exact ih0 _ _ _)
   | (with_reducible exact ih1 _ _ _ _)
   | (with_reducible exact LeO.refl _)
   | (with_reducible exact LeO.none _)
   | (with_reducible refine LeO.ite ?_ ?_)
   | (with_reducible refine LeO.bind ?_ (fun _ => ?_))
   | exact ih0 _ _ _
   | exact ih1 _ _ _ _
   | exact LeO.none _
   | refine LeO.ite ?_ ?_
   | refine LeO.bind ?_ (fun _ => ?_)
  ·intro y0 y1 y2 y3
   unfold spec_SortInts.l1
   repeat' first
   | (with_reducible exact ih0 _ _ _)
   | (with_reducible exact ih1 _ _ _ _)
   | (with_reducible exact LeO.refl _)
   | (with_reducible exact LeO.none _)
   | (with_reducible refine LeO.ite ?_ ?_)
   | (with_reducible refine LeO.bind ?_ (fun _ => ?_))
   | exact ih0 _ _ _
   | exact ih1 _ _ _ _
   | exact LeO.none _
   | refine LeO.ite ?_ ?_
   | refine LeO.bind ?_ (fun _ => ?_)
theorem spec_SortInts.mono : ∀ a0 k,LeO (spec_SortInts.f k a0) (spec_SortInts.f (k + 1) a0) := by
 intro a0 k
 obtain ⟨ih0,ih1⟩ := spec_SortInts.mono_l k
 unfold spec_SortInts.f
 repeat' first
   | (with_reducible exact ih0 _ _ _)
   | (with_reducible exact ih1 _ _ _ _)
   | (with_reducible exact LeO.refl _)
   | (with_reducible exact LeO.none _)
   | (with_reducible refine LeO.ite ?_ ?_)
   | (with_reducible refine LeO.bind ?_ (fun _ => ?_))
   | exact ih0 _ _ _
   | exact ih1 _ _ _ _
   | exact LeO.none _
   | refine LeO.ite ?_ ?_
   | refine LeO.bind ?_ (fun _ => ?_)
def spec_SortInts.T6 : Bool × List (List Nat × List Nat) := (true,[([],[]),([0],[0]),([1],[1]),([2],[2]),([2],[2]),([4,2],[2,4]),([3,5,2],[2,3,5]),([6,2],[2,6]),([2],[2]),([2],[2]),([8,9,2],[2,8,9]),([10,2],[2,10]),([7,11,2],[2,7,11]),([2,12],[2,12])])
def spec_SortInts.B6 : List Nat := [0,1,3,7,7,23,63,127,7,7,775,1799,4095,8191]
theorem spec_SortInts.tab6 : rtab .any (opsOf Try.f39 6) = spec_SortInts.T6 := by kernel_rfl
theorem spec_SortInts.bits6 : waitsOk spec_SortInts.T6.2 spec_SortInts.B6 = true := by kernel_rfl
def spec_SortInts.T8 : Bool × List (List Nat × List Nat) := (true,[([],[]),([],[]),([],[]),([1,2],[1,2]),([0,3],[0,3]),([],[]),([],[]),([5,6],[5,6]),([7],[7]),([8],[8]),([4,9,4],[4,9]),([10,10,0,1,2,3,4,5,6,7,8,9,10],[10])])
def spec_SortInts.B8 : List Nat := [0,0,0,6,15,0,0,96,224,480,1023,2047]
theorem spec_SortInts.tab8 : rtab .any (opsOf Try.f39 8) = spec_SortInts.T8 := by kernel_rfl
theorem spec_SortInts.bits8 : waitsOk spec_SortInts.T8.2 spec_SortInts.B8 = true := by kernel_rfl
set_option maxHeartbeats 8000000 in
set_option maxRecDepth 100000 in
theorem spec_SortInts.calls (k : Nat) (A0 : Option Addr) (c0 : Nat) (l0 : List Int) (r : List Int) (w : World) (hr0 : Kd.C (Kd.int .i64) w A0 l0.length l0) (hc0 : l0.length ≤ c0) (h : spec_SortInts.f k l0 = some r) :
  Calls Try.prog 39 #[.slice A0 l0.length c0] w fun e w' => ∃ v0_ : Value,e = .returned (v0_) ∧ Kd.R (Kd.int .i64) 3 w' w.heap.size (fun _ => True) v0_ r ∧ Below w.heap.size w w' := by
 have HR0 := Aside0.mk hr0
 have HC0 := Aside0.mk hc0
 clear hr0 hc0
 have HB := Aside0.mk (Below.refl w.heap.size w)
 have H := h
 clear h
 unfold spec_SortInts.f at H
 obtain ⟨y145,hyy⟩ : ∃ y_ : List Int,y_ = (([] : List Int)) := ⟨_,rfl⟩
 replace H : (spec_SortInts.l0 k l0 y145 0) = some r := zR
 have Ny145 := Aside0.mk hyy
 clear hyy
 have H' := Aside0.mk H
 clear H
 go_enter Try.func39,Try.ntmps39
 go_wp2_with (first | ((with_reducible refine gate_dst (N := 7) rfl ?_);refine Kd.R_lit (Kd.int .i64) _ 3 ?hg (N := 7) ?hd (xs := ([] : List Int)) (inner := []) (ok := fun _ => True) (okp := fun _ => True) ?hr ?hp (fun _ hk => hk) trivial (Below.refl _ _) (Nat.le_refl _) Z294 ?_;(case hd => rfl);(case hg => rfl);(case hr => exact Z219);(case hp => exact Z232);intro v146 w2 ho3 hb hg_ hnew_;clear hg_ hnew_;(first | rw [← Ny145.out] at ho3 | (simp only [Int.reduceToNat] at ho3;rw [← Ny145.out] at ho3));have n_ := jA (Kd.R_lower ho3 (below_size Z297)) (Aside0.mk (below_step Z297 hb));clear HB;obtain ⟨HO147,HB⟩ := n_;clear hb ho3))
 go_loopg [3,4] k (fun kq v3 v4 w' => ∃ (x3_1 : List Int) (x4_1 : Int),v4 = .int .i64 x4_1 ∧ Aside0 (spec_SortInts.l0 kq l0 x3_1 x4_1 = some r) ∧ Aside0 (kq ≤ k) ∧ Aside0 (Kd.R (Kd.int .i64) 3 w' w.heap.size (fun _ => True) v3 x3_1) ∧ Aside0 (Below w.heap.size w w'))
 case atStart => exact ⟨(y145),(0),Z218,H',⟨Nat.le_refl _⟩,⟨by (with_reducible repeat (first | apply Kd.R_alloc | apply Kd.R_drewN | apply Kd.R_drew));exact HO147.out⟩,⟨Z297⟩⟩
 case round =>
  clear H'
  try clear p2
  try clear c3
  obtain ⟨x3_1,x4_1,rfl,HA,HK1,HO_3,HB⟩ := hrel
  cases gk with
  | zero => exact absurd HA.out (by simp [spec_SortInts.l0])
  | succ k1 =>
   have H := HA.out
   clear HA
   simp only [spec_SortInts.l0] at H
   by_cases c4 : x4_1 < (l0.length : Int)
   rotate_left
   ·rw [if_neg c4] at H
    have c4b0 : decide (x4_1 < (l0.length : Int)) = false := decide_eq_false c4
    clear c4
    obtain rfl := Option.some.inj H
    go_wp2
    go_ret
    exact ⟨_,Z207,Z273,Z297⟩
   rw [if_pos c4] at H
   have c4b0 : decide (x4_1 < (l0.length : Int)) = true := decide_eq_true c4
   clear c4
   have H' := Aside0.mk H
   clear H
   obtain ⟨Ao5,co5,eo5⟩ := Kd.R_slice HO_3.out
   subst eo5
   go_wp2
   go_loopg [5] k1 (fun kq v5 w' => ∃ (x5_2 : Int),v5 = .int .i64 x5_2 ∧ Aside0 (spec_SortInts.l1 kq l0 x3_1 x4_1 x5_2 = some r) ∧ Aside0 (kq ≤ k1) ∧ Aside0 (Kd.R (Kd.int .i64) 3 w' w.heap.size (fun _ => True) (.slice Ao5 x3_1.length co5) x3_1) ∧ Aside0 (Below w.heap.size w w'))
   case atStart => exact ⟨((x3_1.length : Int)),Z218,H',⟨Nat.le_refl _⟩,⟨Z273⟩,⟨Z297⟩⟩
   case round =>
    clear H'
    try clear p2
    try clear c3
    try clear c4
    try clear c4b0
    try clear p2
    obtain ⟨x5_2,rfl,HA,HK2,HO_3,HB⟩ := hrel
    cases gk with
    | zero => exact absurd HA.out (by simp [spec_SortInts.l1])
    | succ k2 =>
     have H := HA.out
     clear HA
     simp only [spec_SortInts.l1] at H
     by_cases c6 : x5_2 > 0
     rotate_left
     ·rw [if_neg c6] at H
      have c6b0 : decide (0 < x5_2) = false := decide_eq_false c6
      clear c6
      obtain ⟨y174,hyy⟩ : ∃ y_ : List Int,y_ = (([] : List Int)) := ⟨_,rfl⟩
      replace H : (if 0 ≤ x5_2 then (if x5_2 ≤ (x3_1.length : Int) then ((some (x3_1.take (x5_2 : Int).toNat : List Int)).bind fun y177 => (if y174.length + y177.length < 17592186044416 then ((some (y174 ++ y177 : List Int)).bind fun y181 => (if 0 ≤ x4_1 then (if x4_1 < (l0.length : Int) then ((some (([rd l0 x4_1] : List Int) : List Int)).bind fun y185 => (if y181.length + y185.length < 17592186044416 then ((some (y181 ++ y185 : List Int)).bind fun y188 => ((some (x3_1.drop (x5_2 : Int).toNat : List Int)).bind fun y191 => (if y188.length + y191.length < 17592186044416 then (spec_SortInts.l0 k2 l0 (y188 ++ y191) (wrap64 (x4_1 + 1))) else (none)))) else (none))) else (none)) else (none))) else (none))) else (none)) else (none)) = some r := zR
      have Ny174 := Aside0.mk hyy
      clear hyy
      obtain ⟨c34,H⟩ := ifp H
      have c34b0 := eq_true c34
      have c34b1 : decide (0 ≤ x5_2) = true := decide_eq_true c34
      clear c34
      obtain ⟨c35,H⟩ := ifp H
      have c35b0 := eq_true c35
      have c35b1 : decide (x5_2 ≤ (x3_1.length : Int)) = true := decide_eq_true c35
      clear c35
      obtain ⟨y177,hyy⟩ : ∃ y_ : List Int,y_ = (x3_1.take (x5_2 : Int).toNat) := ⟨_,rfl⟩
      replace H : (if y174.length + y177.length < 17592186044416 then ((some (y174 ++ y177 : List Int)).bind fun y181 => (if 0 ≤ x4_1 then (if x4_1 < (l0.length : Int) then ((some (([rd l0 x4_1] : List Int) : List Int)).bind fun y185 => (if y181.length + y185.length < 17592186044416 then ((some (y181 ++ y185 : List Int)).bind fun y188 => ((some (x3_1.drop (x5_2 : Int).toNat : List Int)).bind fun y191 => (if y188.length + y191.length < 17592186044416 then (spec_SortInts.l0 k2 l0 (y188 ++ y191) (wrap64 (x4_1 + 1))) else (none)))) else (none))) else (none)) else (none))) else (none)) = some r := zR
      have Ny177 := Aside0.mk hyy
      clear hyy
      obtain ⟨c36,H⟩ := ifp H
      have LMc36 := Aside0.mk c36
      clear c36
      obtain ⟨y181,hyy⟩ : ∃ y_ : List Int,y_ = (y174 ++ y177) := ⟨_,rfl⟩
      replace H : (if 0 ≤ x4_1 then (if x4_1 < (l0.length : Int) then ((some (([rd l0 x4_1] : List Int) : List Int)).bind fun y185 => (if y181.length + y185.length < 17592186044416 then ((some (y181 ++ y185 : List Int)).bind fun y188 => ((some (x3_1.drop (x5_2 : Int).toNat : List Int)).bind fun y191 => (if y188.length + y191.length < 17592186044416 then (spec_SortInts.l0 k2 l0 (y188 ++ y191) (wrap64 (x4_1 + 1))) else (none)))) else (none))) else (none)) else (none)) = some r := zR
      have Ny181 := Aside0.mk hyy
      clear hyy
      obtain ⟨c37,H⟩ := ifp H
      have c37b0 : decide (0 ≤ x4_1) = true := decide_eq_true c37
      clear c37
      obtain ⟨c38,H⟩ := ifp H
      have c38b0 : decide (x4_1 < (l0.length : Int)) = true := decide_eq_true c38
      clear c38
      obtain ⟨y185,hyy⟩ : ∃ y_ : List Int,y_ = (([rd l0 x4_1] : List Int)) := ⟨_,rfl⟩
      replace H : (if y181.length + y185.length < 17592186044416 then ((some (y181 ++ y185 : List Int)).bind fun y188 => ((some (x3_1.drop (x5_2 : Int).toNat : List Int)).bind fun y191 => (if y188.length + y191.length < 17592186044416 then (spec_SortInts.l0 k2 l0 (y188 ++ y191) (wrap64 (x4_1 + 1))) else (none)))) else (none)) = some r := zR
      have Ny185 := Aside0.mk hyy
      clear hyy
      obtain ⟨c39,H⟩ := ifp H
      have LMc39 := Aside0.mk c39
      clear c39
      obtain ⟨y188,hyy⟩ : ∃ y_ : List Int,y_ = (y181 ++ y185) := ⟨_,rfl⟩
      replace H : ((some (x3_1.drop (x5_2 : Int).toNat : List Int)).bind fun y191 => (if y188.length + y191.length < 17592186044416 then (spec_SortInts.l0 k2 l0 (y188 ++ y191) (wrap64 (x4_1 + 1))) else (none))) = some r := zR
      have Ny188 := Aside0.mk hyy
      clear hyy
      have c40b0 := eq_true (of_decide_eq_true Z217 : 0 ≤ x5_2)
      have c41b0 := eq_true (of_decide_eq_true Z217 : x5_2 ≤ (x3_1.length : Int))
      obtain ⟨y191,hyy⟩ : ∃ y_ : List Int,y_ = (x3_1.drop (x5_2 : Int).toNat) := ⟨_,rfl⟩
      replace H : (if y188.length + y191.length < 17592186044416 then (spec_SortInts.l0 k2 l0 (y188 ++ y191) (wrap64 (x4_1 + 1))) else (none)) = some r := zR
      have Ny191 := Aside0.mk hyy
      clear hyy
      obtain ⟨c42,H⟩ := ifp H
      have LMc42 := Aside0.mk c42
      clear c42
      obtain ⟨y195,hyy⟩ : ∃ y_ : List Int,y_ = (y188 ++ y191) := ⟨_,rfl⟩
      replace H : (spec_SortInts.l0 k2 l0 y195 (wrap64 (x4_1 + 1))) = some r := zR
      have Ny195 := Aside0.mk hyy
      clear hyy
      have H' := Aside0.mk H
      clear H
      try go_wp2
      have n_ := jA (Kd.R_drew HO_3.out) (Aside0.mk (below_drew1 HB.out))
      clear HO_3 HB
      obtain ⟨HO_3,HB⟩ := n_
      refine start_ (n := 14) (S := fun w' => True) (ds := []) (qM 14 0) Z236 rfl (by kernel_rfl) trivial (fun hHeld => ?_);refine with_tabW spec_SortInts.tab6 spec_SortInts.bits6 (fun HT_ HW_ => ?_)
      generalize wr.drew = w43 at HO_3 HB hHeld ⊢
      refine rP 0 16 14 1 HT_ (h := ?_)
      refine rP 1 17 14 3 HT_ (h := ?_)
      refine rP 2 18 14 7 HT_ (h := ?_)
      refine rU 3 19 14 15 HT_ (h := ?_)
      refine rU 4 20 14 31 HT_ (h := ?_)
      refine rU 5 21 14 63 HT_ (h := ?_)
      refine rU 6 22 14 127 HT_ (h := ?_)
      refine rU 7 23 14 255 HT_ (h := ?_)
      refine rU 8 24 14 511 HT_ (h := ?_)
      refine rU 9 25 14 1023 HT_ (h := ?_)
      refine rU 10 26 14 2047 HT_ (h := ?_)
      refine rU 11 27 14 4095 HT_ (h := ?_)
      refine rU 12 28 14 8191 HT_ (h := ?_)
      refine rP 13 29 14 16383 HT_ (h := ?_)
      refine done_ (done_of HT_.out Z236) ?_
      try go_wp2
      have n_ := jA (Kd.R_drew HO_3.out) (Aside0.mk (below_drew1 HB.out))
      clear HO_3 HB
      obtain ⟨HO_3,HB⟩ := n_
      have q45 : (x5_2 : Int) ≤ ((x3_1.length : Int) : Int) := of_decide_eq_true Z217
      obtain ⟨i045,hi045,_,hsz45,_⟩ := info_parts info3
      have hroom45 : x3_1.length ≤ co5 := (Kd.R_reads' HO_3.out).2.1
      have hC45 : Kd.C (Kd.int .i64) _ Ao5 x3_1.length x3_1 := (Kd.R_reads' HO_3.out).2.2
      have hcut45 := cut_to (P := Try.prog) 24 3 .i64 Try.underlying24 hi045 Ao5 x3_1.length co5 x5_2 (of_decide_eq_true Z217) q45 hroom45
      have hr45 := Kd.C_take (m := (x5_2 : Int).toNat) hC45 Z237
      have hy45 : y177.length = (x5_2 : Int).toNat := (by rw [Ny177.out,List.length_take];omega)
      rw [← Ny177.out] at hr45
      rw [← hy45] at hcut45
      have HR180 := Aside0.mk hr45
      have HC180 := Aside0.mk (show y177.length ≤ co5 from Z237)
      clear hr45 hC45 hroom45 hi045 hsz45
      have KY45 := Aside0.mk hy45
      clear hy45
      have KL45 := Aside0.mk (show (x5_2 : Int).toNat ≤ x3_1.length from Z237)
      replace q45 := eq_true q45
      have p184 : 0 ≤ (x4_1 : Int) := of_decide_eq_true Z217
      have q184 : x4_1 < (l0.length : Int) := of_decide_eq_true Z217
      obtain ⟨ad184,e184,hx184_0⟩ := Kd.at_int HR0.out x4_1 p184 q184
      have hw184_0 := hx184_0
      cases e184
      replace hx184_0 := (HB.out.cell (World.block_lt_of_cell? w _ hx184_0)).trans hx184_0
      replace p184 := eq_true p184
      replace q184 := eq_true q184
      refine start_ (n := 12) (S := fun w' => w'.cell? (ad184.add (x4_1).toNat) = some (.int .i64 (rd l0 x4_1))) (ds := []) (qM 12 0) Z236 rfl (by kernel_rfl) (((HB.out.cell (World.block_lt_of_cell? w _ hw184_0)).trans hw184_0)) (fun hHeld => ?_);refine with_tabW spec_SortInts.tab8 spec_SortInts.bits8 (fun HT_ HW_ => ?_)
      generalize w43.drew = w44 at HO_3 HB HR180 hx184_0 hHeld ⊢
      refine rP 1 33 12 2 HT_ (h := ?_)
      refine rP 2 34 12 6 HT_ (h := ?_)
      refine rP 3 35 12 14 HT_ (h := ?_)
      refine rP 5 37 12 46 HT_ (h := ?_)
      refine rP 6 38 12 110 HT_ (h := ?_)
      refine rP 7 39 12 238 HT_ (h := ?_)
      refine take_ (i := 8) (N := some 40) (v := ?_) (a' := ?_) (qM 12 494) rfl rfl (take_ofW HT_.out HW_.out Z236) (fun _ _ _ h => h) (Or.inl ⟨Z238,?_⟩) hHeld ?_ ?_
      rotate_left
      ·intro w' s0
       go_simp
       with_reducible rfl
      rotate_left
      ·simp only [Act.put,List.setIfInBounds_toArray,List.set_cons_zero,List.set_cons_succ,i64_w,i32_w]
       rfl
      refine join_ (σ := Value × Value × Value) 2 (qM 12 1023) (fun s_ => [(32,s_.1),(36,s_.2.1),(41,s_.2.2)]) (fun s_ w' => (w'.cell? (ad184.add (x4_1).toNat) = some (.int .i64 (rd l0 x4_1))) ∧ (Kd.R (Kd.int .i64) 3 w' w.heap.size (fun k_ => some k_ ≠ (s_.2.2 : Value).ownBlock ∧ some k_ ≠ (.slice Ao5 x3_1.length co5 : Value).ownBlock) s_.2.1 y181) ∧ (Kd.R (Kd.int .i64) 3 w' w.heap.size (fun k_ => some k_ ≠ (s_.2.1 : Value).ownBlock ∧ some k_ ≠ (.slice Ao5 x3_1.length co5 : Value).ownBlock) s_.2.2 y185) ∧ (Kd.R (Kd.int .i64) 3 w' w.heap.size (fun k_ => some k_ ≠ (s_.2.1 : Value).ownBlock ∧ some k_ ≠ (s_.2.2 : Value).ownBlock) (.slice Ao5 x3_1.length co5) x3_1) ∧ (Below w.heap.size w w')) ?_ ?_
      rotate_left
      ·intro hCont
       refine two_ (i := 0) (j := 9) (Ni := some 32) (Nj := some 41) (qM 12 495) (qM 12 1006) rfl rfl rfl rfl (two_of HT_.out Z236) Z293 Z293 (fun K hK => ?_) (fun K hK => ?_)
       ·skip
        refine Kd.R_lit_step (Kd.int .i64) _ 3 ?hg (N := 32) ?hd (xs := ([] : List Int)) (inner := []) (ok := fun _ => True) (okp := fun _ => True) ?hr ?hp (fun _ hk => hk) trivial (Below.refl _ _) (Nat.le_refl _) Z294 ?_;(case hd => rfl);(case hg => rfl);(case hr => exact Z219);(case hp => exact Z232)
        intro v175 w46 ho47 hb hg_ hnew_
        clear hg_ hnew_
        (first | rw [← Ny174.out] at ho47 | (simp only [Int.reduceToNat] at ho47;rw [← Ny174.out] at ho47))
        have n_ := jA (Kd.R_elder' Z273 (Kd.R_base ho47) hb) (jA (Kd.R_lower (Kd.R_new' ho47 (Kd.R_lt Z273)) (below_size Z297)) (jA (Kd.C_below Z251 hb) (Aside0.mk (below_step Z297 hb))))
        clear HO_3 HR180 HB
        obtain ⟨HO_3,HO176,HR180,HB⟩ := n_
        clear hb ho47
        refine hK.out _ _ (((HB.out.cell (World.block_lt_of_cell? w _ hw184_0)).trans hw184_0)) (fun hHeld => ?_)
        clear hK K
        refine rN (h := ?_)
        refine two_ (i := 4) (j := 9) (Ni := some 36) (Nj := some 41) (qM 12 511) (qM 12 1007) rfl rfl rfl rfl (two_of HT_.out Z236) Z293 Z293 (fun K hK => ?_) (fun K hK => ?_)
        ·skip
         refine Kd.R_append_rows_step (Kd.int .i64) (w0 := w) w.heap.size Z238 (.tmp 32) (.tmp 35) 24 3 (.int .i64 0) 8 rfl Try.underlying24 info3 rfl Z293 Z237 v175 y174 y177 _ _ _ (fun k_ => some k_ ≠ (.slice Ao5 x3_1.length co5 : Value).ownBlock) (fun _ => False) rfl rfl ?aO ?aR (fun _ _ h => h) (fun _ h => h.elim) ?aF ?aB ?aS ?aL ?_
         (case aR => exact Z40)
         (case aB => exact Z138)
         (case aF => exact Z131)
         (case aO => exact (by (with_reducible repeat (first | apply Kd.R_alloc | apply Kd.R_drewN | apply Kd.R_drew));exact Kd.R_mono HO176.out (fun _ hk => hk.2)))
         (case aS => exact Z124)
         (case aL => have := LMc36.out;omega)
         intro v182 w48 ho hb hg hat
         rw [← Ny181.out] at ho
         have n_ := jA (Kd.R_after (ok := (fun _ => True)) Z273 hg hat) (jA (hb) (jA ((show Kd.C (Kd.int .i64) w48 Ao5 y177.length y177 from by rw [Ny177.out];exact Kd.C_take (m := (x5_2 : Int).toNat) ((Kd.R_reads' (Kd.R_after (ok := (fun _ => True)) Z273 hg hat)).2.2) KL45.out)) (Aside0.mk (ho))))
         clear HO_3 HB HR180 HO176
         obtain ⟨HO_3,HB,HR180,HO183⟩ := n_
         clear ho hb hg hat
         refine hK.out _ _ (((HB.out.cell (World.block_lt_of_cell? w _ hw184_0)).trans hw184_0)) (fun hHeld => ?_)
         clear hK K
         refine rN (h := ?_)
         refine rO 9 41 12 1023 HT_ (h := fun K hK => ?_)
         refine Kd.R_lit_step (Kd.int .i64) _ 3 ?hg (N := 41) ?hd (xs := ([rd l0 x4_1] : List Int)) (inner := [.int .i64 (rd l0 x4_1)]) (ok := fun _ => True) (okp := fun _ => True) ?hr ?hp (fun _ hk => hk) trivial (Below.refl _ _) (Nat.le_refl _) Z294 ?_;(case hd => rfl);(case hg => rfl);(case hr => exact Z219);(case hp => exact Z157)
         intro v186 w49 ho50 hb hg_ hnew_
         clear hg_ hnew_
         (first | rw [← Ny185.out] at ho50 | (simp only [Int.reduceToNat] at ho50;rw [← Ny185.out] at ho50))
         have n_ := jA (Kd.R_elder' Z273 (Kd.R_base ho50) hb) (jA (Kd.R_elder' Z176 (Kd.R_base ho50) hb) (jA (Kd.R_lower (Kd.R_new' (Kd.R_new' ho50 (Kd.R_lt Z273)) (Kd.R_lt Z176)) (below_size Z297)) (jA (Kd.C_below Z251 hb) (Aside0.mk (below_step Z297 hb)))))
         clear HO_3 HO183 HR180 HB
         obtain ⟨HO_3,HO183,HO187,HR180,HB⟩ := n_
         clear hb ho50
         refine hK.out _ _ (((HB.out.cell (World.block_lt_of_cell? w _ hw184_0)).trans hw184_0)) (fun hHeld => ?_)
         clear hK K
         refine rN (h := ?_)
         exact norm_ Z208 (hCont (v175,v182,v186) _ ⟨hHeld,Z139,(by (with_reducible repeat (first | apply Kd.R_alloc | apply Kd.R_drewN | apply Kd.R_drew));exact Kd.R_mono HO187.out (fun _ hk => ⟨hk.2,hk.1.2⟩)),Z135,Z297⟩)
        skip
        refine Kd.R_lit_step (Kd.int .i64) _ 3 ?hg (N := 41) ?hd (xs := ([rd l0 x4_1] : List Int)) (inner := [.int .i64 (rd l0 x4_1)]) (ok := fun _ => True) (okp := fun _ => True) ?hr ?hp (fun _ hk => hk) trivial (Below.refl _ _) (Nat.le_refl _) Z294 ?_;(case hd => rfl);(case hg => rfl);(case hr => exact Z219);(case hp => exact Z157)
        intro v186 w48 ho49 hb hg_ hnew_
        clear hg_ hnew_
        (first | rw [← Ny185.out] at ho49 | (simp only [Int.reduceToNat] at ho49;rw [← Ny185.out] at ho49))
        have n_ := jA (Kd.R_elder' Z273 (Kd.R_base ho49) hb) (jA (Kd.R_elder' Z177 (Kd.R_base ho49) hb) (jA (Kd.R_lower (Kd.R_new' (Kd.R_new' ho49 (Kd.R_lt Z273)) (Kd.R_lt Z177)) (below_size Z297)) (jA (Kd.C_below Z251 hb) (Aside0.mk (below_step Z297 hb)))))
        clear HO_3 HO176 HR180 HB
        obtain ⟨HO_3,HO176,HO187,HR180,HB⟩ := n_
        clear hb ho49
        refine hK.out _ _ (((HB.out.cell (World.block_lt_of_cell? w _ hw184_0)).trans hw184_0)) (fun hHeld => ?_)
        clear hK K
        refine rN (h := ?_)
        refine rO 4 36 12 1023 HT_ (h := fun K hK => ?_)
        refine Kd.R_append_rows_step (Kd.int .i64) (w0 := w) w.heap.size Z238 (.tmp 32) (.tmp 35) 24 3 (.int .i64 0) 8 rfl Try.underlying24 info3 rfl Z293 Z237 v175 y174 y177 _ _ _ (fun k_ => some k_ ≠ (.slice Ao5 x3_1.length co5 : Value).ownBlock ∧ some k_ ≠ (v186 : Value).ownBlock) (fun _ => False) rfl rfl ?aO ?aR (fun _ _ h => h) (fun _ h => h.elim) ?aF ?aB ?aS ?aL ?_
        (case aR => exact Z40)
        (case aB => exact Z138)
        (case aF => exact Z61)
        (case aO => exact Z125)
        (case aS => exact Z124)
        (case aL => have := LMc36.out;omega)
        intro v182 w50 ho hb hg hat
        rw [← Ny181.out] at ho
        have n_ := jA (Kd.R_after (ok := (fun k_ => some k_ ≠ (v186 : Value).ownBlock)) Z137 hg hat) (jA (Kd.R_after (ok := (fun k_ => some k_ ≠ (.slice Ao5 x3_1.length co5 : Value).ownBlock)) Z133 hg hat) (jA (hb) (jA ((show Kd.C (Kd.int .i64) w50 Ao5 y177.length y177 from by rw [Ny177.out];exact Kd.C_take (m := (x5_2 : Int).toNat) ((Kd.R_reads' (Kd.R_after (ok := (fun k_ => some k_ ≠ (v186 : Value).ownBlock)) Z137 hg hat)).2.2) KL45.out)) (Aside0.mk (ho)))))
        clear HO_3 HO187 HB HR180 HO176
        obtain ⟨HO_3,HO187,HB,HR180,HO183⟩ := n_
        clear ho hb hg hat
        refine hK.out _ _ (((HB.out.cell (World.block_lt_of_cell? w _ hw184_0)).trans hw184_0)) (fun hHeld => ?_)
        clear hK K
        refine rN (h := ?_)
        exact norm_ Z208 (hCont (v175,v182,v186) _ ⟨hHeld,Z139,Z141,Z143,Z297⟩)
       skip
       refine Kd.R_lit_step (Kd.int .i64) _ 3 ?hg (N := 41) ?hd (xs := ([rd l0 x4_1] : List Int)) (inner := [.int .i64 (rd l0 x4_1)]) (ok := fun _ => True) (okp := fun _ => True) ?hr ?hp (fun _ hk => hk) trivial (Below.refl _ _) (Nat.le_refl _) Z294 ?_;(case hd => rfl);(case hg => rfl);(case hr => exact Z219);(case hp => exact Z157)
       intro v186 w46 ho47 hb hg_ hnew_
       clear hg_ hnew_
       (first | rw [← Ny185.out] at ho47 | (simp only [Int.reduceToNat] at ho47;rw [← Ny185.out] at ho47))
       have n_ := jA (Kd.R_elder' Z273 (Kd.R_base ho47) hb) (jA (Kd.R_lower (Kd.R_new' ho47 (Kd.R_lt Z273)) (below_size Z297)) (jA (Kd.C_below Z251 hb) (Aside0.mk (below_step Z297 hb))))
       clear HO_3 HR180 HB
       obtain ⟨HO_3,HO187,HR180,HB⟩ := n_
       clear hb ho47
       refine hK.out _ _ (((HB.out.cell (World.block_lt_of_cell? w _ hw184_0)).trans hw184_0)) (fun hHeld => ?_)
       clear hK K
       refine rN (h := ?_)
       refine rO 0 32 12 1007 HT_ (h := fun K hK => ?_)
       refine Kd.R_lit_step (Kd.int .i64) _ 3 ?hg (N := 32) ?hd (xs := ([] : List Int)) (inner := []) (ok := fun _ => True) (okp := fun _ => True) ?hr ?hp (fun _ hk => hk) trivial (Below.refl _ _) (Nat.le_refl _) Z294 ?_;(case hd => rfl);(case hg => rfl);(case hr => exact Z219);(case hp => exact Z232)
       intro v175 w48 ho49 hb hg_ hnew_
       clear hg_ hnew_
       (first | rw [← Ny174.out] at ho49 | (simp only [Int.reduceToNat] at ho49;rw [← Ny174.out] at ho49))
       have n_ := jA (Kd.R_elder' Z273 (Kd.R_base ho49) hb) (jA (Kd.R_elder' Z269 (Kd.R_base ho49) hb) (jA (Kd.R_lower (Kd.R_new' (Kd.R_new' ho49 (Kd.R_lt Z273)) (Kd.R_lt Z269)) (below_size Z297)) (jA (Kd.C_below Z251 hb) (Aside0.mk (below_step Z297 hb)))))
       clear HO_3 HO187 HR180 HB
       obtain ⟨HO_3,HO187,HO176,HR180,HB⟩ := n_
       clear hb ho49
       refine hK.out _ _ (((HB.out.cell (World.block_lt_of_cell? w _ hw184_0)).trans hw184_0)) (fun hHeld => ?_)
       clear hK K
       refine rN (h := ?_)
       refine rO 4 36 12 1023 HT_ (h := fun K hK => ?_)
       refine Kd.R_append_rows_step (Kd.int .i64) (w0 := w) w.heap.size Z238 (.tmp 32) (.tmp 35) 24 3 (.int .i64 0) 8 rfl Try.underlying24 info3 rfl Z293 Z237 v175 y174 y177 _ _ _ (fun k_ => some k_ ≠ (.slice Ao5 x3_1.length co5 : Value).ownBlock ∧ some k_ ≠ (v186 : Value).ownBlock) (fun _ => False) rfl rfl ?aO ?aR (fun _ _ h => h) (fun _ h => h.elim) ?aF ?aB ?aS ?aL ?_
       (case aR => exact Z40)
       (case aB => exact Z138)
       (case aF => exact Z61)
       (case aO => exact Z125)
       (case aS => exact Z124)
       (case aL => have := LMc36.out;omega)
       intro v182 w50 ho hb hg hat
       rw [← Ny181.out] at ho
       have n_ := jA (Kd.R_after (ok := (fun k_ => some k_ ≠ (v186 : Value).ownBlock)) Z135 hg hat) (jA (Kd.R_after (ok := (fun k_ => some k_ ≠ (.slice Ao5 x3_1.length co5 : Value).ownBlock)) Z133 hg hat) (jA (hb) (jA ((show Kd.C (Kd.int .i64) w50 Ao5 y177.length y177 from by rw [Ny177.out];exact Kd.C_take (m := (x5_2 : Int).toNat) ((Kd.R_reads' (Kd.R_after (ok := (fun k_ => some k_ ≠ (v186 : Value).ownBlock)) Z135 hg hat)).2.2) KL45.out)) (Aside0.mk (ho)))))
       clear HO_3 HO187 HB HR180 HO176
       obtain ⟨HO_3,HO187,HB,HR180,HO183⟩ := n_
       clear ho hb hg hat
       refine hK.out _ _ (((HB.out.cell (World.block_lt_of_cell? w _ hw184_0)).trans hw184_0)) (fun hHeld => ?_)
       clear hK K
       refine rN (h := ?_)
       exact norm_ Z208 (hCont (v175,v182,v186) _ ⟨hHeld,Z139,Z141,Z143,Z297⟩)
      rintro ⟨v175,v182,v186⟩ w51 ⟨hS_,h0_,h1_,h2_,h3_⟩
      have n0_ : Aside0 (Kd.R (Kd.int .i64) 3 w51 w.heap.size (fun k_ => some k_ ≠ (v186 : Value).ownBlock ∧ some k_ ≠ (.slice Ao5 x3_1.length co5 : Value).ownBlock) v182 y181) := ⟨h0_⟩
      have n1_ : Aside0 (Kd.R (Kd.int .i64) 3 w51 w.heap.size (fun k_ => some k_ ≠ (v182 : Value).ownBlock ∧ some k_ ≠ (.slice Ao5 x3_1.length co5 : Value).ownBlock) v186 y185) := ⟨h1_⟩
      have n2_ : Aside0 (Kd.R (Kd.int .i64) 3 w51 w.heap.size (fun k_ => some k_ ≠ (v182 : Value).ownBlock ∧ some k_ ≠ (v186 : Value).ownBlock) (.slice Ao5 x3_1.length co5) x3_1) := ⟨h2_⟩
      have n3_ : Aside0 (Below w.heap.size w w51) := ⟨h3_⟩
      clear HO_3
      clear HB
      clear h0_ h1_ h2_ h3_
      have HO183 := n0_
      have HO187 := n1_
      have HO_3 := n2_
      have HB := n3_
      clear n0_ n1_ n2_ n3_
      have hHeld : w51.cell? (ad184.add (x4_1).toNat) = some (.int .i64 (rd l0 x4_1)) := hS_
      obtain ⟨Ao53,co53,eo53⟩ := Kd.R_slice HO187.out
      (first | subst eo53 | (injection eo53 with f1_ f2_ f3_;have f4_ := f1_.symm;have f5_ := f3_.symm;clear f1_ f2_ f3_;subst f4_;subst f5_))
      refine norm_ (a' := ?_) ?_ ?_
      rotate_left
      ·simp only [putAll,Act.put,List.setIfInBounds_toArray,List.set_cons_zero,List.set_cons_succ]
       rfl
      refine rO 10 42 12 2047 HT_ (h := fun K hK => ?_)
      refine Kd.R_append_rows_step (Kd.int .i64) (w0 := w) w.heap.size Z238 (.tmp 36) (.tmp 41) 24 3 (.int .i64 0) 8 rfl Try.underlying24 info3 rfl Z293 Z237 v182 y181 y185 _ _ _ (fun k_ => some k_ ≠ (.slice Ao5 x3_1.length co5 : Value).ownBlock ∧ some k_ ≠ (.slice Ao53 y185.length co53 : Value).ownBlock) (fun _ => False) rfl rfl ?aO ?aR (fun _ _ h => h) (fun _ h => h.elim) ?aF ?aB ?aS ?aL ?_
      (case aR => repeat (first | exact (Kd.R_reads' HO187.out).2.2 | (with_reducible refine Kd.C_alloc ?_ _) | (with_reducible refine Kd.C_drewN ?_ _) | (with_reducible refine Kd.C_drew ?_)))
      (case aB => exact Z138)
      (case aF => exact Z61)
      (case aO => exact Z139)
      (case aS => exact Z124)
      (case aL => have := LMc39.out;omega)
      intro v189 w52 ho hb hg hat
      rw [← Ny188.out] at ho
      have n_ := jA (Kd.R_after (ok := (fun k_ => some k_ ≠ (.slice Ao53 y185.length co53 : Value).ownBlock)) Z143 hg hat) (jA (Kd.R_after (ok := (fun k_ => some k_ ≠ (.slice Ao5 x3_1.length co5 : Value).ownBlock)) Z141 hg hat) (jA (hb) (Aside0.mk (ho))))
      clear HO_3 HO187 HB HO183
      obtain ⟨HO_3,HO187,HB,HO190⟩ := n_
      clear ho hb hg hat
      refine hK.out _ _ (((HB.out.cell (World.block_lt_of_cell? w _ hw184_0)).trans hw184_0)) (fun hHeld => ?_)
      clear hK K
      refine rN (h := ?_)
      refine rP 11 6 12 4095 HT_ (h := ?_)
      refine done_ (done_of HT_.out Z236) ?_
      have q54 : (x5_2 : Int) ≤ ((x3_1.length : Int) : Int) := of_decide_eq_true Z217
      obtain ⟨i054,hi054,_,hsz54,_⟩ := info_parts info3
      have hroom54 : x3_1.length ≤ co5 := (Kd.R_reads' HO_3.out).2.1
      have hC54 : Kd.C (Kd.int .i64) _ Ao5 x3_1.length x3_1 := (Kd.R_reads' HO_3.out).2.2
      have q054 : (0 : Int) ≤ (x5_2 : Int) := of_decide_eq_true Z217
      have hcut54 := cut_from (P := Try.prog) 24 3 .i64 Try.underlying24 hi054 1 hsz54 Ao5 x3_1.length co5 x5_2 q054 q54
      have hr54 := Kd.C_drop (m := (x5_2 : Int).toNat) (c := co5) hC54 Z237 hroom54
      obtain ⟨A54,hA54⟩ : ∃ A1,A1 = (if co5 = (x5_2 : Int).toNat then Ao5 else (Ao5 : Option Addr).map (·.add ((x5_2 : Int).toNat * 1))) := ⟨_,rfl⟩
      obtain ⟨c54,hc54⟩ : ∃ c1,c1 = co5 - (x5_2 : Int).toNat := ⟨_,rfl⟩
      have hy54 : y191.length = x3_1.length - (x5_2 : Int).toNat := (by rw [Ny191.out,List.length_drop] <;> omega)
      rw [show (x3_1).drop (x5_2 : Int).toNat = y191 from Ny191.out.symm] at hr54
      replace hr54 : Kd.C (Kd.int .i64) _ A54 y191.length y191 := (by rw [hA54];exact hr54)
      rw [← hy54,← hA54,← hc54] at hcut54
      have HR194 := Aside0.mk hr54
      have HC194 := Aside0.mk (show y191.length ≤ c54 from by rw [hy54,hc54];exact Nat.sub_le_sub_right hroom54 _)
      clear hr54 hC54 hroom54 hi054 hsz54 hc54
      have KY54 := Aside0.mk hy54
      have KA54 := Aside0.mk hA54
      clear hy54 hA54
      have KL54 := Aside0.mk (show (x5_2 : Int).toNat ≤ x3_1.length from Z237)
      replace q54 := eq_true q54
      try go_wp2_with (first | ((with_reducible refine gate_builtin (b := .append) (xs := #[.tmp 43,.tmp 46]) rfl ?_);at_builtin;refine Kd.R_append_rows (Kd.int .i64) (w0 := w) w.heap.size rfl (.tmp 43) (.tmp 46) 24 3 (.int .i64 0) 8 rfl Try.underlying24 info3 rfl Z293 Z237 v189 y188 y191 _ _ _ (fun k_ => some k_ ≠ (.slice Ao5 x3_1.length co5 : Value).ownBlock ∧ some k_ ≠ (.slice Ao53 y185.length co53 : Value).ownBlock) (fun _ => False) rfl rfl ?aO ?aR (fun _ _ h => h) (fun _ h => h.elim) ?aF ?aB ?aS ?aL ?_;(case aR => repeat (first | exact (by repeat (first | (with_reducible exact HR194.out) | (with_reducible refine Kd.C_alloc ?_ _) | (with_reducible refine Kd.C_drewN ?_ _) | (with_reducible refine Kd.C_drew ?_) | exact HR194.out)) | (with_reducible refine Kd.C_alloc ?_ _) | (with_reducible refine Kd.C_drewN ?_ _) | (with_reducible refine Kd.C_drew ?_)));(case aB => exact Z138);(case aF => exact Z61);(case aO => exact (by (with_reducible repeat (first | apply Kd.R_alloc | apply Kd.R_drewN | apply Kd.R_drew));exact HO190.out));(case aS => exact Z124);(case aL => have := LMc42.out;omega);intro v196 w55 ho hb hg hat;rw [← Ny195.out] at ho;have n_ := jA (Kd.R_after (ok := (fun k_ => some k_ ≠ (.slice Ao53 y185.length co53 : Value).ownBlock)) Z273 hg hat) (jA (Kd.R_after (ok := (fun k_ => some k_ ≠ (.slice Ao5 x3_1.length co5 : Value).ownBlock)) Z269 hg hat) (jA (hb) (jA ((show Kd.C (Kd.int .i64) w55 A54 y191.length y191 from by rw [Ny191.out,KA54.out];exact Kd.C_drop (m := (x5_2 : Int).toNat) (c := co5) ((Kd.R_reads' (Kd.R_after (ok := (fun k_ => some k_ ≠ (.slice Ao53 y185.length co53 : Value).ownBlock)) Z273 hg hat)).2.2) KL54.out ((Kd.R_reads' (Kd.R_after (ok := (fun k_ => some k_ ≠ (.slice Ao53 y185.length co53 : Value).ownBlock)) Z273 hg hat)).2.1))) (Aside0.mk (ho)))));clear HO_3 HO187 HB HR194 HO190;obtain ⟨HO_3,HO187,HB,HR194,HO197⟩ := n_;clear ho hb hg hat))
      go_roundg k2
      case measure => have := HK1.out;have := HK2.out;omega
      case rel => exact ⟨(y195),(wrap64 (x4_1 + 1)),Z218,H',⟨Z221⟩,⟨by (with_reducible repeat (first | apply Kd.R_alloc | apply Kd.R_drewN | apply Kd.R_drew));exact Kd.R_mono HO197.out (fun _ hk => trivial)⟩,⟨Z297⟩⟩
     rw [if_pos c6] at H
     have c6b0 : decide (0 < x5_2) = true := decide_eq_true c6
     clear c6
     obtain ⟨ji7,hji7⟩ : ∃ j_ : Int,(wrap64 (x5_2 - 1)) = j_ := ⟨_,rfl⟩
     replace H : (if 0 ≤ (ji7) then (if (ji7) < (x3_1.length : Int) then (if 0 ≤ x4_1 then (if x4_1 < (l0.length : Int) then (if (rd x3_1 (ji7)) > (rd l0 x4_1) then (spec_SortInts.l1 k2 l0 x3_1 x4_1 ji7) else ((some (([] : List Int) : List Int)).bind fun y150 => (if 0 ≤ x5_2 then (if x5_2 ≤ (x3_1.length : Int) then ((some (x3_1.take (x5_2 : Int).toNat : List Int)).bind fun y153 => (if y150.length + y153.length < 17592186044416 then ((some (y150 ++ y153 : List Int)).bind fun y157 => ((some (([rd l0 x4_1] : List Int) : List Int)).bind fun y161 => (if y157.length + y161.length < 17592186044416 then ((some (y157 ++ y161 : List Int)).bind fun y164 => ((some (x3_1.drop (x5_2 : Int).toNat : List Int)).bind fun y167 => (if y164.length + y167.length < 17592186044416 then (spec_SortInts.l0 k2 l0 (y164 ++ y167) (wrap64 (x4_1 + 1))) else (none)))) else (none)))) else (none))) else (none)) else (none)))) else (none)) else (none)) else (none)) else (none)) = some r := by first | (rw [hji7] at H;exact H) | (simp only [hji7] at H ⊢;exact H)
     have hji7w : (IntKind.i64.wrap (x5_2 - 1)) = ji7 := (i64_w _).trans hji7
     obtain ⟨c8,H⟩ := ifp H
     have c8b0 : decide (0 ≤ (ji7)) = true := decide_eq_true c8
     clear c8
     obtain ⟨c9,H⟩ := ifp H
     have c9b0 : decide ((ji7) < (x3_1.length : Int)) = true := decide_eq_true c9
     clear c9
     obtain ⟨c10,H⟩ := ifp H
     have c10b0 : decide (0 ≤ x4_1) = true := decide_eq_true c10
     clear c10
     obtain ⟨c11,H⟩ := ifp H
     have c11b0 : decide (x4_1 < (l0.length : Int)) = true := decide_eq_true c11
     clear c11
     by_cases c12 : (rd x3_1 (ji7)) > (rd l0 x4_1)
     ·rw [if_pos c12] at H
      have c12b0 : decide ((rd l0 x4_1) < (rd x3_1 (ji7))) = true := decide_eq_true c12
      clear c12
      have H' := Aside0.mk H
      clear H
      try go_wp2
      have n_ := jA (Kd.R_drew HO_3.out) (Aside0.mk (below_drew1 HB.out))
      clear HO_3 HB
      obtain ⟨HO_3,HB⟩ := n_
      have p148 : 0 ≤ ((ji7) : Int) := of_decide_eq_true Z217
      have q148 : (ji7) < (x3_1.length : Int) := of_decide_eq_true Z217
      obtain ⟨ad148,e148,hx148_0⟩ := Kd.at_int (Kd.R_reads' HO_3.out).2.2 (ji7) p148 q148
      cases e148
      replace p148 := eq_true p148
      replace q148 := eq_true q148
      have p149 : 0 ≤ (x4_1 : Int) := of_decide_eq_true Z217
      have q149 : x4_1 < (l0.length : Int) := of_decide_eq_true Z217
      obtain ⟨ad149,e149,hx149_0⟩ := Kd.at_int HR0.out x4_1 p149 q149
      have hw149_0 := hx149_0
      cases e149
      replace hx149_0 := (HB.out.cell (World.block_lt_of_cell? w _ hx149_0)).trans hx149_0
      replace p149 := eq_true p149
      replace q149 := eq_true q149
      refine start_ (n := 14) (S := fun w' => w'.cell? (ad148.add ((ji7)).toNat) = some (.int .i64 (rd x3_1 (ji7))) ∧ w'.cell? (ad149.add (x4_1).toNat) = some (.int .i64 (rd l0 x4_1))) (ds := []) (qM 14 0) Z236 rfl (by kernel_rfl) ⟨hx148_0,((HB.out.cell (World.block_lt_of_cell? w _ hw149_0)).trans hw149_0)⟩ (fun hHeld => ?_);refine with_tabW spec_SortInts.tab6 spec_SortInts.bits6 (fun HT_ HW_ => ?_)
      generalize wr.drew = w13 at HO_3 HB hx148_0 hx149_0 hHeld ⊢
      refine rP 0 16 14 1 HT_ (h := ?_)
      refine rP 1 17 14 3 HT_ (h := ?_)
      refine rP 2 18 14 7 HT_ (h := ?_)
      refine rP 3 19 14 15 HT_ (h := ?_)
      refine rP 4 20 14 31 HT_ (h := ?_)
      refine rP 5 21 14 63 HT_ (h := ?_)
      refine rP 6 22 14 127 HT_ (h := ?_)
      refine rP 8 24 14 383 HT_ (h := ?_)
      refine rP 9 25 14 895 HT_ (h := ?_)
      refine rP 10 26 14 1919 HT_ (h := ?_)
      refine rT2 7 23 14 2047 HT_ HW_ hHeld (h := ?_)
      refine rT2 11 27 14 4095 HT_ HW_ hHeld (h := ?_)
      refine rP 12 28 14 8191 HT_ (h := ?_)
      refine rP 13 29 14 16383 HT_ (h := ?_)
      refine done_ (done_of HT_.out Z236) ?_
      try go_wp2
      go_roundg k2
      case measure => have := HK1.out;have := HK2.out;omega
      case rel => exact ⟨(ji7),(by first | rfl | (simp;done) | (simp only [← hji7] <;> (first | rfl | simp)) | (simp [*];done)),H',⟨Z221⟩,⟨Z273⟩,⟨Z297⟩⟩
     rw [if_neg c12] at H
     have c12b0 : decide ((rd l0 x4_1) < (rd x3_1 (ji7))) = false := decide_eq_false c12
     clear c12
     obtain ⟨y150,hyy⟩ : ∃ y_ : List Int,y_ = (([] : List Int)) := ⟨_,rfl⟩
     replace H : (if 0 ≤ x5_2 then (if x5_2 ≤ (x3_1.length : Int) then ((some (x3_1.take (x5_2 : Int).toNat : List Int)).bind fun y153 => (if y150.length + y153.length < 17592186044416 then ((some (y150 ++ y153 : List Int)).bind fun y157 => ((some (([rd l0 x4_1] : List Int) : List Int)).bind fun y161 => (if y157.length + y161.length < 17592186044416 then ((some (y157 ++ y161 : List Int)).bind fun y164 => ((some (x3_1.drop (x5_2 : Int).toNat : List Int)).bind fun y167 => (if y164.length + y167.length < 17592186044416 then (spec_SortInts.l0 k2 l0 (y164 ++ y167) (wrap64 (x4_1 + 1))) else (none)))) else (none)))) else (none))) else (none)) else (none)) = some r := zR
     have Ny150 := Aside0.mk hyy
     clear hyy
     obtain ⟨c14,H⟩ := ifp H
     have c14b0 := eq_true c14
     have c14b1 : decide (0 ≤ x5_2) = true := decide_eq_true c14
     clear c14
     obtain ⟨c15,H⟩ := ifp H
     have c15b0 := eq_true c15
     have c15b1 : decide (x5_2 ≤ (x3_1.length : Int)) = true := decide_eq_true c15
     clear c15
     obtain ⟨y153,hyy⟩ : ∃ y_ : List Int,y_ = (x3_1.take (x5_2 : Int).toNat) := ⟨_,rfl⟩
     replace H : (if y150.length + y153.length < 17592186044416 then ((some (y150 ++ y153 : List Int)).bind fun y157 => ((some (([rd l0 x4_1] : List Int) : List Int)).bind fun y161 => (if y157.length + y161.length < 17592186044416 then ((some (y157 ++ y161 : List Int)).bind fun y164 => ((some (x3_1.drop (x5_2 : Int).toNat : List Int)).bind fun y167 => (if y164.length + y167.length < 17592186044416 then (spec_SortInts.l0 k2 l0 (y164 ++ y167) (wrap64 (x4_1 + 1))) else (none)))) else (none)))) else (none)) = some r := zR
     have Ny153 := Aside0.mk hyy
     clear hyy
     obtain ⟨c16,H⟩ := ifp H
     have LMc16 := Aside0.mk c16
     clear c16
     obtain ⟨y157,hyy⟩ : ∃ y_ : List Int,y_ = (y150 ++ y153) := ⟨_,rfl⟩
     replace H : ((some (([rd l0 x4_1] : List Int) : List Int)).bind fun y161 => (if y157.length + y161.length < 17592186044416 then ((some (y157 ++ y161 : List Int)).bind fun y164 => ((some (x3_1.drop (x5_2 : Int).toNat : List Int)).bind fun y167 => (if y164.length + y167.length < 17592186044416 then (spec_SortInts.l0 k2 l0 (y164 ++ y167) (wrap64 (x4_1 + 1))) else (none)))) else (none))) = some r := zR
     have Ny157 := Aside0.mk hyy
     clear hyy
     obtain ⟨y161,hyy⟩ : ∃ y_ : List Int,y_ = (([rd l0 x4_1] : List Int)) := ⟨_,rfl⟩
     replace H : (if y157.length + y161.length < 17592186044416 then ((some (y157 ++ y161 : List Int)).bind fun y164 => ((some (x3_1.drop (x5_2 : Int).toNat : List Int)).bind fun y167 => (if y164.length + y167.length < 17592186044416 then (spec_SortInts.l0 k2 l0 (y164 ++ y167) (wrap64 (x4_1 + 1))) else (none)))) else (none)) = some r := zR
     have Ny161 := Aside0.mk hyy
     clear hyy
     obtain ⟨c17,H⟩ := ifp H
     have LMc17 := Aside0.mk c17
     clear c17
     obtain ⟨y164,hyy⟩ : ∃ y_ : List Int,y_ = (y157 ++ y161) := ⟨_,rfl⟩
     replace H : ((some (x3_1.drop (x5_2 : Int).toNat : List Int)).bind fun y167 => (if y164.length + y167.length < 17592186044416 then (spec_SortInts.l0 k2 l0 (y164 ++ y167) (wrap64 (x4_1 + 1))) else (none))) = some r := zR
     have Ny164 := Aside0.mk hyy
     clear hyy
     have c18b0 := eq_true (of_decide_eq_true Z217 : 0 ≤ x5_2)
     have c19b0 := eq_true (of_decide_eq_true Z217 : x5_2 ≤ (x3_1.length : Int))
     obtain ⟨y167,hyy⟩ : ∃ y_ : List Int,y_ = (x3_1.drop (x5_2 : Int).toNat) := ⟨_,rfl⟩
     replace H : (if y164.length + y167.length < 17592186044416 then (spec_SortInts.l0 k2 l0 (y164 ++ y167) (wrap64 (x4_1 + 1))) else (none)) = some r := zR
     have Ny167 := Aside0.mk hyy
     clear hyy
     obtain ⟨c20,H⟩ := ifp H
     have LMc20 := Aside0.mk c20
     clear c20
     obtain ⟨y171,hyy⟩ : ∃ y_ : List Int,y_ = (y164 ++ y167) := ⟨_,rfl⟩
     replace H : (spec_SortInts.l0 k2 l0 y171 (wrap64 (x4_1 + 1))) = some r := zR
     have Ny171 := Aside0.mk hyy
     clear hyy
     have H' := Aside0.mk H
     clear H
     try go_wp2
     have n_ := jA (Kd.R_drew HO_3.out) (Aside0.mk (below_drew1 HB.out))
     clear HO_3 HB
     obtain ⟨HO_3,HB⟩ := n_
     have p148 : 0 ≤ ((ji7) : Int) := of_decide_eq_true Z217
     have q148 : (ji7) < (x3_1.length : Int) := of_decide_eq_true Z217
     obtain ⟨ad148,e148,hx148_0⟩ := Kd.at_int (Kd.R_reads' HO_3.out).2.2 (ji7) p148 q148
     cases e148
     replace p148 := eq_true p148
     replace q148 := eq_true q148
     have p149 : 0 ≤ (x4_1 : Int) := of_decide_eq_true Z217
     have q149 : x4_1 < (l0.length : Int) := of_decide_eq_true Z217
     obtain ⟨ad149,e149,hx149_0⟩ := Kd.at_int HR0.out x4_1 p149 q149
     have hw149_0 := hx149_0
     cases e149
     replace hx149_0 := (HB.out.cell (World.block_lt_of_cell? w _ hx149_0)).trans hx149_0
     replace p149 := eq_true p149
     replace q149 := eq_true q149
     refine start_ (n := 14) (S := fun w' => w'.cell? (ad148.add ((ji7)).toNat) = some (.int .i64 (rd x3_1 (ji7))) ∧ w'.cell? (ad149.add (x4_1).toNat) = some (.int .i64 (rd l0 x4_1))) (ds := []) (qM 14 0) Z236 rfl (by kernel_rfl) ⟨hx148_0,((HB.out.cell (World.block_lt_of_cell? w _ hw149_0)).trans hw149_0)⟩ (fun hHeld => ?_);refine with_tabW spec_SortInts.tab6 spec_SortInts.bits6 (fun HT_ HW_ => ?_)
     generalize wr.drew = w21 at HO_3 HB hx148_0 hx149_0 hHeld ⊢
     refine rP 0 16 14 1 HT_ (h := ?_)
     refine rP 1 17 14 3 HT_ (h := ?_)
     refine rP 2 18 14 7 HT_ (h := ?_)
     refine rP 3 19 14 15 HT_ (h := ?_)
     refine rP 4 20 14 31 HT_ (h := ?_)
     refine rP 5 21 14 63 HT_ (h := ?_)
     refine rP 6 22 14 127 HT_ (h := ?_)
     refine rP 8 24 14 383 HT_ (h := ?_)
     refine rP 9 25 14 895 HT_ (h := ?_)
     refine rP 10 26 14 1919 HT_ (h := ?_)
     refine rT2 7 23 14 2047 HT_ HW_ hHeld (h := ?_)
     refine rT2 11 27 14 4095 HT_ HW_ hHeld (h := ?_)
     refine rP 12 28 14 8191 HT_ (h := ?_)
     refine rP 13 29 14 16383 HT_ (h := ?_)
     refine done_ (done_of HT_.out Z236) ?_
     try go_wp2
     have n_ := jA (Kd.R_drew HO_3.out) (Aside0.mk (below_drew1 HB.out))
     clear HO_3 HB
     obtain ⟨HO_3,HB⟩ := n_
     have q23 : (x5_2 : Int) ≤ ((x3_1.length : Int) : Int) := of_decide_eq_true Z217
     obtain ⟨i023,hi023,_,hsz23,_⟩ := info_parts info3
     have hroom23 : x3_1.length ≤ co5 := (Kd.R_reads' HO_3.out).2.1
     have hC23 : Kd.C (Kd.int .i64) _ (some ad148) x3_1.length x3_1 := (Kd.R_reads' HO_3.out).2.2
     have hcut23 := cut_to (P := Try.prog) 24 3 .i64 Try.underlying24 hi023 (some ad148) x3_1.length co5 x5_2 (of_decide_eq_true Z217) q23 hroom23
     have hr23 := Kd.C_take (m := (x5_2 : Int).toNat) hC23 Z237
     have hy23 : y153.length = (x5_2 : Int).toNat := (by rw [Ny153.out,List.length_take];omega)
     rw [← Ny153.out] at hr23
     rw [← hy23] at hcut23
     have HR156 := Aside0.mk hr23
     have HC156 := Aside0.mk (show y153.length ≤ co5 from Z237)
     clear hr23 hC23 hroom23 hi023 hsz23
     have KY23 := Aside0.mk hy23
     clear hy23
     have KL23 := Aside0.mk (show (x5_2 : Int).toNat ≤ x3_1.length from Z237)
     replace q23 := eq_true q23
     have p160 : 0 ≤ (x4_1 : Int) := of_decide_eq_true Z217
     have q160 : x4_1 < (l0.length : Int) := of_decide_eq_true Z217
     obtain ⟨ad160,e160,hx160_0⟩ := Kd.at_int HR0.out x4_1 p160 q160
     have hw160_0 := hx160_0
     obtain rfl : ad149 = ad160 := (by injection e160)
     replace hx160_0 := (HB.out.cell (World.block_lt_of_cell? w _ hx160_0)).trans hx160_0
     replace p160 := eq_true p160
     replace q160 := eq_true q160
     refine start_ (n := 12) (S := fun w' => w'.cell? (ad149.add (x4_1).toNat) = some (.int .i64 (rd l0 x4_1))) (ds := []) (qM 12 0) Z236 rfl (by kernel_rfl) (((HB.out.cell (World.block_lt_of_cell? w _ hw160_0)).trans hw160_0)) (fun hHeld => ?_);refine with_tabW spec_SortInts.tab8 spec_SortInts.bits8 (fun HT_ HW_ => ?_)
     generalize w21.drew = w22 at HO_3 HB HR156 hx160_0 hHeld ⊢
     refine rP 1 33 12 2 HT_ (h := ?_)
     refine rP 2 34 12 6 HT_ (h := ?_)
     refine rP 3 35 12 14 HT_ (h := ?_)
     refine rP 5 37 12 46 HT_ (h := ?_)
     refine rP 6 38 12 110 HT_ (h := ?_)
     refine rP 7 39 12 238 HT_ (h := ?_)
     refine take_ (i := 8) (N := some 40) (v := ?_) (a' := ?_) (qM 12 494) rfl rfl (take_ofW HT_.out HW_.out Z236) (fun _ _ _ h => h) (Or.inl ⟨Z238,?_⟩) hHeld ?_ ?_
     rotate_left
     ·intro w' s0
      go_simp
      with_reducible rfl
     rotate_left
     ·simp only [Act.put,List.setIfInBounds_toArray,List.set_cons_zero,List.set_cons_succ,i64_w,i32_w]
      rfl
     refine join_ (σ := Value × Value × Value) 2 (qM 12 1023) (fun s_ => [(32,s_.1),(36,s_.2.1),(41,s_.2.2)]) (fun s_ w' => (w'.cell? (ad149.add (x4_1).toNat) = some (.int .i64 (rd l0 x4_1))) ∧ (Kd.R (Kd.int .i64) 3 w' w.heap.size (fun k_ => some k_ ≠ (s_.2.2 : Value).ownBlock ∧ some k_ ≠ (.slice (some ad148) x3_1.length co5 : Value).ownBlock) s_.2.1 y157) ∧ (Kd.R (Kd.int .i64) 3 w' w.heap.size (fun k_ => some k_ ≠ (s_.2.1 : Value).ownBlock ∧ some k_ ≠ (.slice (some ad148) x3_1.length co5 : Value).ownBlock) s_.2.2 y161) ∧ (Kd.R (Kd.int .i64) 3 w' w.heap.size (fun k_ => some k_ ≠ (s_.2.1 : Value).ownBlock ∧ some k_ ≠ (s_.2.2 : Value).ownBlock) (.slice (some ad148) x3_1.length co5) x3_1) ∧ (Below w.heap.size w w')) ?_ ?_
     rotate_left
     ·intro hCont
      refine two_ (i := 0) (j := 9) (Ni := some 32) (Nj := some 41) (qM 12 495) (qM 12 1006) rfl rfl rfl rfl (two_of HT_.out Z236) Z293 Z293 (fun K hK => ?_) (fun K hK => ?_)
      ·skip
       refine Kd.R_lit_step (Kd.int .i64) _ 3 ?hg (N := 32) ?hd (xs := ([] : List Int)) (inner := []) (ok := fun _ => True) (okp := fun _ => True) ?hr ?hp (fun _ hk => hk) trivial (Below.refl _ _) (Nat.le_refl _) Z294 ?_;(case hd => rfl);(case hg => rfl);(case hr => exact Z219);(case hp => exact Z232)
       intro v151 w24 ho25 hb hg_ hnew_
       clear hg_ hnew_
       (first | rw [← Ny150.out] at ho25 | (simp only [Int.reduceToNat] at ho25;rw [← Ny150.out] at ho25))
       have n_ := jA (Kd.R_elder' Z273 (Kd.R_base ho25) hb) (jA (Kd.R_lower (Kd.R_new' ho25 (Kd.R_lt Z273)) (below_size Z297)) (jA (Kd.C_below Z252 hb) (Aside0.mk (below_step Z297 hb))))
       clear HO_3 HR156 HB
       obtain ⟨HO_3,HO152,HR156,HB⟩ := n_
       clear hb ho25
       refine hK.out _ _ (((HB.out.cell (World.block_lt_of_cell? w _ hw160_0)).trans hw160_0)) (fun hHeld => ?_)
       clear hK K
       refine rN (h := ?_)
       refine two_ (i := 4) (j := 9) (Ni := some 36) (Nj := some 41) (qM 12 511) (qM 12 1007) rfl rfl rfl rfl (two_of HT_.out Z236) Z293 Z293 (fun K hK => ?_) (fun K hK => ?_)
       ·skip
        refine Kd.R_append_rows_step (Kd.int .i64) (w0 := w) w.heap.size Z238 (.tmp 32) (.tmp 35) 24 3 (.int .i64 0) 8 rfl Try.underlying24 info3 rfl Z293 Z237 v151 y150 y153 _ _ _ (fun k_ => some k_ ≠ (.slice (some ad148) x3_1.length co5 : Value).ownBlock) (fun _ => False) rfl rfl ?aO ?aR (fun _ _ h => h) (fun _ h => h.elim) ?aF ?aB ?aS ?aL ?_
        (case aR => exact Z41)
        (case aB => exact Z138)
        (case aF => exact Z131)
        (case aO => exact (by (with_reducible repeat (first | apply Kd.R_alloc | apply Kd.R_drewN | apply Kd.R_drew));exact Kd.R_mono HO152.out (fun _ hk => hk.2)))
        (case aS => exact Z124)
        (case aL => have := LMc16.out;omega)
        intro v158 w26 ho hb hg hat
        rw [← Ny157.out] at ho
        have n_ := jA (Kd.R_after (ok := (fun _ => True)) Z273 hg hat) (jA (hb) (jA ((show Kd.C (Kd.int .i64) w26 (some ad148) y153.length y153 from by rw [Ny153.out];exact Kd.C_take (m := (x5_2 : Int).toNat) ((Kd.R_reads' (Kd.R_after (ok := (fun _ => True)) Z273 hg hat)).2.2) KL23.out)) (Aside0.mk (ho))))
        clear HO_3 HB HR156 HO152
        obtain ⟨HO_3,HB,HR156,HO159⟩ := n_
        clear ho hb hg hat
        refine hK.out _ _ (((HB.out.cell (World.block_lt_of_cell? w _ hw160_0)).trans hw160_0)) (fun hHeld => ?_)
        clear hK K
        refine rN (h := ?_)
        refine rO 9 41 12 1023 HT_ (h := fun K hK => ?_)
        refine Kd.R_lit_step (Kd.int .i64) _ 3 ?hg (N := 41) ?hd (xs := ([rd l0 x4_1] : List Int)) (inner := [.int .i64 (rd l0 x4_1)]) (ok := fun _ => True) (okp := fun _ => True) ?hr ?hp (fun _ hk => hk) trivial (Below.refl _ _) (Nat.le_refl _) Z294 ?_;(case hd => rfl);(case hg => rfl);(case hr => exact Z219);(case hp => exact Z157)
        intro v162 w27 ho28 hb hg_ hnew_
        clear hg_ hnew_
        (first | rw [← Ny161.out] at ho28 | (simp only [Int.reduceToNat] at ho28;rw [← Ny161.out] at ho28))
        have n_ := jA (Kd.R_elder' Z273 (Kd.R_base ho28) hb) (jA (Kd.R_elder' Z178 (Kd.R_base ho28) hb) (jA (Kd.R_lower (Kd.R_new' (Kd.R_new' ho28 (Kd.R_lt Z273)) (Kd.R_lt Z178)) (below_size Z297)) (jA (Kd.C_below Z252 hb) (Aside0.mk (below_step Z297 hb)))))
        clear HO_3 HO159 HR156 HB
        obtain ⟨HO_3,HO159,HO163,HR156,HB⟩ := n_
        clear hb ho28
        refine hK.out _ _ (((HB.out.cell (World.block_lt_of_cell? w _ hw160_0)).trans hw160_0)) (fun hHeld => ?_)
        clear hK K
        refine rN (h := ?_)
        exact norm_ Z208 (hCont (v151,v158,v162) _ ⟨hHeld,Z140,(by (with_reducible repeat (first | apply Kd.R_alloc | apply Kd.R_drewN | apply Kd.R_drew));exact Kd.R_mono HO163.out (fun _ hk => ⟨hk.2,hk.1.2⟩)),Z135,Z297⟩)
       skip
       refine Kd.R_lit_step (Kd.int .i64) _ 3 ?hg (N := 41) ?hd (xs := ([rd l0 x4_1] : List Int)) (inner := [.int .i64 (rd l0 x4_1)]) (ok := fun _ => True) (okp := fun _ => True) ?hr ?hp (fun _ hk => hk) trivial (Below.refl _ _) (Nat.le_refl _) Z294 ?_;(case hd => rfl);(case hg => rfl);(case hr => exact Z219);(case hp => exact Z157)
       intro v162 w26 ho27 hb hg_ hnew_
       clear hg_ hnew_
       (first | rw [← Ny161.out] at ho27 | (simp only [Int.reduceToNat] at ho27;rw [← Ny161.out] at ho27))
       have n_ := jA (Kd.R_elder' Z273 (Kd.R_base ho27) hb) (jA (Kd.R_elder' Z179 (Kd.R_base ho27) hb) (jA (Kd.R_lower (Kd.R_new' (Kd.R_new' ho27 (Kd.R_lt Z273)) (Kd.R_lt Z179)) (below_size Z297)) (jA (Kd.C_below Z252 hb) (Aside0.mk (below_step Z297 hb)))))
       clear HO_3 HO152 HR156 HB
       obtain ⟨HO_3,HO152,HO163,HR156,HB⟩ := n_
       clear hb ho27
       refine hK.out _ _ (((HB.out.cell (World.block_lt_of_cell? w _ hw160_0)).trans hw160_0)) (fun hHeld => ?_)
       clear hK K
       refine rN (h := ?_)
       refine rO 4 36 12 1023 HT_ (h := fun K hK => ?_)
       refine Kd.R_append_rows_step (Kd.int .i64) (w0 := w) w.heap.size Z238 (.tmp 32) (.tmp 35) 24 3 (.int .i64 0) 8 rfl Try.underlying24 info3 rfl Z293 Z237 v151 y150 y153 _ _ _ (fun k_ => some k_ ≠ (.slice (some ad148) x3_1.length co5 : Value).ownBlock ∧ some k_ ≠ (v162 : Value).ownBlock) (fun _ => False) rfl rfl ?aO ?aR (fun _ _ h => h) (fun _ h => h.elim) ?aF ?aB ?aS ?aL ?_
       (case aR => exact Z41)
       (case aB => exact Z138)
       (case aF => exact Z62)
       (case aO => exact Z126)
       (case aS => exact Z124)
       (case aL => have := LMc16.out;omega)
       intro v158 w28 ho hb hg hat
       rw [← Ny157.out] at ho
       have n_ := jA (Kd.R_after (ok := (fun k_ => some k_ ≠ (v162 : Value).ownBlock)) Z137 hg hat) (jA (Kd.R_after (ok := (fun k_ => some k_ ≠ (.slice (some ad148) x3_1.length co5 : Value).ownBlock)) Z134 hg hat) (jA (hb) (jA ((show Kd.C (Kd.int .i64) w28 (some ad148) y153.length y153 from by rw [Ny153.out];exact Kd.C_take (m := (x5_2 : Int).toNat) ((Kd.R_reads' (Kd.R_after (ok := (fun k_ => some k_ ≠ (v162 : Value).ownBlock)) Z137 hg hat)).2.2) KL23.out)) (Aside0.mk (ho)))))
       clear HO_3 HO163 HB HR156 HO152
       obtain ⟨HO_3,HO163,HB,HR156,HO159⟩ := n_
       clear ho hb hg hat
       refine hK.out _ _ (((HB.out.cell (World.block_lt_of_cell? w _ hw160_0)).trans hw160_0)) (fun hHeld => ?_)
       clear hK K
       refine rN (h := ?_)
       exact norm_ Z208 (hCont (v151,v158,v162) _ ⟨hHeld,Z140,Z142,Z143,Z297⟩)
      skip
      refine Kd.R_lit_step (Kd.int .i64) _ 3 ?hg (N := 41) ?hd (xs := ([rd l0 x4_1] : List Int)) (inner := [.int .i64 (rd l0 x4_1)]) (ok := fun _ => True) (okp := fun _ => True) ?hr ?hp (fun _ hk => hk) trivial (Below.refl _ _) (Nat.le_refl _) Z294 ?_;(case hd => rfl);(case hg => rfl);(case hr => exact Z219);(case hp => exact Z157)
      intro v162 w24 ho25 hb hg_ hnew_
      clear hg_ hnew_
      (first | rw [← Ny161.out] at ho25 | (simp only [Int.reduceToNat] at ho25;rw [← Ny161.out] at ho25))
      have n_ := jA (Kd.R_elder' Z273 (Kd.R_base ho25) hb) (jA (Kd.R_lower (Kd.R_new' ho25 (Kd.R_lt Z273)) (below_size Z297)) (jA (Kd.C_below Z252 hb) (Aside0.mk (below_step Z297 hb))))
      clear HO_3 HR156 HB
      obtain ⟨HO_3,HO163,HR156,HB⟩ := n_
      clear hb ho25
      refine hK.out _ _ (((HB.out.cell (World.block_lt_of_cell? w _ hw160_0)).trans hw160_0)) (fun hHeld => ?_)
      clear hK K
      refine rN (h := ?_)
      refine rO 0 32 12 1007 HT_ (h := fun K hK => ?_)
      refine Kd.R_lit_step (Kd.int .i64) _ 3 ?hg (N := 32) ?hd (xs := ([] : List Int)) (inner := []) (ok := fun _ => True) (okp := fun _ => True) ?hr ?hp (fun _ hk => hk) trivial (Below.refl _ _) (Nat.le_refl _) Z294 ?_;(case hd => rfl);(case hg => rfl);(case hr => exact Z219);(case hp => exact Z232)
      intro v151 w26 ho27 hb hg_ hnew_
      clear hg_ hnew_
      (first | rw [← Ny150.out] at ho27 | (simp only [Int.reduceToNat] at ho27;rw [← Ny150.out] at ho27))
      have n_ := jA (Kd.R_elder' Z273 (Kd.R_base ho27) hb) (jA (Kd.R_elder' Z270 (Kd.R_base ho27) hb) (jA (Kd.R_lower (Kd.R_new' (Kd.R_new' ho27 (Kd.R_lt Z273)) (Kd.R_lt Z270)) (below_size Z297)) (jA (Kd.C_below Z252 hb) (Aside0.mk (below_step Z297 hb)))))
      clear HO_3 HO163 HR156 HB
      obtain ⟨HO_3,HO163,HO152,HR156,HB⟩ := n_
      clear hb ho27
      refine hK.out _ _ (((HB.out.cell (World.block_lt_of_cell? w _ hw160_0)).trans hw160_0)) (fun hHeld => ?_)
      clear hK K
      refine rN (h := ?_)
      refine rO 4 36 12 1023 HT_ (h := fun K hK => ?_)
      refine Kd.R_append_rows_step (Kd.int .i64) (w0 := w) w.heap.size Z238 (.tmp 32) (.tmp 35) 24 3 (.int .i64 0) 8 rfl Try.underlying24 info3 rfl Z293 Z237 v151 y150 y153 _ _ _ (fun k_ => some k_ ≠ (.slice (some ad148) x3_1.length co5 : Value).ownBlock ∧ some k_ ≠ (v162 : Value).ownBlock) (fun _ => False) rfl rfl ?aO ?aR (fun _ _ h => h) (fun _ h => h.elim) ?aF ?aB ?aS ?aL ?_
      (case aR => exact Z41)
      (case aB => exact Z138)
      (case aF => exact Z62)
      (case aO => exact Z126)
      (case aS => exact Z124)
      (case aL => have := LMc16.out;omega)
      intro v158 w28 ho hb hg hat
      rw [← Ny157.out] at ho
      have n_ := jA (Kd.R_after (ok := (fun k_ => some k_ ≠ (v162 : Value).ownBlock)) Z135 hg hat) (jA (Kd.R_after (ok := (fun k_ => some k_ ≠ (.slice (some ad148) x3_1.length co5 : Value).ownBlock)) Z134 hg hat) (jA (hb) (jA ((show Kd.C (Kd.int .i64) w28 (some ad148) y153.length y153 from by rw [Ny153.out];exact Kd.C_take (m := (x5_2 : Int).toNat) ((Kd.R_reads' (Kd.R_after (ok := (fun k_ => some k_ ≠ (v162 : Value).ownBlock)) Z135 hg hat)).2.2) KL23.out)) (Aside0.mk (ho)))))
      clear HO_3 HO163 HB HR156 HO152
      obtain ⟨HO_3,HO163,HB,HR156,HO159⟩ := n_
      clear ho hb hg hat
      refine hK.out _ _ (((HB.out.cell (World.block_lt_of_cell? w _ hw160_0)).trans hw160_0)) (fun hHeld => ?_)
      clear hK K
      refine rN (h := ?_)
      exact norm_ Z208 (hCont (v151,v158,v162) _ ⟨hHeld,Z140,Z142,Z143,Z297⟩)
     rintro ⟨v151,v158,v162⟩ w29 ⟨hS_,h0_,h1_,h2_,h3_⟩
     have n0_ : Aside0 (Kd.R (Kd.int .i64) 3 w29 w.heap.size (fun k_ => some k_ ≠ (v162 : Value).ownBlock ∧ some k_ ≠ (.slice (some ad148) x3_1.length co5 : Value).ownBlock) v158 y157) := ⟨h0_⟩
     have n1_ : Aside0 (Kd.R (Kd.int .i64) 3 w29 w.heap.size (fun k_ => some k_ ≠ (v158 : Value).ownBlock ∧ some k_ ≠ (.slice (some ad148) x3_1.length co5 : Value).ownBlock) v162 y161) := ⟨h1_⟩
     have n2_ : Aside0 (Kd.R (Kd.int .i64) 3 w29 w.heap.size (fun k_ => some k_ ≠ (v158 : Value).ownBlock ∧ some k_ ≠ (v162 : Value).ownBlock) (.slice (some ad148) x3_1.length co5) x3_1) := ⟨h2_⟩
     have n3_ : Aside0 (Below w.heap.size w w29) := ⟨h3_⟩
     clear HO_3
     clear HB
     clear h0_ h1_ h2_ h3_
     have HO159 := n0_
     have HO163 := n1_
     have HO_3 := n2_
     have HB := n3_
     clear n0_ n1_ n2_ n3_
     have hHeld : w29.cell? (ad149.add (x4_1).toNat) = some (.int .i64 (rd l0 x4_1)) := hS_
     obtain ⟨Ao31,co31,eo31⟩ := Kd.R_slice HO163.out
     (first | subst eo31 | (injection eo31 with f1_ f2_ f3_;have f4_ := f1_.symm;have f5_ := f3_.symm;clear f1_ f2_ f3_;subst f4_;subst f5_))
     refine norm_ (a' := ?_) ?_ ?_
     rotate_left
     ·simp only [putAll,Act.put,List.setIfInBounds_toArray,List.set_cons_zero,List.set_cons_succ]
      rfl
     refine rO 10 42 12 2047 HT_ (h := fun K hK => ?_)
     refine Kd.R_append_rows_step (Kd.int .i64) (w0 := w) w.heap.size Z238 (.tmp 36) (.tmp 41) 24 3 (.int .i64 0) 8 rfl Try.underlying24 info3 rfl Z293 Z237 v158 y157 y161 _ _ _ (fun k_ => some k_ ≠ (.slice (some ad148) x3_1.length co5 : Value).ownBlock ∧ some k_ ≠ (.slice Ao31 y161.length co31 : Value).ownBlock) (fun _ => False) rfl rfl ?aO ?aR (fun _ _ h => h) (fun _ h => h.elim) ?aF ?aB ?aS ?aL ?_
     (case aR => repeat (first | exact (Kd.R_reads' HO163.out).2.2 | (with_reducible refine Kd.C_alloc ?_ _) | (with_reducible refine Kd.C_drewN ?_ _) | (with_reducible refine Kd.C_drew ?_)))
     (case aB => exact Z138)
     (case aF => exact Z62)
     (case aO => exact Z140)
     (case aS => exact Z124)
     (case aL => have := LMc17.out;omega)
     intro v165 w30 ho hb hg hat
     rw [← Ny164.out] at ho
     have n_ := jA (Kd.R_after (ok := (fun k_ => some k_ ≠ (.slice Ao31 y161.length co31 : Value).ownBlock)) Z143 hg hat) (jA (Kd.R_after (ok := (fun k_ => some k_ ≠ (.slice (some ad148) x3_1.length co5 : Value).ownBlock)) Z142 hg hat) (jA (hb) (Aside0.mk (ho))))
     clear HO_3 HO163 HB HO159
     obtain ⟨HO_3,HO163,HB,HO166⟩ := n_
     clear ho hb hg hat
     refine hK.out _ _ (((HB.out.cell (World.block_lt_of_cell? w _ hw160_0)).trans hw160_0)) (fun hHeld => ?_)
     clear hK K
     refine rN (h := ?_)
     refine rP 11 6 12 4095 HT_ (h := ?_)
     refine done_ (done_of HT_.out Z236) ?_
     have q32 : (x5_2 : Int) ≤ ((x3_1.length : Int) : Int) := of_decide_eq_true Z217
     obtain ⟨i032,hi032,_,hsz32,_⟩ := info_parts info3
     have hroom32 : x3_1.length ≤ co5 := (Kd.R_reads' HO_3.out).2.1
     have hC32 : Kd.C (Kd.int .i64) _ (some ad148) x3_1.length x3_1 := (Kd.R_reads' HO_3.out).2.2
     have q032 : (0 : Int) ≤ (x5_2 : Int) := of_decide_eq_true Z217
     have hcut32 := cut_from (P := Try.prog) 24 3 .i64 Try.underlying24 hi032 1 hsz32 (some ad148) x3_1.length co5 x5_2 q032 q32
     have hr32 := Kd.C_drop (m := (x5_2 : Int).toNat) (c := co5) hC32 Z237 hroom32
     obtain ⟨A32,hA32⟩ : ∃ A1,A1 = (if co5 = (x5_2 : Int).toNat then (some ad148) else ((some ad148) : Option Addr).map (·.add ((x5_2 : Int).toNat * 1))) := ⟨_,rfl⟩
     obtain ⟨c32,hc32⟩ : ∃ c1,c1 = co5 - (x5_2 : Int).toNat := ⟨_,rfl⟩
     have hy32 : y167.length = x3_1.length - (x5_2 : Int).toNat := (by rw [Ny167.out,List.length_drop] <;> omega)
     rw [show (x3_1).drop (x5_2 : Int).toNat = y167 from Ny167.out.symm] at hr32
     replace hr32 : Kd.C (Kd.int .i64) _ A32 y167.length y167 := (by rw [hA32];exact hr32)
     rw [← hy32,← hA32,← hc32] at hcut32
     have HR170 := Aside0.mk hr32
     have HC170 := Aside0.mk (show y167.length ≤ c32 from by rw [hy32,hc32];exact Nat.sub_le_sub_right hroom32 _)
     clear hr32 hC32 hroom32 hi032 hsz32 hc32
     have KY32 := Aside0.mk hy32
     have KA32 := Aside0.mk hA32
     clear hy32 hA32
     have KL32 := Aside0.mk (show (x5_2 : Int).toNat ≤ x3_1.length from Z237)
     replace q32 := eq_true q32
     try go_wp2_with (first | ((with_reducible refine gate_builtin (b := .append) (xs := #[.tmp 43,.tmp 46]) rfl ?_);at_builtin;refine Kd.R_append_rows (Kd.int .i64) (w0 := w) w.heap.size rfl (.tmp 43) (.tmp 46) 24 3 (.int .i64 0) 8 rfl Try.underlying24 info3 rfl Z293 Z237 v165 y164 y167 _ _ _ (fun k_ => some k_ ≠ (.slice (some ad148) x3_1.length co5 : Value).ownBlock ∧ some k_ ≠ (.slice Ao31 y161.length co31 : Value).ownBlock) (fun _ => False) rfl rfl ?aO ?aR (fun _ _ h => h) (fun _ h => h.elim) ?aF ?aB ?aS ?aL ?_;(case aR => repeat (first | exact (by repeat (first | (with_reducible exact HR170.out) | (with_reducible refine Kd.C_alloc ?_ _) | (with_reducible refine Kd.C_drewN ?_ _) | (with_reducible refine Kd.C_drew ?_) | exact HR170.out)) | (with_reducible refine Kd.C_alloc ?_ _) | (with_reducible refine Kd.C_drewN ?_ _) | (with_reducible refine Kd.C_drew ?_)));(case aB => exact Z138);(case aF => exact Z62);(case aO => exact (by (with_reducible repeat (first | apply Kd.R_alloc | apply Kd.R_drewN | apply Kd.R_drew));exact HO166.out));(case aS => exact Z124);(case aL => have := LMc20.out;omega);intro v172 w33 ho hb hg hat;rw [← Ny171.out] at ho;have n_ := jA (Kd.R_after (ok := (fun k_ => some k_ ≠ (.slice Ao31 y161.length co31 : Value).ownBlock)) Z273 hg hat) (jA (Kd.R_after (ok := (fun k_ => some k_ ≠ (.slice (some ad148) x3_1.length co5 : Value).ownBlock)) Z270 hg hat) (jA (hb) (jA ((show Kd.C (Kd.int .i64) w33 A32 y167.length y167 from by rw [Ny167.out,KA32.out];exact Kd.C_drop (m := (x5_2 : Int).toNat) (c := co5) ((Kd.R_reads' (Kd.R_after (ok := (fun k_ => some k_ ≠ (.slice Ao31 y161.length co31 : Value).ownBlock)) Z273 hg hat)).2.2) KL32.out ((Kd.R_reads' (Kd.R_after (ok := (fun k_ => some k_ ≠ (.slice Ao31 y161.length co31 : Value).ownBlock)) Z273 hg hat)).2.1))) (Aside0.mk (ho)))));clear HO_3 HO163 HB HR170 HO166;obtain ⟨HO_3,HO163,HB,HR170,HO173⟩ := n_;clear ho hb hg hat))
     go_roundg k2
     case measure => have := HK1.out;have := HK2.out;omega
     case rel => exact ⟨(y171),(wrap64 (x4_1 + 1)),Z218,H',⟨Z221⟩,⟨by (with_reducible repeat (first | apply Kd.R_alloc | apply Kd.R_drewN | apply Kd.R_drew));exact Kd.R_mono HO173.out (fun _ hk => trivial)⟩,⟨Z297⟩⟩

end Go.Proofs.Ytnidkpkfkklkaaa.QFnExactGridOf
