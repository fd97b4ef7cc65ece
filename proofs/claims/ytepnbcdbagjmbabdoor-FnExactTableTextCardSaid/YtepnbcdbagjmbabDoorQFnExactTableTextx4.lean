/- The machine side of FnExactTableText: what each Go function that it reaches comes to. Conditions: none. -/
import Derived.Test.YtepnbcdbagjmbabDoorQFnExactTableTextx0
import Derived.Test.YtepnbcdbagjmbabDoorQFnExactTableTextx3
namespace Go.Proofs.YtepnbcdbagjmbabDoor.QFnExactTableText
open Go.RowKit Go.Proofs.YtepnbcdbagjmbabDoorW.PrintWords Go.Proofs.YtepnbcdbagjmbabDoorW.PrintLast Go.Proofs.YtepnbcdbagjmbabDoorW.PrintMore
attribute [local go_sem] max2_int min2_int max_two min_two max_three min_three max_four min_four   -- for this text's walks alone
set_option linter.unusedVariables false
set_option linter.unusedSimpArgs false

/-! ### spec_CsvText: function 14 -/
mutual
def spec_CsvText.l0 : Nat → List (List ByteArray) → List Int → Int → Option (ByteArray)
 | 0,_,_,_ => none
 | k + 1,x0,x3,x4 => if x4 < (x0.length : Int) then (spec_CsvText.l1 k x0 x3 x4 0) else (some (strOfNums x3))
def spec_CsvText.l1 : Nat → List (List ByteArray) → List Int → Int → Int → Option (ByteArray)
 | 0,_,_,_,_ => none
 | k + 1,x0,x3,x4,x5 => if 0 ≤ x4 then (if x4 < (x0.length : Int) then (if x5 < ((rd_L4 x0 x4).length : Int) then (if x5 > 0 then (if x3.length < 140737488355328 then ((some (x3 ++ [44] : List Int)).bind fun y180 => (if 0 ≤ x5 then ((spec_CsvField.f k (rdOf ByteArray.empty (rd_L4 x0 x4) x5)).bind fun t185 => (if y180.length + t185.size < 140737488355328 then (spec_CsvText.l1 k x0 (y180 ++ bytesOf t185) x4 (wrap64 (x5 + 1))) else (none))) else (none))) else (none)) else (if 0 ≤ x5 then ((spec_CsvField.f k (rdOf ByteArray.empty (rd_L4 x0 x4) x5)).bind fun t191 => (if x3.length + t191.size < 140737488355328 then (spec_CsvText.l1 k x0 (x3 ++ bytesOf t191) x4 (wrap64 (x5 + 1))) else (none))) else (none))) else (if x3.length < 140737488355328 then (spec_CsvText.l0 k x0 (x3 ++ [10]) (wrap64 (x4 + 1))) else (none))) else (none)) else (none)
end
def spec_CsvText.f (k : Nat) (l0 : List (List ByteArray)) : Option (ByteArray) := spec_CsvText.l0 k l0 (([] : List Int)) 0
theorem spec_CsvText.mono_l : ∀ k,(∀ y0 y1 y2,LeO (spec_CsvText.l0 k y0 y1 y2) (spec_CsvText.l0 (k + 1) y0 y1 y2)) ∧ (∀ y0 y1 y2 y3,LeO (spec_CsvText.l1 k y0 y1 y2 y3) (spec_CsvText.l1 (k + 1) y0 y1 y2 y3))
 | 0 => ⟨fun _ _ _ r h => by simp [spec_CsvText.l0] at h,fun _ _ _ _ r h => by simp [spec_CsvText.l1] at h⟩
 | k + 1 => by
  obtain ⟨ih0,ih1⟩ := spec_CsvText.mono_l k
  refine ⟨?_,?_⟩
  ·intro y0 y1 y2
   unfold spec_CsvText.l0
   repeat' first
   | (with_reducible exact ih0 _ _ _)
   | (with_reducible exact ih1 _ _ _ _)
   | (with_reducible exact spec_CsvField.mono _ _)
   | (with_reducible exact LeO.refl _)
   | (with_reducible exact LeO.none _)
   | (with_reducible refine LeO.ite ?_ ?_)
   | (with_reducible refine LeO.bind ?_ (fun _ => ?_))
   | exact ih0 _ _ _
   | exact ih1 _ _ _ _
   | exact spec_CsvField.mono _ _
   | exact LeO.none _
   | refine LeO.ite ?_ ?_
   | refine LeO.bind ?_ (fun _ => ?_)
  ·intro y0 y1 y2 y3
   unfold spec_CsvText.l1
   repeat' first
   | (with_reducible exact ih0 _ _ _)
   | (with_reducible exact ih1 _ _ _ _)
   | (with_reducible exact spec_CsvField.mono _ _)
   | (with_reducible exact LeO.refl _)
   | (with_reducible exact LeO.none _)
   | (with_reducible refine LeO.ite ?_ ?_)
   | (with_reducible refine LeO.bind ?_ (fun _ => ?_))
   | exact ih0 _ _ _
   | exact ih1 _ _ _ _
   | exact spec_CsvField.mono _ _
   | exact LeO.none _
   | refine LeO.ite ?_ ?_
   | refine LeO.bind ?_ (fun _ => ?_)
theorem spec_CsvText.mono : ∀ a0 k,LeO (spec_CsvText.f k a0) (spec_CsvText.f (k + 1) a0) := by
 intro a0 k
 obtain ⟨ih0,ih1⟩ := spec_CsvText.mono_l k
 unfold spec_CsvText.f
 repeat' first
   | (with_reducible exact ih0 _ _ _)
   | (with_reducible exact ih1 _ _ _ _)
   | (with_reducible exact spec_CsvField.mono _ _)
   | (with_reducible exact LeO.refl _)
   | (with_reducible exact LeO.none _)
   | (with_reducible refine LeO.ite ?_ ?_)
   | (with_reducible refine LeO.bind ?_ (fun _ => ?_))
   | exact ih0 _ _ _
   | exact ih1 _ _ _ _
   | exact spec_CsvField.mono _ _
   | exact LeO.none _
   | refine LeO.ite ?_ ?_
   | refine LeO.bind ?_ (fun _ => ?_)
set_option maxHeartbeats 8000000 in
set_option maxRecDepth 100000 in
theorem spec_CsvText.calls (k : Nat) (A0 : Option Addr) (c0 : Nat) (l0 : List (List ByteArray)) (r : ByteArray) (w : World) (hr0 : Kd.C (Kd.slice 9 Kd.string) w A0 l0.length l0) (hc0 : l0.length ≤ c0) (h : spec_CsvText.f k l0 = some r) :
  Calls Tryd.prog 14 #[.slice A0 l0.length c0] w fun e w' => e = .returned (.string r) ∧ Below w.heap.size w w' := by
 have HR0 := Aside0.mk hr0
 have HC0 := Aside0.mk hc0
 clear hr0 hc0
 have HB := Aside0.mk (Below.refl w.heap.size w)
 have H := h
 clear h
 unfold spec_CsvText.f at H
 obtain ⟨y176,hyy⟩ : ∃ y_ : List Int,y_ = (([] : List Int)) := ⟨_,rfl⟩
 replace H : (spec_CsvText.l0 k l0 y176 0) = some r := zR
 have Ny176 := Aside0.mk hyy
 clear hyy
 have H' := Aside0.mk H
 clear H
 go_enter Tryd.func14,Tryd.ntmps14
 go_wp2_with (first | ((with_reducible refine gate_dst (N := 6) rfl ?_);refine Kd.R_lit (Kd.int .u8) _ 5 ?hg (N := 6) ?hd (xs := ([] : List Int)) (inner := []) (ok := fun _ => True) (okp := fun _ => True) ?hr ?hp (fun _ hk => hk) trivial (Below.refl _ _) (Nat.le_refl _) Z146 ?_;(case hd => rfl);(case hg => rfl);(case hr => exact Z107);(case hp => exact Z117);intro v177 w2 ho3 hb hg_ hnew_;clear hg_ hnew_;(first | rw [← Ny176.out] at ho3 | (simp only [Int.reduceToNat] at ho3;rw [← Ny176.out] at ho3));have n_ := Z20;clear HB;obtain ⟨HO178,HB⟩ := n_;clear hb ho3))
 go_loopg [3,4] k (fun kq v3 v4 w' => ∃ (x3_1 : List Int) (x4_1 : Int),v4 = .int .i64 x4_1 ∧ Aside0 (spec_CsvText.l0 kq l0 x3_1 x4_1 = some r) ∧ Aside0 (kq ≤ k) ∧ Aside0 (Kd.R (Kd.int .u8) 5 w' w.heap.size (fun _ => True) v3 x3_1) ∧ Aside0 (Below w.heap.size w w'))
 case atStart => exact ⟨(y176),(0),Z106,H',⟨Nat.le_refl _⟩,⟨by (with_reducible repeat (first | apply Kd.R_alloc | apply Kd.R_drewN | apply Kd.R_drew));exact HO178.out⟩,⟨Z148⟩⟩
 case round =>
  clear H'
  try clear c1
  try clear p2
  obtain ⟨x3_1,x4_1,rfl,HA,HK1,HO_3,HB⟩ := hrel
  cases gk with
  | zero => exact absurd HA.out (by simp [spec_CsvText.l0])
  | succ k1 =>
   have H := HA.out
   clear HA
   simp only [spec_CsvText.l0] at H
   by_cases c4 : x4_1 < (l0.length : Int)
   rotate_left
   ·rw [if_neg c4] at H
    have c4b0 : decide (x4_1 < (l0.length : Int)) = false := decide_eq_false c4
    clear c4
    obtain rfl := Option.some.inj H
    have hcv23 := own_string (P := Tryd.prog) Tryd.underlying51 Tryd.underlying5 Tryd.underlying9 (Kd.own_of_R HO_3.out)
    go_wp2
    go_ret
    exact ⟨Z98,Z148⟩
   rw [if_pos c4] at H
   have c4b0 : decide (x4_1 < (l0.length : Int)) = true := decide_eq_true c4
   clear c4
   have H' := Aside0.mk H
   clear H
   go_wp2
   go_loopg [3,5] k1 (fun kq v3 v5 w' => ∃ (x3_2 : List Int) (x5_2 : Int),v5 = .int .i64 x5_2 ∧ Aside0 (spec_CsvText.l1 kq l0 x3_2 x4_1 x5_2 = some r) ∧ Aside0 (kq ≤ k1) ∧ Aside0 (Kd.R (Kd.int .u8) 5 w' w.heap.size (fun _ => True) v3 x3_2) ∧ Aside0 (Below w.heap.size w w'))
   case atStart => exact ⟨(x3_1),(0),Z106,H',⟨Nat.le_refl _⟩,⟨Z138⟩,⟨Z148⟩⟩
   case round =>
    clear H'
    try clear c1
    try clear p2
    try clear c4
    try clear c4b0
    try clear p2
    obtain ⟨x3_2,x5_2,rfl,HA,HK2,HO_3,HB⟩ := hrel
    cases gk with
    | zero => exact absurd HA.out (by simp [spec_CsvText.l1])
    | succ k2 =>
     have H := HA.out
     clear HA
     simp only [spec_CsvText.l1] at H
     obtain ⟨c5,H⟩ := ifp H
     have c5b0 : decide (0 ≤ x4_1) = true := decide_eq_true c5
     clear c5
     obtain ⟨c6,H⟩ := ifp H
     have c6b0 : decide (x4_1 < (l0.length : Int)) = true := decide_eq_true c6
     clear c6
     by_cases c7 : x5_2 < ((rd_L4 l0 x4_1).length : Int)
     rotate_left
     ·rw [if_neg c7] at H
      have c7b0 : decide (x5_2 < ((rd_L4 l0 x4_1).length : Int)) = false := decide_eq_false c7
      clear c7
      obtain ⟨c21,H⟩ := ifp H
      have LMc21 := Aside0.mk c21
      clear c21
      obtain ⟨y195,hyy⟩ : ∃ y_ : List Int,y_ = (x3_2 ++ [10]) := ⟨_,rfl⟩
      replace H : (spec_CsvText.l0 k2 l0 y195 (wrap64 (x4_1 + 1))) = some r := zR
      have Ny195 := Aside0.mk hyy
      clear hyy
      have H' := Aside0.mk H
      clear H
      have p179 : 0 ≤ (x4_1 : Int) := of_decide_eq_true Z105
      have q179 : x4_1 < (l0.length : Int) := of_decide_eq_true Z105
      obtain ⟨ad179,A179_0,c179_0,e179,hx179_0,hl179_0,hi179_0⟩ := at_L4 HR0.out x4_1 p179 q179
      cases e179
      replace hx179_0 := (HB.out.cell (World.block_lt_of_cell? w _ hx179_0)).trans hx179_0
      have HR179_0 := Aside0.mk hi179_0
      have HC179_0 := Aside0.mk hl179_0
      clear hi179_0 hl179_0
      replace p179 := eq_true p179
      replace q179 := eq_true q179
      go_wp2_with (first | ((with_reducible refine gate_builtin (b := .append) (xs := #[.tmp 37,.tmp 38]) rfl ?_);at_builtin;refine Kd.R_append (Kd.int .u8) (w0 := w) w.heap.size rfl (.tmp 37) (.tmp 38) 51 5 (.int .u8 0) 1 rfl Tryd.underlying51 info5 rfl Z145 Z122 u3 x3_2 10 [.int .u8 10] (fun _ => True) (fun _ => False) rfl rfl ?aP (fun _ hk => hk.elim) ?aF ?aO ?aB ?aS ?aL ?_;(case aP => exact rfl);(case aB => exact Z63);(case aF => exact Z114);(case aO => exact Z75);(case aS => exact Z57);(case aL => have := LMc21.out;omega);intro v196 w22 ho hb hg hat;rw [← Ny195.out] at ho;have n_ := jA (hb) (Aside0.mk (ho));clear HB HO_3;obtain ⟨HB,HO197⟩ := n_;clear ho hb hg hat))
      go_roundg k2
      case measure => have := HK1.out;have := HK2.out;omega
      case rel => exact ⟨(y195),(wrap64 (x4_1 + 1)),Z106,H',⟨Z108⟩,⟨by (with_reducible repeat (first | apply Kd.R_alloc | apply Kd.R_drewN | apply Kd.R_drew));exact HO197.out⟩,⟨Z148⟩⟩
     rw [if_pos c7] at H
     have c7b0 : decide (x5_2 < ((rd_L4 l0 x4_1).length : Int)) = true := decide_eq_true c7
     clear c7
     by_cases c8 : x5_2 > 0
     rotate_left
     ·rw [if_neg c8] at H
      have c8b0 : decide (0 < x5_2) = false := decide_eq_false c8
      clear c8
      obtain ⟨c16,H⟩ := ifp H
      have c16b0 : decide (0 ≤ x5_2) = true := decide_eq_true c16
      clear c16
      obtain ⟨t191,A170,H⟩ := Option.bind_eq_some_iff.mp H
      have A17 := Aside0.mk A170
      clear A170
      obtain ⟨c18,H⟩ := ifp H
      have LMc18 := Aside0.mk c18
      clear c18
      obtain ⟨y192,hyy⟩ : ∃ y_ : List Int,y_ = (x3_2 ++ bytesOf t191) := ⟨_,rfl⟩
      replace H : (spec_CsvText.l1 k2 l0 y192 x4_1 (wrap64 (x5_2 + 1))) = some r := zR
      have Ny192 := Aside0.mk hyy
      clear hyy
      have H' := Aside0.mk H
      clear H
      have p179 : 0 ≤ (x4_1 : Int) := of_decide_eq_true Z105
      have q179 : x4_1 < (l0.length : Int) := of_decide_eq_true Z105
      obtain ⟨ad179,A179_0,c179_0,e179,hx179_0,hl179_0,hi179_0⟩ := at_L4 HR0.out x4_1 p179 q179
      cases e179
      replace hx179_0 := (HB.out.cell (World.block_lt_of_cell? w _ hx179_0)).trans hx179_0
      have HR179_0 := Aside0.mk hi179_0
      have HC179_0 := Aside0.mk hl179_0
      clear hi179_0 hl179_0
      replace p179 := eq_true p179
      replace q179 := eq_true q179
      have p189 : 0 ≤ (x4_1 : Int) := of_decide_eq_true Z105
      have q189 : x4_1 < (l0.length : Int) := of_decide_eq_true Z105
      obtain ⟨ad189,A189_0,c189_0,e189,hx189_0,hl189_0,hi189_0⟩ := at_L4 HR0.out x4_1 p189 q189
      obtain rfl : ad179 = ad189 := (by injection e189)
      replace hx189_0 := (HB.out.cell (World.block_lt_of_cell? w _ hx189_0)).trans hx189_0
      have HR189_0 := Aside0.mk hi189_0
      have HC189_0 := Aside0.mk hl189_0
      clear hi189_0 hl189_0
      replace p189 := eq_true p189
      replace q189 := eq_true q189
      have ea_ := Option.some.inj (hx179_0.symm.trans hx189_0)
      injection ea_ with ea_ en_ ec_
      subst ea_
      subst ec_
      clear en_
      have p190 : 0 ≤ (x5_2 : Int) := of_decide_eq_true Z105
      have q190 : x5_2 < ((rd_L4 l0 x4_1).length : Int) := of_decide_eq_true Z105
      obtain ⟨ad190,e190,hx190_0⟩ := Kd.at_string HR189_0.out x5_2 p190 q190
      cases e190
      replace hx190_0 := (HB.out.cell (World.block_lt_of_cell? w _ hx190_0)).trans hx190_0
      replace p190 := eq_true p190
      replace q190 := eq_true q190
      go_wp2_with (first | ((with_reducible refine gate_callee (f := 31) rfl ?_);refine goesL_ (some 35) rfl rfl Tryd.func31 Z121 rfl #[.string (rdOf ByteArray.empty (rd_L4 l0 x4_1) x5_2)] rfl Z66 ?_;(with_reducible refine (spec_CsvField.calls k2 (rdOf ByteArray.empty (rd_L4 l0 x4_1) x5_2) t191 _ A17.out).mono ?_);rintro e w19 ⟨rfl,hb⟩;refine ⟨_,rfl,?_⟩;have n_ := Z29;clear HO_3 HB;obtain ⟨HO_3,HB⟩ := n_;(try clear hb);(try clear hb2);(try clear hk);(try clear hi)) | (at_builtin;refine print_append_str (w0 := w) w.heap.size rfl (.tmp 27) _ 51 9 5 rfl Tryd.underlying51 Tryd.underlying9 info5 u3 x3_2 t191 rfl rfl ?aO ?aB ?aS ?aL ?_;(case aB => exact Z63);(case aO => exact Z72);(case aS => exact Z57);(case aL => have := LMc18.out;omega);intro v193 w20 ho0 hb hg;have ho := Kd.R_of_own (h1 := fun _ => rfl) (ok := fun _ => True) ho0 (fun _ _ => trivial);clear ho0;have hat := True.intro;rw [← Ny192.out] at ho;change Kd.R (Kd.int .u8) 5 w20 w.heap.size (fun _ => True) v193 y192 at ho;have n_ := jA (hb) (Aside0.mk (ho));clear HB HO_3;obtain ⟨HB,HO194⟩ := n_;clear ho hb hg hat))
      go_roundg k2
      case measure => have := HK1.out;have := HK2.out;omega
      case rel => exact ⟨(y192),(wrap64 (x5_2 + 1)),Z106,H',⟨Z108⟩,⟨by (with_reducible repeat (first | apply Kd.R_alloc | apply Kd.R_drewN | apply Kd.R_drew));exact HO194.out⟩,⟨Z148⟩⟩
     rw [if_pos c8] at H
     have c8b0 : decide (0 < x5_2) = true := decide_eq_true c8
     clear c8
     obtain ⟨c9,H⟩ := ifp H
     have LMc9 := Aside0.mk c9
     clear c9
     obtain ⟨y180,hyy⟩ : ∃ y_ : List Int,y_ = (x3_2 ++ [44]) := ⟨_,rfl⟩
     replace H : (if 0 ≤ x5_2 then ((spec_CsvField.f k2 (rdOf ByteArray.empty (rd_L4 l0 x4_1) x5_2)).bind fun t185 => (if y180.length + t185.size < 140737488355328 then (spec_CsvText.l1 k2 l0 (y180 ++ bytesOf t185) x4_1 (wrap64 (x5_2 + 1))) else (none))) else (none)) = some r := zR
     have Ny180 := Aside0.mk hyy
     clear hyy
     obtain ⟨c10,H⟩ := ifp H
     have c10b0 : decide (0 ≤ x5_2) = true := decide_eq_true c10
     clear c10
     obtain ⟨t185,A110,H⟩ := Option.bind_eq_some_iff.mp H
     have A11 := Aside0.mk A110
     clear A110
     obtain ⟨c12,H⟩ := ifp H
     have LMc12 := Aside0.mk c12
     clear c12
     obtain ⟨y186,hyy⟩ : ∃ y_ : List Int,y_ = (y180 ++ bytesOf t185) := ⟨_,rfl⟩
     replace H : (spec_CsvText.l1 k2 l0 y186 x4_1 (wrap64 (x5_2 + 1))) = some r := zR
     have Ny186 := Aside0.mk hyy
     clear hyy
     have H' := Aside0.mk H
     clear H
     have p179 : 0 ≤ (x4_1 : Int) := of_decide_eq_true Z105
     have q179 : x4_1 < (l0.length : Int) := of_decide_eq_true Z105
     obtain ⟨ad179,A179_0,c179_0,e179,hx179_0,hl179_0,hi179_0⟩ := at_L4 HR0.out x4_1 p179 q179
     cases e179
     replace hx179_0 := (HB.out.cell (World.block_lt_of_cell? w _ hx179_0)).trans hx179_0
     have HR179_0 := Aside0.mk hi179_0
     have HC179_0 := Aside0.mk hl179_0
     clear hi179_0 hl179_0
     replace p179 := eq_true p179
     replace q179 := eq_true q179
     go_wp2_with (first | ((with_reducible refine gate_builtin (b := .append) (xs := #[.tmp 24,.tmp 25]) rfl ?_);at_builtin;refine Kd.R_append (Kd.int .u8) (w0 := w) w.heap.size rfl (.tmp 24) (.tmp 25) 51 5 (.int .u8 0) 1 rfl Tryd.underlying51 info5 rfl Z145 Z122 u3 x3_2 44 [.int .u8 44] (fun _ => True) (fun _ => False) rfl rfl ?aP (fun _ hk => hk.elim) ?aF ?aO ?aB ?aS ?aL ?_;(case aP => exact rfl);(case aB => exact Z63);(case aF => exact Z114);(case aO => exact Z75);(case aS => exact Z57);(case aL => have := LMc9.out;omega);intro v181 w13 ho hb hg hat;rw [← Ny180.out] at ho;have n_ := jA (hb) (Aside0.mk (ho));clear HB HO_3;obtain ⟨HB,HO182⟩ := n_;clear ho hb hg hat;have p183 : 0 ≤ (x4_1 : Int) := of_decide_eq_true Z105;have q183 : x4_1 < (l0.length : Int) := of_decide_eq_true Z105;obtain ⟨ad183,A183_0,c183_0,e183,hx183_0,hl183_0,hi183_0⟩ := at_L4 HR0.out x4_1 p183 q183;obtain rfl : ad179 = ad183 := (by injection e183);replace hx183_0 := (HB.out.cell (World.block_lt_of_cell? w _ hx183_0)).trans hx183_0;have HR183_0 := Aside0.mk hi183_0;have HC183_0 := Aside0.mk hl183_0;clear hi183_0 hl183_0;replace p183 := eq_true p183;replace q183 := eq_true q183;have p184 : 0 ≤ (x5_2 : Int) := of_decide_eq_true Z105;have q184 : x5_2 < ((rd_L4 l0 x4_1).length : Int) := of_decide_eq_true Z105;obtain ⟨ad184,e184,hx184_0⟩ := Kd.at_string HR183_0.out x5_2 p184 q184;cases e184;replace hx184_0 := (HB.out.cell (World.block_lt_of_cell? w _ hx184_0)).trans hx184_0;replace p184 := eq_true p184;replace q184 := eq_true q184) | ((with_reducible refine gate_callee (f := 31) rfl ?_);refine goesL_ (some 35) rfl rfl Tryd.func31 Z121 rfl #[.string (rdOf ByteArray.empty (rd_L4 l0 x4_1) x5_2)] rfl Z66 ?_;(with_reducible refine (spec_CsvField.calls k2 (rdOf ByteArray.empty (rd_L4 l0 x4_1) x5_2) t185 _ A11.out).mono ?_);rintro e w14 ⟨rfl,hb⟩;refine ⟨_,rfl,?_⟩;have n_ := jA (Kd.R_below Z91 hb) (Aside0.mk (below_step Z148 hb));clear HO182 HB;obtain ⟨HO182,HB⟩ := n_;(try clear hb);(try clear hb2);(try clear hk);(try clear hi)) | (at_builtin;refine print_append_str (w0 := w) w.heap.size rfl (.tmp 27) _ 51 9 5 rfl Tryd.underlying51 Tryd.underlying9 info5 v181 y180 t185 rfl rfl ?aO ?aB ?aS ?aL ?_;(case aB => exact Z63);(case aO => exact (Kd.own_of_R Z91));(case aS => exact Z57);(case aL => have := LMc12.out;omega);intro v187 w15 ho0 hb hg;have ho := Kd.R_of_own (h1 := fun _ => rfl) (ok := fun _ => True) ho0 (fun _ _ => trivial);clear ho0;have hat := True.intro;rw [← Ny186.out] at ho;change Kd.R (Kd.int .u8) 5 w15 w.heap.size (fun _ => True) v187 y186 at ho;have n_ := jA (hb) (Aside0.mk (ho));clear HB HO182;obtain ⟨HB,HO188⟩ := n_;clear ho hb hg hat))
     go_roundg k2
     case measure => have := HK1.out;have := HK2.out;omega
     case rel => exact ⟨(y186),(wrap64 (x5_2 + 1)),Z106,H',⟨Z108⟩,⟨by (with_reducible repeat (first | apply Kd.R_alloc | apply Kd.R_drewN | apply Kd.R_drew));exact HO188.out⟩,⟨Z148⟩⟩

end Go.Proofs.YtepnbcdbagjmbabDoor.QFnExactTableText
