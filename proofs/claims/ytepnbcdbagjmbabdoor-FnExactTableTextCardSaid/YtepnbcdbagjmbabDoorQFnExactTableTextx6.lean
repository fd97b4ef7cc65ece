/- The machine side of FnExactTableText: what each Go function that it reaches comes to. Conditions: none. -/
import Derived.Test.YtepnbcdbagjmbabDoorQFnExactTableTextx0
import Derived.Test.YtepnbcdbagjmbabDoorQFnExactTableTextx1
namespace Go.Proofs.YtepnbcdbagjmbabDoor.QFnExactTableText
open Go.RowKit Go.Proofs.YtepnbcdbagjmbabDoorW.PrintWords Go.Proofs.YtepnbcdbagjmbabDoorW.PrintLast Go.Proofs.YtepnbcdbagjmbabDoorW.PrintMore
attribute [local go_sem] max2_int min2_int max_two min_two max_three min_three max_four min_four   -- for this text's walks alone
set_option linter.unusedVariables false
set_option linter.unusedSimpArgs false

/-! ### laws_toStringS: function 15 -/
def laws_toStringS.l0 : Nat → List ByteArray → List ByteArray → Int → Option (List ByteArray)
 | 0,_,_,_ => none
 | k + 1,x0,x3,x4 => if x4 < (x0.length : Int) then (if 0 ≤ x4 then (if x4 < (x3.length : Int) then (laws_toStringS.l0 k x0 (x3.set (x4 : Int).toNat (rdOf ByteArray.empty x0 x4)) (wrap64 (x4 + 1))) else (none)) else (none)) else (some x3)
def laws_toStringS.f (k : Nat) (l0 : List ByteArray) : Option (List ByteArray) := if 0 ≤ (l0.length : Int) then (if ((l0.length : Int) : Int).toNat ≤ 17592186044416 then (laws_toStringS.l0 k l0 (List.replicate ((l0.length : Int) : Int).toNat (⟨#[]⟩ : ByteArray)) 0) else (none)) else (none)
theorem laws_toStringS.mono_l : ∀ k,(∀ y0 y1 y2,LeO (laws_toStringS.l0 k y0 y1 y2) (laws_toStringS.l0 (k + 1) y0 y1 y2))
 | 0 => fun _ _ _ r h => by simp [laws_toStringS.l0] at h
 | k + 1 => by
  have ih0 := laws_toStringS.mono_l k
  ·intro y0 y1 y2
   unfold laws_toStringS.l0
   repeat' first
   | (with_reducible exact ih0 _ _ _)
   | (with_reducible exact LeO.refl _)
   | (with_reducible exact LeO.none _)
   | (with_reducible refine LeO.ite ?_ ?_)
   | (with_reducible refine LeO.bind ?_ (fun _ => ?_))
   | exact ih0 _ _ _
   | exact LeO.none _
   | refine LeO.ite ?_ ?_
   | refine LeO.bind ?_ (fun _ => ?_)
theorem laws_toStringS.mono : ∀ a0 k,LeO (laws_toStringS.f k a0) (laws_toStringS.f (k + 1) a0) := by
 intro a0 k
 have ih0 := laws_toStringS.mono_l k
 unfold laws_toStringS.f
 repeat' first
   | (with_reducible exact ih0 _ _ _)
   | (with_reducible exact LeO.refl _)
   | (with_reducible exact LeO.none _)
   | (with_reducible refine LeO.ite ?_ ?_)
   | (with_reducible refine LeO.bind ?_ (fun _ => ?_))
   | exact ih0 _ _ _
   | exact LeO.none _
   | refine LeO.ite ?_ ?_
   | refine LeO.bind ?_ (fun _ => ?_)
set_option maxHeartbeats 8000000 in
set_option maxRecDepth 100000 in
theorem laws_toStringS.calls (k : Nat) (A0 : Option Addr) (c0 : Nat) (l0 : List ByteArray) (r : List ByteArray) (w : World) (hr0 : Kd.C Kd.string w A0 l0.length l0) (hc0 : l0.length ≤ c0) (h : laws_toStringS.f k l0 = some r) :
  Calls Tryd.prog 15 #[.slice A0 l0.length c0] w fun e w' => ∃ v0_ : Value,e = .returned (v0_) ∧ Kd.R Kd.string 9 w' w.heap.size (fun _ => True) v0_ r ∧ Below w.heap.size w w' := by
 have HR0 := Aside0.mk hr0
 have HC0 := Aside0.mk hc0
 clear hr0 hc0
 have HB := Aside0.mk (Below.refl w.heap.size w)
 have H := h
 clear h
 unfold laws_toStringS.f at H
 obtain ⟨c2,H⟩ := ifp H
 have c2b0 := eq_true c2
 have c2b1 : decide (0 ≤ (l0.length : Int)) = true := decide_eq_true c2
 clear c2
 obtain ⟨c3,H⟩ := ifp H
 have c3b0 := eq_true c3
 have c3b1 : decide (((l0.length : Int) : Int).toNat ≤ 17592186044416) = true := decide_eq_true c3
 clear c3
 obtain ⟨y243,hyy⟩ : ∃ y_ : List ByteArray,y_ = (List.replicate ((l0.length : Int) : Int).toNat (⟨#[]⟩ : ByteArray)) := ⟨_,rfl⟩
 replace H : (laws_toStringS.l0 k l0 y243 0) = some r := zR
 have Ny243 := Aside0.mk hyy
 clear hyy
 have H' := Aside0.mk H
 clear H
 go_enter Tryd.func15,Tryd.ntmps15
 go_wp2_with (first | ((with_reducible refine gate_dst (N := 7) rfl ?_);refine Kd.R_make Kd.string _ 9 rfl (N := 7) rfl 22 _ _ rfl (l0.length : Int) rfl rfl Tryd.underlying22 (.string ⟨#[]⟩) 16 info9 rfl Z145 Z122 (⟨#[]⟩ : ByteArray) (ok := fun _ => True) (okp := fun _ => True) rfl (fun _ hk => hk) trivial (of_decide_eq_true Z105) (Nat.le_trans (Nat.mul_le_mul_right _ (of_decide_eq_true Z105 : (l0.length : Int).toNat ≤ 17592186044416)) Z122) (Below.refl _ _) (Nat.le_refl _) ?_;intro v244 w4 ho5 hb hg_ hnew_;clear hg_ hnew_;(first | rw [← Ny243.out] at ho5 | (simp only [Int.reduceToNat] at ho5;rw [← Ny243.out] at ho5));have n_ := Z21;clear HB;obtain ⟨HO245,HB⟩ := n_;clear hb ho5))
 go_loopg [4] k (fun kq v4 w' => ∃ (x3_1 : List ByteArray) (x4_1 : Int),v4 = .int .i64 x4_1 ∧ Aside0 (laws_toStringS.l0 kq l0 x3_1 x4_1 = some r) ∧ Aside0 (kq ≤ k) ∧ Aside0 (Kd.R Kd.string 9 w' w.heap.size (fun _ => True) v244 x3_1) ∧ Aside0 (Below w.heap.size w w'))
 case atStart => exact ⟨(y243),(0),Z106,H',⟨Nat.le_refl _⟩,⟨by (with_reducible repeat (first | apply Kd.R_alloc | apply Kd.R_drewN | apply Kd.R_drew));exact HO245.out⟩,⟨Z148⟩⟩
 case round =>
  clear H'
  try clear c1
  try clear c2
  try clear c2b0
  try clear c2b1
  try clear p2
  try clear c3
  try clear c3b0
  try clear c3b1
  obtain ⟨x3_1,x4_1,rfl,HA,HK1,HO_3,HB⟩ := hrel
  cases gk with
  | zero => exact absurd HA.out (by simp [laws_toStringS.l0])
  | succ k1 =>
   have H := HA.out
   clear HA
   simp only [laws_toStringS.l0] at H
   by_cases c6 : x4_1 < (l0.length : Int)
   rotate_left
   ·rw [if_neg c6] at H
    have c6b0 : decide (x4_1 < (l0.length : Int)) = false := decide_eq_false c6
    clear c6
    obtain rfl := Option.some.inj H
    go_wp2
    go_ret
    exact ⟨_,Z98,Z138,Z148⟩
   rw [if_pos c6] at H
   have c6b0 : decide (x4_1 < (l0.length : Int)) = true := decide_eq_true c6
   clear c6
   obtain ⟨c7,H⟩ := ifp H
   have c7b0 : decide (0 ≤ x4_1) = true := decide_eq_true c7
   clear c7
   obtain ⟨c8,H⟩ := ifp H
   have c8b0 : decide (x4_1 < (x3_1.length : Int)) = true := decide_eq_true c8
   clear c8
   obtain ⟨y247,hyy⟩ : ∃ y_ : List ByteArray,y_ = (x3_1.set (x4_1 : Int).toNat (rdOf ByteArray.empty l0 x4_1)) := ⟨_,rfl⟩
   replace H : (laws_toStringS.l0 k1 l0 y247 (wrap64 (x4_1 + 1))) = some r := zR
   have Ny247 := Aside0.mk hyy
   clear hyy
   have H' := Aside0.mk H
   clear H
   have p246 : 0 ≤ (x4_1 : Int) := of_decide_eq_true Z105
   have q246 : x4_1 < (l0.length : Int) := of_decide_eq_true Z105
   obtain ⟨ad246,e246,hx246_0⟩ := Kd.at_string HR0.out x4_1 p246 q246
   cases e246
   replace hx246_0 := (HB.out.cell (World.block_lt_of_cell? w _ hx246_0)).trans hx246_0
   replace p246 := eq_true p246
   replace q246 := eq_true q246
   have p9 : 0 ≤ (x4_1 : Int) := of_decide_eq_true Z105
   have q9 : (x4_1 : Int) < ((x3_1.length : Int) : Int) := of_decide_eq_true Z105
   obtain ⟨go9,co9,eo9,gb9,gl9,cl9,HG9⟩ := Kd.R_form HO_3.out Z122
   (first | cases eo9 | (injection eo9 with ea_ en_ ec_;(first | subst ea_ | (injection ea_ with ea_;subst ea_));subst ec_;clear en_))
   have GB9 := Aside0.mk gb9
   have GG9 := Aside0.mk HG9
   clear gb9 gl9 HG9
   obtain ⟨hx9_0,hf9_0⟩ := Kd.R_celln (⟨#[]⟩ : ByteArray) HO_3.out (x4_1 : Int) p9 q9
   replace p9 := eq_true p9
   replace q9 := eq_true q9
   have HP10 := Kd.R_putg HO_3.out (x4_1 : Int) (rdOf ByteArray.empty l0 x4_1)
   go_wp2_with (first | ((with_reducible refine gate_store (t := 9) (p := 20) rfl ?_);refine store_event (t := 9) (p := 20) (v := ?vo_w11) (w1 := (wr.setCell ⟨go9,(x4_1 : Int).toNat,none⟩ (.string (rdOf ByteArray.empty l0 x4_1)))) ?hg ?ho ?hn ?hr ?_;(case ho => rfl);(case hg => rfl);(case hn => rfl);(case hr => exact Z107);intro w11 hw;have hg : wr.grownBy w11 (some go9) := (by rw [hw];exact HP10.2);have hp_ : Kd.R Kd.string 9 w11 w.heap.size (fun _ => True) (.slice (some ⟨go9,0,none⟩) x3_1.length co9) y247 := (by rw [hw,Ny247.out];exact HP10.1);clear HP10;have n_ := Z97;clear HO_3 HB;obtain ⟨HO_3,HB⟩ := n_;clear hg hw hp_))
   go_roundg k1
   case measure => have := HK1.out;omega
   case rel => exact ⟨(y247),(wrap64 (x4_1 + 1)),Z106,H',⟨Z116⟩,⟨Z138⟩,⟨Z148⟩⟩

/-! ### laws_toIntS: function 17 -/
def laws_toIntS.l0 : Nat → List Int → List Int → Int → Option (List Int)
 | 0,_,_,_ => none
 | k + 1,x0,x3,x4 => if x4 < (x0.length : Int) then (if 0 ≤ x4 then (if x4 < (x3.length : Int) then (laws_toIntS.l0 k x0 (x3.set (x4 : Int).toNat (rd x0 x4)) (wrap64 (x4 + 1))) else (none)) else (none)) else (some x3)
def laws_toIntS.f (k : Nat) (l0 : List Int) : Option (List Int) := if 0 ≤ (l0.length : Int) then (if ((l0.length : Int) : Int).toNat ≤ 35184372088832 then (laws_toIntS.l0 k l0 (List.replicate ((l0.length : Int) : Int).toNat 0) 0) else (none)) else (none)
theorem laws_toIntS.mono_l : ∀ k,(∀ y0 y1 y2,LeO (laws_toIntS.l0 k y0 y1 y2) (laws_toIntS.l0 (k + 1) y0 y1 y2))
 | 0 => fun _ _ _ r h => by simp [laws_toIntS.l0] at h
 | k + 1 => by
  have ih0 := laws_toIntS.mono_l k
  ·intro y0 y1 y2
   unfold laws_toIntS.l0
   repeat' first
   | (with_reducible exact ih0 _ _ _)
   | (with_reducible exact LeO.refl _)
   | (with_reducible exact LeO.none _)
   | (with_reducible refine LeO.ite ?_ ?_)
   | (with_reducible refine LeO.bind ?_ (fun _ => ?_))
   | exact ih0 _ _ _
   | exact LeO.none _
   | refine LeO.ite ?_ ?_
   | refine LeO.bind ?_ (fun _ => ?_)
theorem laws_toIntS.mono : ∀ a0 k,LeO (laws_toIntS.f k a0) (laws_toIntS.f (k + 1) a0) := by
 intro a0 k
 have ih0 := laws_toIntS.mono_l k
 unfold laws_toIntS.f
 repeat' first
   | (with_reducible exact ih0 _ _ _)
   | (with_reducible exact LeO.refl _)
   | (with_reducible exact LeO.none _)
   | (with_reducible refine LeO.ite ?_ ?_)
   | (with_reducible refine LeO.bind ?_ (fun _ => ?_))
   | exact ih0 _ _ _
   | exact LeO.none _
   | refine LeO.ite ?_ ?_
   | refine LeO.bind ?_ (fun _ => ?_)
set_option maxHeartbeats 8000000 in
set_option maxRecDepth 100000 in
theorem laws_toIntS.calls (k : Nat) (A0 : Option Addr) (c0 : Nat) (l0 : List Int) (r : List Int) (w : World) (hr0 : Kd.C (Kd.int .i64) w A0 l0.length l0) (hc0 : l0.length ≤ c0) (h : laws_toIntS.f k l0 = some r) :
  Calls Tryd.prog 17 #[.slice A0 l0.length c0] w fun e w' => ∃ v0_ : Value,e = .returned (v0_) ∧ Kd.R (Kd.int .i64) 3 w' w.heap.size (fun _ => True) v0_ r ∧ Below w.heap.size w w' := by
 have HR0 := Aside0.mk hr0
 have HC0 := Aside0.mk hc0
 clear hr0 hc0
 have HB := Aside0.mk (Below.refl w.heap.size w)
 have H := h
 clear h
 unfold laws_toIntS.f at H
 obtain ⟨c2,H⟩ := ifp H
 have c2b0 := eq_true c2
 have c2b1 : decide (0 ≤ (l0.length : Int)) = true := decide_eq_true c2
 clear c2
 obtain ⟨c3,H⟩ := ifp H
 have c3b0 := eq_true c3
 have c3b1 : decide (((l0.length : Int) : Int).toNat ≤ 35184372088832) = true := decide_eq_true c3
 clear c3
 obtain ⟨y248,hyy⟩ : ∃ y_ : List Int,y_ = (List.replicate ((l0.length : Int) : Int).toNat 0) := ⟨_,rfl⟩
 replace H : (laws_toIntS.l0 k l0 y248 0) = some r := zR
 have Ny248 := Aside0.mk hyy
 clear hyy
 have H' := Aside0.mk H
 clear H
 go_enter Tryd.func17,Tryd.ntmps17
 go_wp2_with (first | ((with_reducible refine gate_dst (N := 7) rfl ?_);refine Kd.R_make (Kd.int .i64) _ 3 rfl (N := 7) rfl 24 _ _ rfl (l0.length : Int) rfl rfl Tryd.underlying24 (.int .i64 0) 8 info3 rfl Z145 Z122 0 (ok := fun _ => True) (okp := fun _ => True) rfl (fun _ hk => hk) trivial (of_decide_eq_true Z105) (Nat.le_trans (Nat.mul_le_mul_right _ (of_decide_eq_true Z105 : (l0.length : Int).toNat ≤ 35184372088832)) Z122) (Below.refl _ _) (Nat.le_refl _) ?_;intro v249 w4 ho5 hb hg_ hnew_;clear hg_ hnew_;(first | rw [← Ny248.out] at ho5 | (simp only [Int.reduceToNat] at ho5;rw [← Ny248.out] at ho5));have n_ := Z21;clear HB;obtain ⟨HO250,HB⟩ := n_;clear hb ho5))
 go_loopg [4] k (fun kq v4 w' => ∃ (x3_1 : List Int) (x4_1 : Int),v4 = .int .i64 x4_1 ∧ Aside0 (laws_toIntS.l0 kq l0 x3_1 x4_1 = some r) ∧ Aside0 (kq ≤ k) ∧ Aside0 (Kd.R (Kd.int .i64) 3 w' w.heap.size (fun _ => True) v249 x3_1) ∧ Aside0 (Below w.heap.size w w'))
 case atStart => exact ⟨(y248),(0),Z106,H',⟨Nat.le_refl _⟩,⟨by (with_reducible repeat (first | apply Kd.R_alloc | apply Kd.R_drewN | apply Kd.R_drew));exact HO250.out⟩,⟨Z148⟩⟩
 case round =>
  clear H'
  try clear c1
  try clear c2
  try clear c2b0
  try clear c2b1
  try clear p2
  try clear c3
  try clear c3b0
  try clear c3b1
  obtain ⟨x3_1,x4_1,rfl,HA,HK1,HO_3,HB⟩ := hrel
  cases gk with
  | zero => exact absurd HA.out (by simp [laws_toIntS.l0])
  | succ k1 =>
   have H := HA.out
   clear HA
   simp only [laws_toIntS.l0] at H
   by_cases c6 : x4_1 < (l0.length : Int)
   rotate_left
   ·rw [if_neg c6] at H
    have c6b0 : decide (x4_1 < (l0.length : Int)) = false := decide_eq_false c6
    clear c6
    obtain rfl := Option.some.inj H
    go_wp2
    go_ret
    exact ⟨_,Z98,Z138,Z148⟩
   rw [if_pos c6] at H
   have c6b0 : decide (x4_1 < (l0.length : Int)) = true := decide_eq_true c6
   clear c6
   obtain ⟨c7,H⟩ := ifp H
   have c7b0 : decide (0 ≤ x4_1) = true := decide_eq_true c7
   clear c7
   obtain ⟨c8,H⟩ := ifp H
   have c8b0 : decide (x4_1 < (x3_1.length : Int)) = true := decide_eq_true c8
   clear c8
   obtain ⟨y252,hyy⟩ : ∃ y_ : List Int,y_ = (x3_1.set (x4_1 : Int).toNat (rd l0 x4_1)) := ⟨_,rfl⟩
   replace H : (laws_toIntS.l0 k1 l0 y252 (wrap64 (x4_1 + 1))) = some r := zR
   have Ny252 := Aside0.mk hyy
   clear hyy
   have H' := Aside0.mk H
   clear H
   have p251 : 0 ≤ (x4_1 : Int) := of_decide_eq_true Z105
   have q251 : x4_1 < (l0.length : Int) := of_decide_eq_true Z105
   obtain ⟨ad251,e251,hx251_0⟩ := Kd.at_int HR0.out x4_1 p251 q251
   cases e251
   replace hx251_0 := (HB.out.cell (World.block_lt_of_cell? w _ hx251_0)).trans hx251_0
   replace p251 := eq_true p251
   replace q251 := eq_true q251
   have p9 : 0 ≤ (x4_1 : Int) := of_decide_eq_true Z105
   have q9 : (x4_1 : Int) < ((x3_1.length : Int) : Int) := of_decide_eq_true Z105
   obtain ⟨go9,co9,eo9,gb9,gl9,cl9,HG9⟩ := Kd.R_form HO_3.out Z122
   (first | cases eo9 | (injection eo9 with ea_ en_ ec_;(first | subst ea_ | (injection ea_ with ea_;subst ea_));subst ec_;clear en_))
   have GB9 := Aside0.mk gb9
   have GG9 := Aside0.mk HG9
   clear gb9 gl9 HG9
   obtain ⟨hx9_0,hf9_0⟩ := Kd.R_celln 0 HO_3.out (x4_1 : Int) p9 q9
   replace p9 := eq_true p9
   replace q9 := eq_true q9
   have HP10 := Kd.R_putg HO_3.out (x4_1 : Int) (rd l0 x4_1)
   go_wp2_with (first | ((with_reducible refine gate_store (t := 3) (p := 20) rfl ?_);refine store_event (t := 3) (p := 20) (v := ?vo_w11) (w1 := (wr.setCell ⟨go9,(x4_1 : Int).toNat,none⟩ (.int .i64 (rd l0 x4_1)))) ?hg ?ho ?hn ?hr ?_;(case ho => rfl);(case hg => rfl);(case hn => rfl);(case hr => exact Z107);intro w11 hw;have hg : wr.grownBy w11 (some go9) := (by rw [hw];exact HP10.2);have hp_ : Kd.R (Kd.int .i64) 3 w11 w.heap.size (fun _ => True) (.slice (some ⟨go9,0,none⟩) x3_1.length co9) y252 := (by rw [hw,Ny252.out];exact HP10.1);clear HP10;have n_ := Z97;clear HO_3 HB;obtain ⟨HO_3,HB⟩ := n_;clear hg hw hp_))
   go_roundg k1
   case measure => have := HK1.out;omega
   case rel => exact ⟨(y252),(wrap64 (x4_1 + 1)),Z106,H',⟨Z116⟩,⟨Z138⟩,⟨Z148⟩⟩

/-! ### laws_toIntSS: function 16 -/
def laws_toIntSS.l0 : Nat → List (List Int) → List (List Int) → Int → Option ((List (List Int)))
 | 0,_,_,_ => none
 | k + 1,x0,x3,x4 => if x4 < (x0.length : Int) then (if 0 ≤ x4 then ((laws_toIntS.f k (rd_L2 x0 x4)).bind fun t257 => (if x4 < (x3.length : Int) then (laws_toIntSS.l0 k x0 (x3.set (x4 : Int).toNat t257) (wrap64 (x4 + 1))) else (none))) else (none)) else (some x3)
def laws_toIntSS.f (k : Nat) (l0 : List (List Int)) : Option ((List (List Int))) := if 0 ≤ (l0.length : Int) then (if ((l0.length : Int) : Int).toNat ≤ 11728124029610 then (laws_toIntSS.l0 k l0 (List.replicate ((l0.length : Int) : Int).toNat []) 0) else (none)) else (none)
theorem laws_toIntSS.mono_l : ∀ k,(∀ y0 y1 y2,LeO (laws_toIntSS.l0 k y0 y1 y2) (laws_toIntSS.l0 (k + 1) y0 y1 y2))
 | 0 => fun _ _ _ r h => by simp [laws_toIntSS.l0] at h
 | k + 1 => by
  have ih0 := laws_toIntSS.mono_l k
  ·intro y0 y1 y2
   unfold laws_toIntSS.l0
   repeat' first
   | (with_reducible exact ih0 _ _ _)
   | (with_reducible exact laws_toIntS.mono _ _)
   | (with_reducible exact LeO.refl _)
   | (with_reducible exact LeO.none _)
   | (with_reducible refine LeO.ite ?_ ?_)
   | (with_reducible refine LeO.bind ?_ (fun _ => ?_))
   | exact ih0 _ _ _
   | exact laws_toIntS.mono _ _
   | exact LeO.none _
   | refine LeO.ite ?_ ?_
   | refine LeO.bind ?_ (fun _ => ?_)
theorem laws_toIntSS.mono : ∀ a0 k,LeO (laws_toIntSS.f k a0) (laws_toIntSS.f (k + 1) a0) := by
 intro a0 k
 have ih0 := laws_toIntSS.mono_l k
 unfold laws_toIntSS.f
 repeat' first
   | (with_reducible exact ih0 _ _ _)
   | (with_reducible exact laws_toIntS.mono _ _)
   | (with_reducible exact LeO.refl _)
   | (with_reducible exact LeO.none _)
   | (with_reducible refine LeO.ite ?_ ?_)
   | (with_reducible refine LeO.bind ?_ (fun _ => ?_))
   | exact ih0 _ _ _
   | exact laws_toIntS.mono _ _
   | exact LeO.none _
   | refine LeO.ite ?_ ?_
   | refine LeO.bind ?_ (fun _ => ?_)
set_option maxHeartbeats 8000000 in
set_option maxRecDepth 100000 in
theorem laws_toIntSS.calls (k : Nat) (A0 : Option Addr) (c0 : Nat) (l0 : List (List Int)) (r : List (List Int)) (w : World) (hr0 : Kd.C (Kd.slice 3 (Kd.int .i64)) w A0 l0.length l0) (hc0 : l0.length ≤ c0) (h : laws_toIntSS.f k l0 = some r) :
  Calls Tryd.prog 16 #[.slice A0 l0.length c0] w fun e w' => ∃ v0_ : Value,e = .returned (v0_) ∧ Kd.S (Kd.slice 3 (Kd.int .i64)) 24 w' w.heap.size (fun _ => True) v0_ r ∧ Below w.heap.size w w' := by
 have HR0 := Aside0.mk hr0
 have HC0 := Aside0.mk hc0
 clear hr0 hc0
 have HB := Aside0.mk (Below.refl w.heap.size w)
 have H := h
 clear h
 unfold laws_toIntSS.f at H
 obtain ⟨c2,H⟩ := ifp H
 have c2b0 := eq_true c2
 have c2b1 : decide (0 ≤ (l0.length : Int)) = true := decide_eq_true c2
 clear c2
 obtain ⟨c3,H⟩ := ifp H
 have c3b0 := eq_true c3
 have c3b1 : decide (((l0.length : Int) : Int).toNat ≤ 11728124029610) = true := decide_eq_true c3
 clear c3
 obtain ⟨y253,hyy⟩ : ∃ y_ : List (List Int),y_ = (List.replicate ((l0.length : Int) : Int).toNat []) := ⟨_,rfl⟩
 replace H : (laws_toIntSS.l0 k l0 y253 0) = some r := zR
 have Ny253 := Aside0.mk hyy
 clear hyy
 have H' := Aside0.mk H
 clear H
 go_enter Tryd.func16,Tryd.ntmps16
 go_wp2_with (first | ((with_reducible refine gate_dst (N := 7) rfl ?_);refine Kd.S_make (Kd.slice 3 (Kd.int .i64)) _ 24 rfl (N := 7) rfl 23 _ _ rfl (l0.length : Int) rfl rfl Tryd.underlying23 (.slice none 0 0) 24 info24 rfl Z145 Z122 [] (ok := fun _ => True) (okp := fun _ => True) ⟨_,rfl,Kd.R_nil _ _ _ _ _⟩ (fun _ hk => hk) trivial (of_decide_eq_true Z105) (Nat.le_trans (Nat.mul_le_mul_right _ (of_decide_eq_true Z105 : (l0.length : Int).toNat ≤ 11728124029610)) Z122) (Below.refl _ _) (Nat.le_refl _) ?_;intro v254 w4 ho5 hb hg_ hnew_;clear hg_ hnew_;(first | rw [← Ny253.out] at ho5 | (simp only [Int.reduceToNat] at ho5;rw [← Ny253.out] at ho5));have n_ := jA (Kd.S_lower ho5 (below_size Z148)) (Aside0.mk (below_step Z148 hb));clear HB;obtain ⟨HO255,HB⟩ := n_;clear hb ho5))
 go_loopg [4] k (fun kq v4 w' => ∃ (x3_1 : List (List Int)) (x4_1 : Int),v4 = .int .i64 x4_1 ∧ Aside0 (laws_toIntSS.l0 kq l0 x3_1 x4_1 = some r) ∧ Aside0 (kq ≤ k) ∧ Aside0 (Kd.S (Kd.slice 3 (Kd.int .i64)) 24 w' w.heap.size (fun _ => True) v254 x3_1) ∧ Aside0 (Below w.heap.size w w'))
 case atStart => exact ⟨(y253),(0),Z106,H',⟨Nat.le_refl _⟩,⟨by (with_reducible repeat (first | apply Kd.S_alloc | apply Kd.S_drewN | apply Kd.S_drew));exact HO255.out⟩,⟨Z148⟩⟩
 case round =>
  clear H'
  try clear c1
  try clear c2
  try clear c2b0
  try clear c2b1
  try clear p2
  try clear c3
  try clear c3b0
  try clear c3b1
  obtain ⟨x3_1,x4_1,rfl,HA,HK1,HO_3,HB⟩ := hrel
  cases gk with
  | zero => exact absurd HA.out (by simp [laws_toIntSS.l0])
  | succ k1 =>
   have H := HA.out
   clear HA
   simp only [laws_toIntSS.l0] at H
   by_cases c6 : x4_1 < (l0.length : Int)
   rotate_left
   ·rw [if_neg c6] at H
    have c6b0 : decide (x4_1 < (l0.length : Int)) = false := decide_eq_false c6
    clear c6
    obtain rfl := Option.some.inj H
    go_wp2
    go_ret
    exact ⟨_,Z98,Z96,Z148⟩
   rw [if_pos c6] at H
   have c6b0 : decide (x4_1 < (l0.length : Int)) = true := decide_eq_true c6
   clear c6
   obtain ⟨c7,H⟩ := ifp H
   have c7b0 : decide (0 ≤ x4_1) = true := decide_eq_true c7
   clear c7
   obtain ⟨t257,A80,H⟩ := Option.bind_eq_some_iff.mp H
   have A8 := Aside0.mk A80
   clear A80
   obtain ⟨c9,H⟩ := ifp H
   have c9b0 : decide (x4_1 < (x3_1.length : Int)) = true := decide_eq_true c9
   clear c9
   obtain ⟨y260,hyy⟩ : ∃ y_ : List (List Int),y_ = (x3_1.set (x4_1 : Int).toNat t257) := ⟨_,rfl⟩
   replace H : (laws_toIntSS.l0 k1 l0 y260 (wrap64 (x4_1 + 1))) = some r := zR
   have Ny260 := Aside0.mk hyy
   clear hyy
   have H' := Aside0.mk H
   clear H
   have p256 : 0 ≤ (x4_1 : Int) := of_decide_eq_true Z105
   have q256 : x4_1 < (l0.length : Int) := of_decide_eq_true Z105
   obtain ⟨ad256,A256_0,c256_0,e256,hx256_0,hl256_0,hi256_0⟩ := at_L2 HR0.out x4_1 p256 q256
   cases e256
   replace hx256_0 := (HB.out.cell (World.block_lt_of_cell? w _ hx256_0)).trans hx256_0
   have HR256_0 := Aside0.mk hi256_0
   have HC256_0 := Aside0.mk hl256_0
   clear hi256_0 hl256_0
   replace p256 := eq_true p256
   replace q256 := eq_true q256
   go_wp2_with (first | ((with_reducible refine gate_callee (f := 17) rfl ?_);refine goesL_ (some 20) rfl rfl Tryd.func17 Z121 rfl #[.slice A256_0 (rd_L2 l0 x4_1).length c256_0] rfl Z66 ?_;(with_reducible refine (laws_toIntS.calls k1 _ _ (rd_L2 l0 x4_1) t257 _ ?side1 ?side2 A8.out).mono ?_);(case side1 => repeat (first | exact (Kd.C_below HR256_0.out HB.out) | (with_reducible refine Kd.C_alloc ?_ _) | (with_reducible refine Kd.C_drewN ?_ _) | (with_reducible refine Kd.C_drew ?_)));(case side2 => exact HC256_0.out);rintro e w11 ⟨v258,rfl,ho0,hb⟩;refine ⟨_,rfl,?_⟩;have n_ := jA (Kd.S_elder' Z96 (Kd.R_base ho0) hb) (jA (Kd.R_lower ho0 (below_size Z148)) (Aside0.mk (below_step Z148 hb)));clear HO_3 HB;obtain ⟨HO_3,HO259,HB⟩ := n_;(try clear hb);(try clear hb2);(try clear hk);(try clear hi);(try clear ho0);have p10 : 0 ≤ (x4_1 : Int) := of_decide_eq_true Z105;have q10 : (x4_1 : Int) < ((x3_1.length : Int) : Int) := of_decide_eq_true Z105;obtain ⟨go10,co10,eo10,gb10,gl10,cl10,HG10⟩ := Kd.S_form HO_3.out Z122;(first | cases eo10 | (injection eo10 with ea_ en_ ec_;(first | subst ea_ | (injection ea_ with ea_;subst ea_));subst ec_;clear en_));have GB10 := Aside0.mk gb10;have GG10 := Aside0.mk HG10;clear gb10 gl10 HG10;obtain ⟨_,ce10,hcl10,hM10,hcc10,hfr10,_,_⟩ := Kd.S_elem HO_3.out [] (x4_1 : Int) p10 q10;obtain ⟨ve10_0,rfl,ge10_0⟩ := hM10;have hx10_0 := hcc10 0 _ rfl;have hf10_0 := hfr10 0;(try simp only [show ((Kd.slice 3 (Kd.int .i64))).sz = 1 from rfl,Nat.mul_one,Nat.add_zero] at hx10_0);(try simp only [show ((Kd.slice 3 (Kd.int .i64))).sz = 1 from rfl,Nat.mul_one,Nat.add_zero] at hf10_0);(try clear hcl10);(try clear hcc10);(try clear hfr10);(try clear hM10);replace p10 := eq_true p10;replace q10 := eq_true q10;have n_ := Aside0.mk (Kd.S_mono (ok' := (fun k_ => some k_ ≠ (v258 : Value).ownBlock)) HO_3.out (fun k_ hk => hk.2));clear HO_3;have HO_3 := n_;clear n_;have HX12 := Aside0.mk (show Kd.S (Kd.slice 3 (Kd.int .i64)) 24 w11 w.heap.size (fun k_ => ((fun _ => True)) k_ ∧ ¬ ((fun k_ => some k_ = (v258 : Value).ownBlock)) k_) (.slice (some ⟨go10,0,none⟩) x3_1.length co10) x3_1 from (by (with_reducible repeat (first | apply Kd.S_alloc | apply Kd.S_drewN | apply Kd.S_drew));exact Kd.S_mono HO_3.out (fun k_ hk => ⟨trivial,fun e_ => hk e_⟩)));obtain ⟨oki12,ce12,hcl12,hM12,hcc12,hfr12,hoki12,hH12⟩ := Kd.S_elem HX12.out [] (x4_1 : Int) (of_decide_eq_true Z105) (by have h_ : (x4_1 : Int) < ((x3_1.length : Int) : Int) := of_decide_eq_true Z105;first | exact h_ | (have e_ := (Kd.S_reads' HO_3.out).1;omega) | simpa using h_);obtain ⟨ve12_0,rfl,ge12_0⟩ := hM12;have HP12 := Kd.S_seg hH12 (of_decide_eq_true Z105) (by have h_ : (x4_1 : Int) < ((x3_1.length : Int) : Int) := of_decide_eq_true Z105;first | exact h_ | (have e_ := (Kd.S_reads' HO_3.out).1;omega) | simpa using h_) (seg := [v258]) (j := 0) (show 1 ≤ 1 from Z145) (x' := t257) (Kd.M_row (Kd.R_mono (Kd.R_tight rfl (Kd.R_mono (ok' := fun k_ => ((fun _ => True)) k_ ∧ k_ ≠ go10) (Kd.R_apart' (HO259.out) (Kd.S_typed HO_3.out) Z145) (fun k_ hk => ⟨trivial,fun e_ => (hk.2) (by rw [e_];rfl)⟩))) (fun _ h_ => Or.inr (h_)))) (fun _ hk => hk) (fun k_ hk_ => ((Kd.R_mono (ok' := fun k_ => ((fun _ => True)) k_ ∧ k_ ≠ go10) (Kd.R_apart' (HO259.out) (Kd.S_typed HO_3.out) Z145) (fun k_ hk => ⟨trivial,fun e_ => (hk.2) (by rw [e_];rfl)⟩))).1 k_ hk_.symm);have hx12_0 := hcc12 0 _ rfl;(try simp only [show ((Kd.slice 3 (Kd.int .i64))).sz = 1 from rfl,Nat.mul_one,Nat.add_zero] at hx12_0);have hf12_0 := hfr12 0;(try simp only [show ((Kd.slice 3 (Kd.int .i64))).sz = 1 from rfl,Nat.mul_one,Nat.add_zero] at hf12_0);(try clear hcl12);(try clear hcc12);(try clear hfr12);(try clear hM12);(try clear hoki12);(try clear hH12);(try simp only [show ((Kd.slice 3 (Kd.int .i64))).sz = 1 from rfl,Nat.mul_one,Nat.add_zero] at HP12)) | ((with_reducible refine gate_store (t := 24) (p := 21) rfl ?_);refine store_event (t := 24) (p := 21) (v := ?vo_w13) (w1 := (w11.setCell ⟨go10,(x4_1 : Int).toNat,none⟩ (v258))) ?hg ?ho ?hn ?hr ?_;(case ho => rfl);(case hg => rfl);(case hn => rfl);(case hr => first | (go_simp;done) | (go_simp;rfl) | (obtain ⟨A_0,c_0,e_0⟩ := Kd.R_slice HO259.out;rw [e_0];first | (go_simp;done) | (go_simp;rfl)));intro w13 hw;have hg : w11.grownBy w13 (some go10) := (by rw [hw];exact HP12.2);have hp_ : Kd.S (Kd.slice 3 (Kd.int .i64)) 24 w13 w.heap.size (fun _ => True) (.slice (some ⟨go10,0,none⟩) x3_1.length co10) y260 := (by rw [hw,Ny260.out];exact HP12.1);clear HP12;have n_ := jA (hp_) (Aside0.mk ((by rw [hw];exact below_set (HB.out) GB10.out : Below w.heap.size w w13)));clear HO_3 HB HO259;obtain ⟨HO_3,HB⟩ := n_;clear hg hw hp_))
   go_roundg k1
   case measure => have := HK1.out;omega
   case rel => exact ⟨(y260),(wrap64 (x4_1 + 1)),Z106,H',⟨Z116⟩,⟨Z96⟩,⟨Z148⟩⟩

/-! ### laws_toTable: function 6 -/
def laws_toTable.f (k : Nat) (l0_0 : List ByteArray) (a0_1 : ByteArray) (l0_2 : List (List Int)) (l0_3 : List Int) : Option (List ByteArray × ByteArray × (List (List Int)) × List Int) := (laws_toStringS.f k l0_0).bind fun t264 => ((laws_toIntSS.f k l0_2).bind fun t267 => ((laws_toIntS.f k l0_3).bind fun t270 => (some (t264,a0_1,t267,t270))))
theorem laws_toTable.mono : ∀ a0 a1 a2 a3 k,LeO (laws_toTable.f k a0 a1 a2 a3) (laws_toTable.f (k + 1) a0 a1 a2 a3) := by
 intro a0 a1 a2 a3 k
 unfold laws_toTable.f
 repeat' first
   | (with_reducible exact laws_toIntS.mono _ _)
   | (with_reducible exact laws_toIntSS.mono _ _)
   | (with_reducible exact laws_toStringS.mono _ _)
   | (with_reducible exact LeO.refl _)
   | (with_reducible exact LeO.none _)
   | (with_reducible refine LeO.ite ?_ ?_)
   | (with_reducible refine LeO.bind ?_ (fun _ => ?_))
   | exact laws_toIntS.mono _ _
   | exact laws_toIntSS.mono _ _
   | exact laws_toStringS.mono _ _
   | exact LeO.none _
   | refine LeO.ite ?_ ?_
   | refine LeO.bind ?_ (fun _ => ?_)
set_option maxHeartbeats 8000000 in
set_option maxRecDepth 100000 in
theorem laws_toTable.calls (k : Nat) (A0_0 : Option Addr) (c0_0 : Nat) (l0_0 : List ByteArray) (a0_1 : ByteArray) (A0_2 : Option Addr) (c0_2 : Nat) (l0_2 : List (List Int)) (A0_3 : Option Addr) (c0_3 : Nat) (l0_3 : List Int) (r1 : List ByteArray) (r2 : ByteArray) (r3 : List (List Int)) (r4 : List Int) (w : World) (hr0_0 : Kd.C Kd.string w A0_0 l0_0.length l0_0) (hc0_0 : l0_0.length ≤ c0_0) (hr0_2 : Kd.C (Kd.slice 3 (Kd.int .i64)) w A0_2 l0_2.length l0_2) (hc0_2 : l0_2.length ≤ c0_2) (hr0_3 : Kd.C (Kd.int .i64) w A0_3 l0_3.length l0_3) (hc0_3 : l0_3.length ≤ c0_3) (h : laws_toTable.f k l0_0 a0_1 l0_2 l0_3 = some (r1,r2,r3,r4)) :
  Calls Tryd.prog 6 #[.agg #[.slice A0_0 l0_0.length c0_0,.string a0_1,.slice A0_2 l0_2.length c0_2,.slice A0_3 l0_3.length c0_3]] w fun e w' => ∃ v0_ v2_ v3_ : Value,e = .returned (.agg #[v0_,.string r2,v2_,v3_]) ∧ Kd.R Kd.string 9 w' w.heap.size (fun _ => True) v0_ r1 ∧ Kd.S (Kd.slice 3 (Kd.int .i64)) 24 w' w.heap.size (fun k_ => some k_ ≠ (v3_ : Value).ownBlock) v2_ r3 ∧ Kd.R (Kd.int .i64) 3 w' w.heap.size (fun _ => True) v3_ r4 ∧ Below w.heap.size w w' := by
 have hu26 := Tryd.underlying26
 have hu29 := Tryd.underlying29
 have HR0_0 := Aside0.mk hr0_0
 have HC0_0 := Aside0.mk hc0_0
 clear hr0_0 hc0_0
 have HR0_2 := Aside0.mk hr0_2
 have HC0_2 := Aside0.mk hc0_2
 clear hr0_2 hc0_2
 have HR0_3 := Aside0.mk hr0_3
 have HC0_3 := Aside0.mk hc0_3
 clear hr0_3 hc0_3
 have HB := Aside0.mk (Below.refl w.heap.size w)
 have H := h
 clear h
 unfold laws_toTable.f at H
 obtain ⟨t264,A20,H⟩ := Option.bind_eq_some_iff.mp H
 have A2 := Aside0.mk A20
 clear A20
 obtain ⟨t267,A30,H⟩ := Option.bind_eq_some_iff.mp H
 have A3 := Aside0.mk A30
 clear A30
 obtain ⟨t270,A40,H⟩ := Option.bind_eq_some_iff.mp H
 have A4 := Aside0.mk A40
 clear A40
 simp only [Option.some.injEq,Prod.mk.injEq] at H
 obtain ⟨rfl,rfl,rfl,rfl⟩ := H
 go_enter Tryd.func6,Tryd.ntmps6
 go_wp2_with (first | ((with_reducible refine gate_dst (N := 1) rfl ?_);refine bE 1 #[.slice A0_0 l0_0.length c0_0,.string a0_1,.slice A0_2 l0_2.length c0_2,.slice A0_3 l0_3.length c0_3] 26 (h := ?_);intro gb261 hg wq1 hbox hb;have n_ := jA (below_step Z148 hb) (jA (hbox) (jA ((Z131 : w.heap.size ≤ gb261)) (Aside0.mk ((Z131 : w.heap.size ≤ gb261)))));clear HB;obtain ⟨HB,BK261,GW261,GE261⟩ := n_;clear hb hbox hg) | ((with_reducible refine gate_dst (N := 2) rfl ?_);refine bE 2 #[.slice none 0 0,.string (⟨#[]⟩ : ByteArray),.slice none 0 0,.slice none 0 0] 29 (h := ?_);intro gb262 hg wq2 hbox hb;have n_ := jA (blk_below (g := gb261) (o := .cells #[.slice A0_0 l0_0.length c0_0,.string a0_1,.slice A0_2 l0_2.length c0_2,.slice A0_3 l0_3.length c0_3] 26 (0,0)) Z143 hb) (jA (below_step Z134 hb) (jA (hbox) (jA ((Z36 : w.heap.size ≤ gb262)) (jA ((Z36 : w.heap.size ≤ gb262)) (jA ((Z32 : gb261 ≠ gb262)) (Aside0.mk ((Z33 : gb262 ≠ gb261))))))));clear BK261 HB;obtain ⟨BK261,HB,BK262,GW262,GE262,NB261_262,NB262_261⟩ := n_;clear hb hbox hg) | ((with_reducible refine gate_dst (N := 3) rfl ?_);refine bE 3 #[.slice none 0 0,.string (⟨#[]⟩ : ByteArray),.slice none 0 0,.slice none 0 0] 29 (h := ?_);intro gb263 hg wq3 hbox hb;have n_ := jA (blk_below (g := gb261) (o := .cells #[.slice A0_0 l0_0.length c0_0,.string a0_1,.slice A0_2 l0_2.length c0_2,.slice A0_3 l0_3.length c0_3] 26 (0,0)) Z143 hb) (jA (blk_below (g := gb262) (o := .cells #[.slice none 0 0,.string (⟨#[]⟩ : ByteArray),.slice none 0 0,.slice none 0 0] 29 (0,0)) Z113 hb) (jA (below_step Z125 hb) (jA (hbox) (jA ((Z31 : w.heap.size ≤ gb263)) (jA ((Z31 : w.heap.size ≤ gb263)) (jA ((Z32 : gb261 ≠ gb263)) (jA ((Z33 : gb263 ≠ gb261)) (jA ((by rw [hg];exact Nat.ne_of_lt (blk_lt (g := gb262) (o := .cells #[.slice none 0 0,.string (⟨#[]⟩ : ByteArray),.slice none 0 0,.slice none 0 0] 29 (0,0)) Z113) : gb262 ≠ gb263)) (Aside0.mk ((by rw [hg];exact Nat.ne_of_gt (blk_lt (g := gb262) (o := .cells #[.slice none 0 0,.string (⟨#[]⟩ : ByteArray),.slice none 0 0,.slice none 0 0] 29 (0,0)) Z113) : gb263 ≠ gb262)))))))))));clear BK261 BK262 HB;obtain ⟨BK261,BK262,HB,BK263,GW263,GE263,NB261_263,NB263_261,NB262_263,NB263_262⟩ := n_;clear hb hbox hg;have hnbq4 := NB261_262.out;have hncq4 := NB262_261.out;have hnbq5 := NB261_263.out;have hncq5 := NB263_261.out;obtain ⟨hczq6_0,hczq6_1,hczq6_2,hczq6_3,hfzq6_0,hfzq6_1,hfzq6_2,hfzq6_3⟩ := cells4 BK261.out) | ((with_reducible refine gate_callee (f := 15) rfl ?_);refine goesL_ (some 6) rfl rfl Tryd.func15 Z121 rfl #[.slice A0_0 l0_0.length c0_0] rfl Z66 ?_;(with_reducible refine (laws_toStringS.calls k _ _ l0_0 t264 _ ?side1 ?side2 A2.out).mono ?_);(case side1 => exact Z41);(case side2 => exact Z118);rintro e wq7 ⟨vq8,rfl,hoq9,hb⟩;refine ⟨_,rfl,?_⟩;have n_ := jA (Kd.R_lower hoq9 (below_size Z30)) (jA (blk_below (g := gb261) (o := .cells #[.slice A0_0 l0_0.length c0_0,.string a0_1,.slice A0_2 l0_2.length c0_2,.slice A0_3 l0_3.length c0_3] 26 (0,0)) Z143 hb) (jA (blk_below (g := gb262) (o := .cells #[.slice none 0 0,.string (⟨#[]⟩ : ByteArray),.slice none 0 0,.slice none 0 0] 29 (0,0)) Z113 hb) (jA (blk_below (g := gb263) (o := .cells #[.slice none 0 0,.string (⟨#[]⟩ : ByteArray),.slice none 0 0,.slice none 0 0] 29 (0,0)) (by refine bP ?_;exact BK263.out) hb) (Aside0.mk (below_step Z30 hb)))));clear BK261 BK262 BK263 HB;obtain ⟨HO266,BK261,BK262,BK263,HB⟩ := n_;(try clear hb);(try clear hb2);(try clear hk);(try clear hi);(try clear hoq9);obtain ⟨Aoq10,coq10,eoq10⟩ := Kd.R_slice HO266.out;subst eoq10;have hnbq11 := NB263_262.out;have hncq11 := NB262_263.out;obtain ⟨hczq12_0,hczq12_1,hczq12_2,hczq12_3,hfzq12_0,hfzq12_1,hfzq12_2,hfzq12_3⟩ := cells4 BK263.out;obtain ⟨hczq13_0,hczq13_1,hczq13_2,hczq13_3,hfzq13_0,hfzq13_1,hfzq13_2,hfzq13_3⟩ := cells4 BK261.out) | ((with_reducible refine gate_callee (f := 16) rfl ?_);refine goesL_ (some 13) rfl rfl Tryd.func16 Z121 rfl #[.slice A0_2 l0_2.length c0_2] rfl Z66 ?_;(with_reducible refine (laws_toIntSS.calls k _ _ l0_2 t267 _ ?side1 ?side2 A3.out).mono ?_);(case side1 => exact Kd.C_below HR0_2.out Z30);(case side2 => exact Z119);rintro e wq14 ⟨vq15,rfl,hoq9,hb⟩;refine ⟨_,rfl,?_⟩;have n_ := jA (Kd.R_below (by (with_reducible repeat (first | apply Kd.R_alloc | apply Kd.R_drewN | apply Kd.R_drew));exact (Kd.R_mono (Kd.R_far (p := ⟨gb263,1,none⟩) (Kd.R_far (p := ⟨gb263,0,none⟩) (Kd.R_types HO266.out BK263.out Z145) (fun _ hk => hk.2) (.slice Aoq10 t264.length coq10)) (fun _ hk => hk.2) (.string a0_1)) (fun _ h_ => h_.1))) hb) (jA (Kd.S_lower hoq9 (below_size Z30)) (jA (blk_below (g := gb261) (o := .cells #[.slice A0_0 l0_0.length c0_0,.string a0_1,.slice A0_2 l0_2.length c0_2,.slice A0_3 l0_3.length c0_3] 26 (0,0)) (by refine bP ?_;refine blk_far ?_ NB261_263.out _;refine bP ?_;refine blk_far ?_ NB261_263.out _;refine bP ?_;exact BK261.out) hb) (jA (blk_below (g := gb262) (o := .cells #[.slice none 0 0,.string (⟨#[]⟩ : ByteArray),.slice none 0 0,.slice none 0 0] 29 (0,0)) (by refine bP ?_;refine blk_far ?_ NB262_263.out _;refine bP ?_;refine blk_far ?_ NB262_263.out _;refine bP ?_;exact BK262.out) hb) (jA (blk_below (g := gb263) (o := .cells #[.slice Aoq10 t264.length coq10,.string a0_1,.slice none 0 0,.slice none 0 0] 29 (0,0)) (by refine bP ?_;refine blk_put (cs := #[.slice Aoq10 t264.length coq10,.string (⟨#[]⟩ : ByteArray),.slice none 0 0,.slice none 0 0]) ?_ 1 _ rfl;refine bP ?_;refine blk_put (cs := #[.slice none 0 0,.string (⟨#[]⟩ : ByteArray),.slice none 0 0,.slice none 0 0]) ?_ 0 _ rfl;refine bP ?_;exact BK263.out) hb) (Aside0.mk (below_step Z30 hb))))));clear HO266 BK261 BK262 BK263 HB;obtain ⟨HO266,HO269,BK261,BK262,BK263,HB⟩ := n_;(try clear hb);(try clear hb2);(try clear hk);(try clear hi);(try clear hoq9);obtain ⟨Aoq16,coq16,eoq16⟩ := Kd.S_slice HO269.out;subst eoq16;obtain ⟨hczq17_0,hczq17_1,hczq17_2,hczq17_3,hfzq17_0,hfzq17_1,hfzq17_2,hfzq17_3⟩ := cells4 BK263.out;obtain ⟨hczq18_0,hczq18_1,hczq18_2,hczq18_3,hfzq18_0,hfzq18_1,hfzq18_2,hfzq18_3⟩ := cells4 BK261.out) | ((with_reducible refine gate_callee (f := 17) rfl ?_);refine goesL_ (some 17) rfl rfl Tryd.func17 Z121 rfl #[.slice A0_3 l0_3.length c0_3] rfl Z66 ?_;(with_reducible refine (laws_toIntS.calls k _ _ l0_3 t270 _ ?side1 ?side2 A4.out).mono ?_);(case side1 => exact Kd.C_below HR0_3.out Z30);(case side2 => exact Z120);rintro e wq19 ⟨vq20,rfl,hoq9,hb⟩;refine ⟨_,rfl,?_⟩;have n_ := jA (Kd.R_below (by (with_reducible repeat (first | apply Kd.R_alloc | apply Kd.R_drewN | apply Kd.R_drew));exact (Kd.R_mono (Kd.R_far (p := ⟨gb263,2,none⟩) (Kd.R_types HO266.out BK263.out Z145) (fun _ hk => hk.2) (.slice Aoq16 t267.length coq16)) (fun _ h_ => h_.1))) hb) (jA (Kd.S_elder' (by (with_reducible repeat (first | apply Kd.S_alloc | apply Kd.S_drewN | apply Kd.S_drew));exact (Kd.S_mono (Kd.S_far (p := ⟨gb263,2,none⟩) (Kd.S_types HO269.out BK263.out Z145) (fun _ hk => hk.2) (.slice Aoq16 t267.length coq16)) (fun _ h_ => h_.1))) (Kd.R_base hoq9) hb) (jA (Kd.R_lower hoq9 (below_size Z30)) (jA (blk_below (g := gb261) (o := .cells #[.slice A0_0 l0_0.length c0_0,.string a0_1,.slice A0_2 l0_2.length c0_2,.slice A0_3 l0_3.length c0_3] 26 (0,0)) (by refine bP ?_;refine blk_far ?_ NB261_263.out _;refine bP ?_;exact BK261.out) hb) (jA (blk_below (g := gb262) (o := .cells #[.slice none 0 0,.string (⟨#[]⟩ : ByteArray),.slice none 0 0,.slice none 0 0] 29 (0,0)) (by refine bP ?_;refine blk_far ?_ NB262_263.out _;refine bP ?_;exact BK262.out) hb) (jA (blk_below (g := gb263) (o := .cells #[.slice Aoq10 t264.length coq10,.string a0_1,.slice Aoq16 t267.length coq16,.slice none 0 0] 29 (0,0)) (by refine bP ?_;refine blk_put (cs := #[.slice Aoq10 t264.length coq10,.string a0_1,.slice none 0 0,.slice none 0 0]) ?_ 2 _ rfl;refine bP ?_;exact BK263.out) hb) (Aside0.mk (below_step Z30 hb)))))));clear HO266 HO269 BK261 BK262 BK263 HB;obtain ⟨HO266,HO269,HO272,BK261,BK262,BK263,HB⟩ := n_;(try clear hb);(try clear hb2);(try clear hk);(try clear hi);(try clear hoq9);obtain ⟨Aoq21,coq21,eoq21⟩ := Kd.R_slice HO272.out;subst eoq21;obtain ⟨hczq22_0,hczq22_1,hczq22_2,hczq22_3,hfzq22_0,hfzq22_1,hfzq22_2,hfzq22_3⟩ := cells4 BK263.out;obtain ⟨hczq23_0,hczq23_1,hczq23_2,hczq23_3,hfzq23_0,hfzq23_1,hfzq23_2,hfzq23_3⟩ := cells4 BK262.out))
 refine bodyPost_ret (results_cell_row rfl _ _ gb262 29 #[.slice Aoq10 t264.length coq10,.string a0_1,.slice Aoq16 t267.length coq16,.slice Aoq21 t270.length coq21] (0,0) _ rfl (by refine bP ?_;refine blk_put (cs := #[.slice Aoq10 t264.length coq10,.string a0_1,.slice Aoq16 t267.length coq16,.slice none 0 0]) ?_ 3 _ rfl;refine bP ?_;refine blk_put (cs := #[.slice Aoq10 t264.length coq10,.string a0_1,.slice none 0 0,.slice none 0 0]) ?_ 2 _ rfl;refine bP ?_;refine blk_put (cs := #[.slice Aoq10 t264.length coq10,.string (⟨#[]⟩ : ByteArray),.slice none 0 0,.slice none 0 0]) ?_ 1 _ rfl;refine bP ?_;refine blk_put (cs := #[.slice none 0 0,.string (⟨#[]⟩ : ByteArray),.slice none 0 0,.slice none 0 0]) ?_ 0 _ rfl;refine bP ?_;refine blk_far ?_ NB262_263.out _;refine bP ?_;exact BK262.out) Tryd.underlying29 rfl Z121) rfl ?_
 exact ⟨_,_,_,Z98,by (with_reducible repeat (first | apply Kd.R_alloc | apply Kd.R_drewN | apply Kd.R_drew));exact Kd.R_mono (Kd.R_far (p := ⟨gb262,3,none⟩) (Kd.R_far (p := ⟨gb262,2,none⟩) (Kd.R_far (p := ⟨gb262,1,none⟩) (Kd.R_far (p := ⟨gb262,0,none⟩) (Kd.R_far (p := ⟨gb263,3,none⟩) (Kd.R_types (Kd.R_types HO266.out BK263.out Z145) BK262.out Z145) (fun _ hk => hk.1.2) (.slice Aoq21 t270.length coq21)) (fun _ hk => hk.2) (.slice Aoq10 t264.length coq10)) (fun _ hk => hk.2) (.string a0_1)) (fun _ hk => hk.2) (.slice Aoq16 t267.length coq16)) (fun _ hk => hk.2) (.slice Aoq21 t270.length coq21)) (fun _ hk => trivial),by (with_reducible repeat (first | apply Kd.S_alloc | apply Kd.S_drewN | apply Kd.S_drew));exact Kd.S_mono (Kd.S_far (p := ⟨gb262,3,none⟩) (Kd.S_far (p := ⟨gb262,2,none⟩) (Kd.S_far (p := ⟨gb262,1,none⟩) (Kd.S_far (p := ⟨gb262,0,none⟩) (Kd.S_far (p := ⟨gb263,3,none⟩) (Kd.S_types (Kd.S_types HO269.out BK263.out Z145) BK262.out Z145) (fun _ hk => hk.1.2) (.slice Aoq21 t270.length coq21)) (fun _ hk => hk.2) (.slice Aoq10 t264.length coq10)) (fun _ hk => hk.2) (.string a0_1)) (fun _ hk => hk.2) (.slice Aoq16 t267.length coq16)) (fun _ hk => hk.2) (.slice Aoq21 t270.length coq21)) (fun _ hk => hk.1.1.2),by (with_reducible repeat (first | apply Kd.R_alloc | apply Kd.R_drewN | apply Kd.R_drew));exact Kd.R_mono (Kd.R_far (p := ⟨gb262,3,none⟩) (Kd.R_far (p := ⟨gb262,2,none⟩) (Kd.R_far (p := ⟨gb262,1,none⟩) (Kd.R_far (p := ⟨gb262,0,none⟩) (Kd.R_far (p := ⟨gb263,3,none⟩) (Kd.R_types (Kd.R_types HO272.out BK263.out Z145) BK262.out Z145) (fun _ hk => hk.1.2) (.slice Aoq21 t270.length coq21)) (fun _ hk => hk.2) (.slice Aoq10 t264.length coq10)) (fun _ hk => hk.2) (.string a0_1)) (fun _ hk => hk.2) (.slice Aoq16 t267.length coq16)) (fun _ hk => hk.2) (.slice Aoq21 t270.length coq21)) (fun _ hk => trivial),Z30⟩

/-! ### slices_Clone_string_string: function 19 -/
def slices_Clone_string_string.f (l0 : List ByteArray) : Option (List ByteArray) := if l0.length * 16 ≤ 140737488355328 then some l0 else none
theorem slices_Clone_string_string.calls (A0 : Option Addr) (c0 : Nat) (l0 : List ByteArray) (r : List ByteArray) (w : World) (hr0 : Kd.C Kd.string w A0 l0.length l0) (hc0 : l0.length ≤ c0) (h : slices_Clone_string_string.f l0 = some r) :
  Calls Tryd.prog 19 #[.slice A0 l0.length c0] w fun e w' => ∃ v0_ : Value,e = .returned (v0_) ∧ Kd.R Kd.string 9 w' w.heap.size (fun _ => True) v0_ r ∧ Below w.heap.size w w' := by
 unfold slices_Clone_string_string.f at h
 by_cases hb : l0.length * 16 ≤ 140737488355328
 rotate_left
 ·rw [if_neg hb] at h;cases h
 rw [if_pos hb] at h
 obtain rfl := Option.some.inj h
 rcases Nat.eq_zero_or_pos l0.length with h0 | h0
 ·obtain rfl := List.length_eq_zero_iff.mp h0
  cases A0 with
  | none => exact (Tryd.slices_Clone_string_nil _ _ w).mono fun e w' ⟨he,hw⟩ => ⟨_,he,Kd.R_nil _ _ _ _ _,hw ▸ Below.refl _ _⟩
  | some a => exact (Tryd.slices_Clone_string_zero a _ w).mono fun e w' ⟨v,he,ho,_,hb⟩ => ⟨v,he,Kd.R_of_own (enc := Value.string) ho (fun _ _ => trivial),hb⟩
 obtain ⟨_,_,hc'⟩ := hr0
 obtain ⟨⟨b,off,f⟩,rfl,hc⟩ := hc' h0
 clear hc'
 have hk : ∀ j,j < l0.length → w.cell? (if j = 0 then ⟨b,off,f⟩ else ⟨b,off + j,none⟩) = some (.string (l0.getD j ByteArray.empty)) := by
  intro j hj
  obtain ⟨c,_,hcr,hcell⟩ := hc j _ (List.getElem?_eq_getElem hj)
  have hcr : c = [Value.string l0[j]] := hcr
  have := hcell 0 (.string l0[j]) (by rw [hcr];rfl)
  simpa [Kd.string,Kd.scalar,Addr.add,List.getD,List.getElem?_eq_getElem hj] using this
 obtain rfl : f = none := by
  have := hk 0 h0
  cases f with
  | none => rfl
  | some _ =>
   simp only [if_true,World.cell?,Option.isSome_some] at this
   split at this <;> simp at this
 have hk : ∀ j,j < l0.length → w.cell? ⟨b,off + j,none⟩ = some (.string (l0.getD j ByteArray.empty)) := by
  intro j hj
  have := hk j hj
  by_cases e : j = 0
  rotate_left
  ·rwa [if_neg e] at this
  subst e;simpa using this
 exact (Tryd.slices_Clone_string b off _ _ l0 w (Nat.le_refl _) hb hk).mono fun e w' ⟨v,he,ho,_,hb⟩ => ⟨v,he,Kd.R_of_own (enc := Value.string) (by simpa [encs] using ho) (fun _ _ => trivial),hb⟩

/-! ### impl_NameOk: function 41 -/
def impl_NameOk.l0 : Nat → ByteArray → Int → Int → Option (Bool)
 | 0,_,_,_ => none
 | k + 1,x0,x6,x7 => if x7 < x6 then (if 0 ≤ x7 then (if x7 < (x0.size : Int) then (if (bt x0 x7) ≥ 97 then (if ((bt x0 x7) ≤ 122) then (impl_NameOk.l0 k x0 x6 (wrap64 (x7 + 1))) else (if x7 = 0 then (some false) else (if (bt x0 x7) < 48 then (some false) else (if (bt x0 x7) > 57 then (some false) else (impl_NameOk.l0 k x0 x6 (wrap64 (x7 + 1))))))) else (if x7 = 0 then (some false) else (if (bt x0 x7) < 48 then (some false) else (if (bt x0 x7) > 57 then (some false) else (impl_NameOk.l0 k x0 x6 (wrap64 (x7 + 1))))))) else (none)) else (none)) else ((impl_within.f (x0.size : Int) 1 12).bind fun t273 => (some t273))
def impl_NameOk.f (k : Nat) (a0 : ByteArray) : Option (Bool) := impl_NameOk.l0 k a0 (a0.size : Int) 0
theorem impl_NameOk.mono_l : ∀ k,(∀ y0 y1 y2,LeO (impl_NameOk.l0 k y0 y1 y2) (impl_NameOk.l0 (k + 1) y0 y1 y2))
 | 0 => fun _ _ _ r h => by simp [impl_NameOk.l0] at h
 | k + 1 => by
  have ih0 := impl_NameOk.mono_l k
  ·intro y0 y1 y2
   unfold impl_NameOk.l0
   repeat' first
   | (with_reducible exact ih0 _ _ _)
   | (with_reducible exact LeO.refl _)
   | (with_reducible exact LeO.none _)
   | (with_reducible refine LeO.ite ?_ ?_)
   | (with_reducible refine LeO.bind ?_ (fun _ => ?_))
   | exact ih0 _ _ _
   | exact LeO.none _
   | refine LeO.ite ?_ ?_
   | refine LeO.bind ?_ (fun _ => ?_)
theorem impl_NameOk.mono : ∀ a0 k,LeO (impl_NameOk.f k a0) (impl_NameOk.f (k + 1) a0) := by
 intro a0 k
 have ih0 := impl_NameOk.mono_l k
 unfold impl_NameOk.f
 repeat' first
   | (with_reducible exact ih0 _ _ _)
   | (with_reducible exact LeO.refl _)
   | (with_reducible exact LeO.none _)
   | (with_reducible refine LeO.ite ?_ ?_)
   | (with_reducible refine LeO.bind ?_ (fun _ => ?_))
   | exact ih0 _ _ _
   | exact LeO.none _
   | refine LeO.ite ?_ ?_
   | refine LeO.bind ?_ (fun _ => ?_)
set_option maxHeartbeats 8000000 in
set_option maxRecDepth 100000 in
theorem impl_NameOk.calls (k : Nat) (a0 : ByteArray) (r : Bool) (w : World) (h : impl_NameOk.f k a0 = some r) :
  Calls Tryd.prog 41 #[.string a0] w fun e w' => e = .returned (.bool r) ∧ Drawn0 w w' := by
 have H : (impl_NameOk.l0 k a0 (a0.size : Int) 0) = some r := h
 clear h
 have H' := Aside0.mk H
 clear H
 go_enter Tryd.func41,Tryd.ntmps41
 go_wp2
 go_loopg [7] k (fun kq v7 w' => ∃ (x7_1 : Int),v7 = .int .i64 x7_1 ∧ Aside0 (impl_NameOk.l0 kq a0 (a0.size : Int) x7_1 = some r) ∧ Aside0 (kq ≤ k) ∧ Drawn0 w w')
 case atStart => exact ⟨(0),Z106,H',⟨Nat.le_refl _⟩,Z104⟩
 case round =>
  clear H'
  obtain ⟨x7_1,rfl,HA,HK1,⟨m1,rfl⟩⟩ := hrel
  cases gk with
  | zero => exact absurd HA.out (by simp [impl_NameOk.l0])
  | succ k1 =>
   have H := HA.out
   clear HA
   simp only [impl_NameOk.l0] at H
   by_cases c2 : x7_1 < (a0.size : Int)
   rotate_left
   ·rw [if_neg c2] at H
    have c2b0 : decide (x7_1 < (a0.size : Int)) = false := decide_eq_false c2
    clear c2
    obtain ⟨t273,A190,H⟩ := Option.bind_eq_some_iff.mp H
    have A19 := Aside0.mk A190
    clear A190
    obtain rfl := Option.some.inj H
    go_wp2_with (first | ((with_reducible refine gate_callee (f := 32) rfl ?_);refine goesL_ (some 41) rfl rfl Tryd.func32 Z121 rfl #[.int .i64 (a0.size : Int),.int .i64 1,.int .i64 12] rfl Z66 ?_;(with_reducible refine (impl_within.calls (a0.size : Int) 1 12 t273 _ A19.out).mono ?_);rintro e w' ⟨rfl,⟨nd,rfl⟩⟩;refine ⟨_,rfl,?_⟩))
    go_ret
    exact ⟨Z106,Z104⟩
   rw [if_pos c2] at H
   have c2b0 : decide (x7_1 < (a0.size : Int)) = true := decide_eq_true c2
   clear c2
   obtain ⟨c3,H⟩ := ifp H
   have c3b0 : decide (0 ≤ x7_1) = true := decide_eq_true c3
   clear c3
   obtain ⟨c4,H⟩ := ifp H
   have c4b0 : decide (x7_1 < (a0.size : Int)) = true := decide_eq_true c4
   clear c4
   by_cases c6 : (bt a0 x7_1) ≥ 97
   rotate_left
   ·rw [if_neg c6] at H
    have c6b0 : decide (97 ≤ (bt a0 x7_1)) = false := decide_eq_false c6
    clear c6
    by_cases c14 : x7_1 = 0
    ·rw [if_pos c14] at H
     have c14b0 : (x7_1 == 0) = true := beq_iff_eq.mpr c14
     have c14b1 : (x7_1 != 0) = false := bne_eq_false_iff_eq.mpr c14
     clear c14
     obtain rfl := Option.some.inj H
     have p5 : 0 ≤ (x7_1 : Int) := of_decide_eq_true Z105
     have q5 : x7_1 < (a0.size : Int) := of_decide_eq_true Z105
     have hx5 := bt_at a0 x7_1
     replace p5 := eq_true p5
     replace q5 := eq_true q5
     go_wp2
     go_ret
     exact ⟨Z106,Z104⟩
    rw [if_neg c14] at H
    have c14b0 : (x7_1 == 0) = false := beq_eq_false_iff_ne.mpr c14
    have c14b1 : (x7_1 != 0) = true := bne_iff_ne.mpr c14
    by_cases c16 : (bt a0 x7_1) < 48
    ·rw [if_pos c16] at H
     have c16b0 : decide ((bt a0 x7_1) < 48) = true := decide_eq_true c16
     clear c16
     obtain rfl := Option.some.inj H
     have p5 : 0 ≤ (x7_1 : Int) := of_decide_eq_true Z105
     have q5 : x7_1 < (a0.size : Int) := of_decide_eq_true Z105
     have hx5 := bt_at a0 x7_1
     replace p5 := eq_true p5
     replace q5 := eq_true q5
     have p15 : 0 ≤ (x7_1 : Int) := of_decide_eq_true Z105
     have q15 : x7_1 < (a0.size : Int) := of_decide_eq_true Z105
     have hx15 := bt_at a0 x7_1
     replace p15 := eq_true p15
     replace q15 := eq_true q15
     go_wp2
     go_ret
     exact ⟨Z106,Z104⟩
    rw [if_neg c16] at H
    have c16b0 : decide ((bt a0 x7_1) < 48) = false := decide_eq_false c16
    clear c16
    by_cases c18 : (bt a0 x7_1) > 57
    ·rw [if_pos c18] at H
     have c18b0 : decide (57 < (bt a0 x7_1)) = true := decide_eq_true c18
     clear c18
     obtain rfl := Option.some.inj H
     have p5 : 0 ≤ (x7_1 : Int) := of_decide_eq_true Z105
     have q5 : x7_1 < (a0.size : Int) := of_decide_eq_true Z105
     have hx5 := bt_at a0 x7_1
     replace p5 := eq_true p5
     replace q5 := eq_true q5
     have p15 : 0 ≤ (x7_1 : Int) := of_decide_eq_true Z105
     have q15 : x7_1 < (a0.size : Int) := of_decide_eq_true Z105
     have hx15 := bt_at a0 x7_1
     replace p15 := eq_true p15
     replace q15 := eq_true q15
     have p17 : 0 ≤ (x7_1 : Int) := of_decide_eq_true Z105
     have q17 : x7_1 < (a0.size : Int) := of_decide_eq_true Z105
     have hx17 := bt_at a0 x7_1
     replace p17 := eq_true p17
     replace q17 := eq_true q17
     go_wp2
     go_ret
     exact ⟨Z106,Z104⟩
    rw [if_neg c18] at H
    have c18b0 : decide (57 < (bt a0 x7_1)) = false := decide_eq_false c18
    clear c18
    have H' := Aside0.mk H
    clear H
    have p5 : 0 ≤ (x7_1 : Int) := of_decide_eq_true Z105
    have q5 : x7_1 < (a0.size : Int) := of_decide_eq_true Z105
    have hx5 := bt_at a0 x7_1
    replace p5 := eq_true p5
    replace q5 := eq_true q5
    have p15 : 0 ≤ (x7_1 : Int) := of_decide_eq_true Z105
    have q15 : x7_1 < (a0.size : Int) := of_decide_eq_true Z105
    have hx15 := bt_at a0 x7_1
    replace p15 := eq_true p15
    replace q15 := eq_true q15
    have p17 : 0 ≤ (x7_1 : Int) := of_decide_eq_true Z105
    have q17 : x7_1 < (a0.size : Int) := of_decide_eq_true Z105
    have hx17 := bt_at a0 x7_1
    replace p17 := eq_true p17
    replace q17 := eq_true q17
    go_wp2
    go_roundg k1
    case measure => have := HK1.out;omega
    case rel => exact ⟨(wrap64 (x7_1 + 1)),Z106,H',⟨Z116⟩,Z104⟩
   rw [if_pos c6] at H
   have c6b0 : decide (97 ≤ (bt a0 x7_1)) = true := decide_eq_true c6
   clear c6
   by_cases c8 : ((bt a0 x7_1) ≤ 122)
   ·rw [if_pos c8] at H
    have c8b0 : decide ((bt a0 x7_1) ≤ 122) = true := decide_eq_true c8
    clear c8
    have H' := Aside0.mk H
    clear H
    have p5 : 0 ≤ (x7_1 : Int) := of_decide_eq_true Z105
    have q5 : x7_1 < (a0.size : Int) := of_decide_eq_true Z105
    have hx5 := bt_at a0 x7_1
    replace p5 := eq_true p5
    replace q5 := eq_true q5
    have p7 : 0 ≤ (x7_1 : Int) := of_decide_eq_true Z105
    have q7 : x7_1 < (a0.size : Int) := of_decide_eq_true Z105
    have hx7 := bt_at a0 x7_1
    replace p7 := eq_true p7
    replace q7 := eq_true q7
    go_wp2
    go_roundg k1
    case measure => have := HK1.out;omega
    case rel => exact ⟨(wrap64 (x7_1 + 1)),Z106,H',⟨Z116⟩,Z104⟩
   rw [if_neg c8] at H
   have c8b0 : decide ((bt a0 x7_1) ≤ 122) = false := decide_eq_false c8
   clear c8
   by_cases c9 : x7_1 = 0
   ·rw [if_pos c9] at H
    have c9b0 : (x7_1 == 0) = true := beq_iff_eq.mpr c9
    have c9b1 : (x7_1 != 0) = false := bne_eq_false_iff_eq.mpr c9
    clear c9
    obtain rfl := Option.some.inj H
    have p5 : 0 ≤ (x7_1 : Int) := of_decide_eq_true Z105
    have q5 : x7_1 < (a0.size : Int) := of_decide_eq_true Z105
    have hx5 := bt_at a0 x7_1
    replace p5 := eq_true p5
    replace q5 := eq_true q5
    have p7 : 0 ≤ (x7_1 : Int) := of_decide_eq_true Z105
    have q7 : x7_1 < (a0.size : Int) := of_decide_eq_true Z105
    have hx7 := bt_at a0 x7_1
    replace p7 := eq_true p7
    replace q7 := eq_true q7
    go_wp2
    go_ret
    exact ⟨Z106,Z104⟩
   rw [if_neg c9] at H
   have c9b0 : (x7_1 == 0) = false := beq_eq_false_iff_ne.mpr c9
   have c9b1 : (x7_1 != 0) = true := bne_iff_ne.mpr c9
   by_cases c11 : (bt a0 x7_1) < 48
   ·rw [if_pos c11] at H
    have c11b0 : decide ((bt a0 x7_1) < 48) = true := decide_eq_true c11
    clear c11
    obtain rfl := Option.some.inj H
    have p5 : 0 ≤ (x7_1 : Int) := of_decide_eq_true Z105
    have q5 : x7_1 < (a0.size : Int) := of_decide_eq_true Z105
    have hx5 := bt_at a0 x7_1
    replace p5 := eq_true p5
    replace q5 := eq_true q5
    have p7 : 0 ≤ (x7_1 : Int) := of_decide_eq_true Z105
    have q7 : x7_1 < (a0.size : Int) := of_decide_eq_true Z105
    have hx7 := bt_at a0 x7_1
    replace p7 := eq_true p7
    replace q7 := eq_true q7
    have p10 : 0 ≤ (x7_1 : Int) := of_decide_eq_true Z105
    have q10 : x7_1 < (a0.size : Int) := of_decide_eq_true Z105
    have hx10 := bt_at a0 x7_1
    replace p10 := eq_true p10
    replace q10 := eq_true q10
    go_wp2
    go_ret
    exact ⟨Z106,Z104⟩
   rw [if_neg c11] at H
   have c11b0 : decide ((bt a0 x7_1) < 48) = false := decide_eq_false c11
   clear c11
   by_cases c13 : (bt a0 x7_1) > 57
   ·rw [if_pos c13] at H
    have c13b0 : decide (57 < (bt a0 x7_1)) = true := decide_eq_true c13
    clear c13
    obtain rfl := Option.some.inj H
    have p5 : 0 ≤ (x7_1 : Int) := of_decide_eq_true Z105
    have q5 : x7_1 < (a0.size : Int) := of_decide_eq_true Z105
    have hx5 := bt_at a0 x7_1
    replace p5 := eq_true p5
    replace q5 := eq_true q5
    have p7 : 0 ≤ (x7_1 : Int) := of_decide_eq_true Z105
    have q7 : x7_1 < (a0.size : Int) := of_decide_eq_true Z105
    have hx7 := bt_at a0 x7_1
    replace p7 := eq_true p7
    replace q7 := eq_true q7
    have p10 : 0 ≤ (x7_1 : Int) := of_decide_eq_true Z105
    have q10 : x7_1 < (a0.size : Int) := of_decide_eq_true Z105
    have hx10 := bt_at a0 x7_1
    replace p10 := eq_true p10
    replace q10 := eq_true q10
    have p12 : 0 ≤ (x7_1 : Int) := of_decide_eq_true Z105
    have q12 : x7_1 < (a0.size : Int) := of_decide_eq_true Z105
    have hx12 := bt_at a0 x7_1
    replace p12 := eq_true p12
    replace q12 := eq_true q12
    go_wp2
    go_ret
    exact ⟨Z106,Z104⟩
   rw [if_neg c13] at H
   have c13b0 : decide (57 < (bt a0 x7_1)) = false := decide_eq_false c13
   clear c13
   have H' := Aside0.mk H
   clear H
   have p5 : 0 ≤ (x7_1 : Int) := of_decide_eq_true Z105
   have q5 : x7_1 < (a0.size : Int) := of_decide_eq_true Z105
   have hx5 := bt_at a0 x7_1
   replace p5 := eq_true p5
   replace q5 := eq_true q5
   have p7 : 0 ≤ (x7_1 : Int) := of_decide_eq_true Z105
   have q7 : x7_1 < (a0.size : Int) := of_decide_eq_true Z105
   have hx7 := bt_at a0 x7_1
   replace p7 := eq_true p7
   replace q7 := eq_true q7
   have p10 : 0 ≤ (x7_1 : Int) := of_decide_eq_true Z105
   have q10 : x7_1 < (a0.size : Int) := of_decide_eq_true Z105
   have hx10 := bt_at a0 x7_1
   replace p10 := eq_true p10
   replace q10 := eq_true q10
   have p12 : 0 ≤ (x7_1 : Int) := of_decide_eq_true Z105
   have q12 : x7_1 < (a0.size : Int) := of_decide_eq_true Z105
   have hx12 := bt_at a0 x7_1
   replace p12 := eq_true p12
   replace q12 := eq_true q12
   go_wp2
   go_roundg k1
   case measure => have := HK1.out;omega
   case rel => exact ⟨(wrap64 (x7_1 + 1)),Z106,H',⟨Z116⟩,Z104⟩

end Go.Proofs.YtepnbcdbagjmbabDoor.QFnExactTableText
