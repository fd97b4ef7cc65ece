/- The machine side of FnExactReadTable: what each Go function that it reaches comes to. Conditions: none. -/
import Derived.Test.YtepnbcdbagjmbaaDoorQFnExactReadTablex0
namespace Go.Proofs.YtepnbcdbagjmbaaDoor.QFnExactReadTable
open Go.RowKit Go.Proofs.YtepnbcdbagjmbaaDoorW.PrintWords Go.Proofs.YtepnbcdbagjmbaaDoorW.PrintLast Go.Proofs.YtepnbcdbagjmbaaDoorW.PrintMore
attribute [local go_sem] max2_int min2_int max_two min_two max_three min_three max_four min_four   -- for this text's walks alone
set_option linter.unusedVariables false
set_option linter.unusedSimpArgs false

/-! ### spec_l7Field: function 30 -/
mutual
def spec_l7Field.j0 : Nat → ByteArray → Int → List Int → Bool → Option (ByteArray × Int × Bool)
 | 0,_,_,_,_ => none
 | k + 1,x0,x1,x7,x18 => if x18 = true then (spec_l7Field.l0 k x0 (wrap64 (x1 + 1)) x7) else (spec_l7Field.l1 k x0 x1 x7)
def spec_l7Field.l0 : Nat → ByteArray → Int → List Int → Option (ByteArray × Int × Bool)
 | 0,_,_,_ => none
 | k + 1,x0,x1,x7 => if x1 ≥ (x0.size : Int) then (some ((⟨#[]⟩ : ByteArray),x1,false)) else (if 0 ≤ x1 then (if x1 < (x0.size : Int) then (if (bt x0 x1) = 34 then (if (wrap64 (x1 + 1)) < (x0.size : Int) then (if 0 ≤ (wrap64 (x1 + 1)) then (if (bt x0 (wrap64 (x1 + 1))) = 34 then (if x7.length < 140737488355328 then (spec_l7Field.l0 k x0 (wrap64 (x1 + 2)) (x7 ++ [34])) else (none)) else (some (strOfNums x7,wrap64 (x1 + 1),true))) else (none)) else (some (strOfNums x7,wrap64 (x1 + 1),true))) else (if x7.length < 140737488355328 then (spec_l7Field.l0 k x0 (wrap64 (x1 + 1)) (x7 ++ [bt x0 x1])) else (none))) else (none)) else (none))
def spec_l7Field.l1 : Nat → ByteArray → Int → List Int → Option (ByteArray × Int × Bool)
 | 0,_,_,_ => none
 | k + 1,x0,x1,x7 => if x1 < (x0.size : Int) then (if 0 ≤ x1 then (if (bt x0 x1) = 44 then (spec_l7Field.j3 k x0 x1 x7 false) else (if (bt x0 x1) = 10 then (spec_l7Field.j3 k x0 x1 x7 false) else (spec_l7Field.j3 k x0 x1 x7 ((bt x0 x1) != 13)))) else (none)) else (spec_l7Field.j3 k x0 x1 x7 false)
def spec_l7Field.j3 : Nat → ByteArray → Int → List Int → Bool → Option (ByteArray × Int × Bool)
 | 0,_,_,_,_ => none
 | k + 1,x0,x1,x7,x80 => if x80 = true then (if 0 ≤ x1 then (if x1 < (x0.size : Int) then (if (bt x0 x1) = 34 then (some ((⟨#[]⟩ : ByteArray),x1,false)) else (if x7.length < 140737488355328 then (spec_l7Field.l1 k x0 (wrap64 (x1 + 1)) (x7 ++ [bt x0 x1])) else (none))) else (none)) else (none)) else (some (strOfNums x7,x1,true))
end
def spec_l7Field.f (k : Nat) (a0 : ByteArray) (a1 : Int) : Option (ByteArray × Int × Bool) := (some (([] : List Int) : List Int)).bind fun y101 => (if a1 < (a0.size : Int) then (if 0 ≤ a1 then (spec_l7Field.j0 k a0 a1 y101 ((bt a0 a1) == 34)) else (none)) else (spec_l7Field.j0 k a0 a1 y101 false))
theorem spec_l7Field.mono_l : ∀ k,(∀ y0 y1 y2 y3,LeO (spec_l7Field.j0 k y0 y1 y2 y3) (spec_l7Field.j0 (k + 1) y0 y1 y2 y3)) ∧ (∀ y0 y1 y2,LeO (spec_l7Field.l0 k y0 y1 y2) (spec_l7Field.l0 (k + 1) y0 y1 y2)) ∧ (∀ y0 y1 y2,LeO (spec_l7Field.l1 k y0 y1 y2) (spec_l7Field.l1 (k + 1) y0 y1 y2)) ∧ (∀ y0 y1 y2 y3,LeO (spec_l7Field.j3 k y0 y1 y2 y3) (spec_l7Field.j3 (k + 1) y0 y1 y2 y3))
 | 0 => ⟨fun _ _ _ _ r h => by simp [spec_l7Field.j0] at h,fun _ _ _ r h => by simp [spec_l7Field.l0] at h,fun _ _ _ r h => by simp [spec_l7Field.l1] at h,fun _ _ _ _ r h => by simp [spec_l7Field.j3] at h⟩
 | k + 1 => by
  obtain ⟨ih0,ih1,ih2,ih3⟩ := spec_l7Field.mono_l k
  refine ⟨?_,?_,?_,?_⟩
  ·intro y0 y1 y2 y3
   unfold spec_l7Field.j0
   repeat' first
   | (with_reducible exact ih0 _ _ _ _)
   | (with_reducible exact ih1 _ _ _)
   | (with_reducible exact ih2 _ _ _)
   | (with_reducible exact ih3 _ _ _ _)
   | (with_reducible exact LeO.refl _)
   | (with_reducible exact LeO.none _)
   | (with_reducible refine LeO.ite ?_ ?_)
   | (with_reducible refine LeO.bind ?_ (fun _ => ?_))
   | exact ih0 _ _ _ _
   | exact ih1 _ _ _
   | exact ih2 _ _ _
   | exact ih3 _ _ _ _
   | exact LeO.none _
   | refine LeO.ite ?_ ?_
   | refine LeO.bind ?_ (fun _ => ?_)
  ·intro y0 y1 y2
   unfold spec_l7Field.l0
   repeat' first
   | (with_reducible exact ih0 _ _ _ _)
   | (with_reducible exact ih1 _ _ _)
   | (with_reducible exact ih2 _ _ _)
   | (with_reducible exact ih3 _ _ _ _)
   | (with_reducible exact LeO.refl _)
   | (with_reducible exact LeO.none _)
   | (with_reducible refine LeO.ite ?_ ?_)
   | (with_reducible refine LeO.bind ?_ (fun _ => ?_))
   | exact ih0 _ _ _ _
   | exact ih1 _ _ _
   | exact ih2 _ _ _
   | exact ih3 _ _ _ _
   | exact LeO.none _
   | refine LeO.ite ?_ ?_
   | refine LeO.bind ?_ (fun _ => ?_)
  ·intro y0 y1 y2
   unfold spec_l7Field.l1
   repeat' first
   | (with_reducible exact ih0 _ _ _ _)
   | (with_reducible exact ih1 _ _ _)
   | (with_reducible exact ih2 _ _ _)
   | (with_reducible exact ih3 _ _ _ _)
   | (with_reducible exact LeO.refl _)
   | (with_reducible exact LeO.none _)
   | (with_reducible refine LeO.ite ?_ ?_)
   | (with_reducible refine LeO.bind ?_ (fun _ => ?_))
   | exact ih0 _ _ _ _
   | exact ih1 _ _ _
   | exact ih2 _ _ _
   | exact ih3 _ _ _ _
   | exact LeO.none _
   | refine LeO.ite ?_ ?_
   | refine LeO.bind ?_ (fun _ => ?_)
  ·intro y0 y1 y2 y3
   unfold spec_l7Field.j3
   repeat' first
   | (with_reducible exact ih0 _ _ _ _)
   | (with_reducible exact ih1 _ _ _)
   | (with_reducible exact ih2 _ _ _)
   | (with_reducible exact ih3 _ _ _ _)
   | (with_reducible exact LeO.refl _)
   | (with_reducible exact LeO.none _)
   | (with_reducible refine LeO.ite ?_ ?_)
   | (with_reducible refine LeO.bind ?_ (fun _ => ?_))
   | exact ih0 _ _ _ _
   | exact ih1 _ _ _
   | exact ih2 _ _ _
   | exact ih3 _ _ _ _
   | exact LeO.none _
   | refine LeO.ite ?_ ?_
   | refine LeO.bind ?_ (fun _ => ?_)
theorem spec_l7Field.mono : ∀ a0 a1 k,LeO (spec_l7Field.f k a0 a1) (spec_l7Field.f (k + 1) a0 a1) := by
 intro a0 a1 k
 obtain ⟨ih0,ih1,ih2,ih3⟩ := spec_l7Field.mono_l k
 unfold spec_l7Field.f
 repeat' first
   | (with_reducible exact ih0 _ _ _ _)
   | (with_reducible exact ih1 _ _ _)
   | (with_reducible exact ih2 _ _ _)
   | (with_reducible exact ih3 _ _ _ _)
   | (with_reducible exact LeO.refl _)
   | (with_reducible exact LeO.none _)
   | (with_reducible refine LeO.ite ?_ ?_)
   | (with_reducible refine LeO.bind ?_ (fun _ => ?_))
   | exact ih0 _ _ _ _
   | exact ih1 _ _ _
   | exact ih2 _ _ _
   | exact ih3 _ _ _ _
   | exact LeO.none _
   | refine LeO.ite ?_ ?_
   | refine LeO.bind ?_ (fun _ => ?_)
set_option maxHeartbeats 8000000 in
set_option maxRecDepth 100000 in
theorem spec_l7Field.calls (k : Nat) (a0 : ByteArray) (a1 : Int) (r1 : ByteArray) (r2 : Int) (r3 : Bool) (w : World) (h : spec_l7Field.f k a0 a1 = some (r1,r2,r3)) :
  Calls Tryd.prog 30 #[.string a0,.int .i64 a1] w fun e w' => e = .returned (.tuple #[.string r1,.int .i64 r2,.bool r3]) ∧ Below w.heap.size w w' := by
 have HB := Aside0.mk (Below.refl w.heap.size w)
 have H := h
 clear h
 unfold spec_l7Field.f at H
 obtain ⟨y101,hyy⟩ : ∃ y_ : List Int,y_ = (([] : List Int)) := ⟨_,rfl⟩
 replace H : (if a1 < (a0.size : Int) then (if 0 ≤ a1 then (spec_l7Field.j0 k a0 a1 y101 ((bt a0 a1) == 34)) else (none)) else (spec_l7Field.j0 k a0 a1 y101 false)) = some (r1,r2,r3) := zR
 have Ny101 := Aside0.mk hyy
 clear hyy
 have HC3 := Aside0.mk H
 clear H
 go_enter Tryd.func30,Tryd.ntmps30
 go_upto_region 2 with (first | ((with_reducible refine gate_dst (N := 8) rfl ?_);refine Kd.R_lit (Kd.int .u8) _ 5 ?hg (N := 8) ?hd (xs := ([] : List Int)) (inner := []) (ok := fun _ => True) (okp := fun _ => True) ?hr ?hp (fun _ hk => hk) trivial (Below.refl _ _) (Nat.le_refl _) Z342 ?_;(case hd => rfl);(case hg => rfl);(case hr => exact Z239);(case hp => exact Z249);intro v102 w4 ho5 hb hg_ hnew_;clear hg_ hnew_;(first | rw [← Ny101.out] at ho5 | (simp only [Int.reduceToNat] at ho5;rw [← Ny101.out] at ho5));have n_ := jA (Kd.R_lower ho5 (below_size Z351)) (Aside0.mk (below_step Z351 hb));clear HB;obtain ⟨HO103,HB⟩ := n_;clear hb ho5))
 (try simp only [Act.put,List.setIfInBounds_toArray,List.set_cons_zero,List.set_cons_succ])
 go_cut [18] (fun v18 wc => ∃ (kq : Nat) (x18_2 : Bool),v18 = .bool x18_2 ∧ Aside0 (spec_l7Field.j0 kq a0 a1 y101 x18_2 = some (r1,r2,r3)) ∧ Aside0 (kq ≤ k) ∧ Aside0 (Kd.R (Kd.int .u8) 5 wc w.heap.size (fun _ => True) v102 y101) ∧ Aside0 (Below w.heap.size w wc))
 case first =>
  have H := HC3.out
  clear HC3
  by_cases c6 : a1 < (a0.size : Int)
  rotate_left
  ·rw [if_neg c6] at H
   have c6b0 : decide (a1 < (a0.size : Int)) = false := decide_eq_false c6
   clear c6
   (first | rw [c6b0] | (simp only [i64_w,i32_w];rw [c6b0]) | skip)
   have H' := Aside0.mk H
   clear H
   go_wp2
   go_meet
   case rel => exact ⟨_,(false),Z238,H',⟨Z241⟩,⟨Z210⟩,⟨Z351⟩⟩
  rw [if_pos c6] at H
  have c6b0 : decide (a1 < (a0.size : Int)) = true := decide_eq_true c6
  clear c6
  (first | rw [c6b0] | (simp only [i64_w,i32_w];rw [c6b0]) | skip)
  obtain ⟨c7,H⟩ := ifp H
  have c7b0 : decide (0 ≤ a1) = true := decide_eq_true c7
  clear c7
  have H' := Aside0.mk H
  clear H
  have p8 : 0 ≤ (a1 : Int) := of_decide_eq_true Z330
  have q8 : a1 < (a0.size : Int) := of_decide_eq_true Z330
  have hx8 := bt_at a0 a1
  replace p8 := eq_true p8
  replace q8 := eq_true q8
  go_wp2
  go_meet
  case rel => exact ⟨_,(((bt a0 a1) == 34)),Z238,H',⟨Z241⟩,⟨Z210⟩,⟨Z351⟩⟩
 case rest =>
  clear HC3
  try clear p2
  try clear c3
  try clear c6
  try clear c6b0
  try clear c7
  try clear c7b0
  try clear p8
  try clear q8
  try clear hx8
  try clear p8
  try clear q8
  obtain ⟨kq,x18_2,rfl,HA,HJ2,HO_7,HB⟩ := hcut
  cases kq with
  | zero => exact absurd HA.out (by simp [spec_l7Field.j0])
  | succ kj2 =>
   have H := HA.out
   clear HA
   simp only [spec_l7Field.j0] at H
   by_cases c9 : x18_2 = true
   ·subst c9
    rw [if_pos rfl] at H
    have H' := Aside0.mk H
    clear H
    go_wp2
    go_loopg [1,7] kj2 (fun kq v1 v7 w' => ∃ (x1_2 : Int) (x7_2 : List Int),v1 = .int .i64 x1_2 ∧ Aside0 (spec_l7Field.l0 kq a0 x1_2 x7_2 = some (r1,r2,r3)) ∧ Aside0 (kq ≤ kj2) ∧ Aside0 (Kd.R (Kd.int .u8) 5 w' w.heap.size (fun _ => True) v7 x7_2) ∧ Aside0 (Below w.heap.size w w'))
    case atStart => exact ⟨(wrap64 (a1 + 1)),(y101),Z238,H',⟨Nat.le_refl _⟩,⟨Z325⟩,⟨Z351⟩⟩
    case round =>
     clear H'
     try clear p2
     try clear c3
     try clear c6
     try clear c6b0
     try clear p6
     try clear c7
     try clear c7b0
     try clear p8
     try clear q8
     try clear hx8
     try clear c9
     try clear p2
     try clear p8
     try clear q8
     obtain ⟨x1_2,x7_2,rfl,HA,HK2,HO_7,HB⟩ := hrel
     cases gk with
     | zero => exact absurd HA.out (by simp [spec_l7Field.l0])
     | succ k2 =>
      have H := HA.out
      clear HA
      simp only [spec_l7Field.l0] at H
      by_cases c10 : x1_2 ≥ (a0.size : Int)
      ·rw [if_pos c10] at H
       have c10b0 : decide ((a0.size : Int) ≤ x1_2) = true := decide_eq_true c10
       clear c10
       simp only [Option.some.injEq,Prod.mk.injEq] at H
       obtain ⟨rfl,rfl,rfl⟩ := H
       go_wp2
       go_ret3
       exact ⟨Z218,Z351⟩
      rw [if_neg c10] at H
      have c10b0 : decide ((a0.size : Int) ≤ x1_2) = false := decide_eq_false c10
      clear c10
      obtain ⟨c11,H⟩ := ifp H
      have c11b0 : decide (0 ≤ x1_2) = true := decide_eq_true c11
      clear c11
      obtain ⟨c12,H⟩ := ifp H
      have c12b0 : decide (x1_2 < (a0.size : Int)) = true := decide_eq_true c12
      clear c12
      by_cases c14 : (bt a0 x1_2) = 34
      rotate_left
      ·rw [if_neg c14] at H
       have c14b0 : ((bt a0 x1_2) == 34) = false := beq_eq_false_iff_ne.mpr c14
       have c14b1 : ((bt a0 x1_2) != 34) = true := bne_iff_ne.mpr c14
       obtain ⟨c25,H⟩ := ifp H
       have LMc25 := Aside0.mk c25
       clear c25
       obtain ⟨y107,hyy⟩ : ∃ y_ : List Int,y_ = (x7_2 ++ [bt a0 x1_2]) := ⟨_,rfl⟩
       replace H : (spec_l7Field.l0 k2 a0 (wrap64 (x1_2 + 1)) y107) = some (r1,r2,r3) := zR
       have Ny107 := Aside0.mk hyy
       clear hyy
       have H' := Aside0.mk H
       clear H
       have p13 : 0 ≤ (x1_2 : Int) := of_decide_eq_true Z330
       have q13 : x1_2 < (a0.size : Int) := of_decide_eq_true Z330
       have hx13 := bt_at a0 x1_2
       replace p13 := eq_true p13
       replace q13 := eq_true q13
       have p24 : 0 ≤ (x1_2 : Int) := of_decide_eq_true Z330
       have q24 : x1_2 < (a0.size : Int) := of_decide_eq_true Z330
       have hx24 := bt_at a0 x1_2
       replace p24 := eq_true p24
       replace q24 := eq_true q24
       go_wp2_with (first | ((with_reducible refine gate_builtin (b := .append) (xs := #[.tmp 30,.tmp 34]) rfl ?_);at_builtin;refine Kd.R_append (Kd.int .u8) (w0 := w) w.heap.size rfl (.tmp 30) (.tmp 34) 66 5 (.int .u8 0) 1 rfl Tryd.underlying66 info5 rfl Z355 Z254 u7 x7_2 (bt a0 x1_2) [.int .u8 (bt a0 x1_2)] (fun _ => True) (fun _ => False) rfl rfl ?aP (fun _ hk => hk.elim) ?aF ?aO ?aB ?aS ?aL ?_;(case aP => exact rfl);(case aB => exact Z166);(case aF => exact Z244);(case aO => exact Z185);(case aS => exact Z152);(case aL => have := LMc25.out;omega);intro v108 w26 ho hb hg hat;rw [← Ny107.out] at ho;have n_ := jA (hb) (Aside0.mk (ho));clear HB HO_7;obtain ⟨HB,HO109⟩ := n_;clear ho hb hg hat))
       go_roundg k2
       case measure => have := HJ2.out;have := HK2.out;omega
       case rel => exact ⟨(wrap64 (x1_2 + 1)),(y107),Z238,H',⟨by have := HJ2.out;have := HK2.out;omega⟩,⟨by (with_reducible repeat (first | apply Kd.R_alloc | apply Kd.R_drewN | apply Kd.R_drew));exact HO109.out⟩,⟨Z351⟩⟩
      rw [if_pos c14] at H
      have c14b0 : ((bt a0 x1_2) == 34) = true := beq_iff_eq.mpr c14
      have c14b1 : ((bt a0 x1_2) != 34) = false := bne_eq_false_iff_eq.mpr c14
      clear c14
      by_cases c15 : (wrap64 (x1_2 + 1)) < (a0.size : Int)
      rotate_left
      ·rw [if_neg c15] at H
       have c15b0 : decide ((wrap64 (x1_2 + 1)) < (a0.size : Int)) = false := decide_eq_false c15
       clear c15
       simp only [Option.some.injEq,Prod.mk.injEq] at H
       obtain ⟨rfl,rfl,rfl⟩ := H
       have p13 : 0 ≤ (x1_2 : Int) := of_decide_eq_true Z330
       have q13 : x1_2 < (a0.size : Int) := of_decide_eq_true Z330
       have hx13 := bt_at a0 x1_2
       replace p13 := eq_true p13
       replace q13 := eq_true q13
       have hcv23 := own_string (P := Tryd.prog) Tryd.underlying66 Tryd.underlying5 Tryd.underlying9 (Kd.own_of_R HO_7.out)
       go_wp2
       go_ret3
       exact ⟨Z218,Z351⟩
      rw [if_pos c15] at H
      have c15b0 : decide ((wrap64 (x1_2 + 1)) < (a0.size : Int)) = true := decide_eq_true c15
      clear c15
      obtain ⟨ji16,hji16⟩ : ∃ j_ : Int,(wrap64 (x1_2 + 1)) = j_ := ⟨_,rfl⟩
      replace H : (if 0 ≤ (ji16) then (if (bt a0 (ji16)) = 34 then (if x7_2.length < 140737488355328 then (spec_l7Field.l0 k2 a0 (wrap64 (x1_2 + 2)) (x7_2 ++ [34])) else (none)) else (some (strOfNums x7_2,ji16,true))) else (none)) = some (r1,r2,r3) := by first | (rw [hji16] at H;exact H) | (simp only [hji16] at H ⊢;exact H)
      (try rw [hji16] at c15b0)
      have hji16w : (IntKind.i64.wrap (x1_2 + 1)) = ji16 := (i64_w _).trans hji16
      obtain ⟨c17,H⟩ := ifp H
      have c17b0 : decide (0 ≤ (ji16)) = true := decide_eq_true c17
      clear c17
      by_cases c19 : (bt a0 (ji16)) = 34
      rotate_left
      ·rw [if_neg c19] at H
       have c19b0 : ((bt a0 (ji16)) == 34) = false := beq_eq_false_iff_ne.mpr c19
       have c19b1 : ((bt a0 (ji16)) != 34) = true := bne_iff_ne.mpr c19
       simp only [Option.some.injEq,Prod.mk.injEq] at H
       obtain ⟨rfl,rfl,rfl⟩ := H
       have p13 : 0 ≤ (x1_2 : Int) := of_decide_eq_true Z330
       have q13 : x1_2 < (a0.size : Int) := of_decide_eq_true Z330
       have hx13 := bt_at a0 x1_2
       replace p13 := eq_true p13
       replace q13 := eq_true q13
       have p18 : 0 ≤ ((ji16) : Int) := of_decide_eq_true Z330
       have q18 : (ji16) < (a0.size : Int) := of_decide_eq_true Z330
       have hx18 := bt_at a0 (ji16)
       replace p18 := eq_true p18
       replace q18 := eq_true q18
       have hcv22 := own_string (P := Tryd.prog) Tryd.underlying66 Tryd.underlying5 Tryd.underlying9 (Kd.own_of_R HO_7.out)
       go_wp2
       go_ret3
       exact ⟨by first | rfl | (simp [errW_none,errW_some] <;> rfl) | (simp only [← hji16];first | rfl | (simp [errW_none,errW_some] <;> rfl)) | (simp [*,errW_none,errW_some] <;> rfl),Z351⟩
      rw [if_pos c19] at H
      have c19b0 : ((bt a0 (ji16)) == 34) = true := beq_iff_eq.mpr c19
      have c19b1 : ((bt a0 (ji16)) != 34) = false := bne_eq_false_iff_eq.mpr c19
      clear c19
      obtain ⟨c20,H⟩ := ifp H
      have LMc20 := Aside0.mk c20
      clear c20
      obtain ⟨y104,hyy⟩ : ∃ y_ : List Int,y_ = (x7_2 ++ [34]) := ⟨_,rfl⟩
      replace H : (spec_l7Field.l0 k2 a0 (wrap64 (x1_2 + 2)) y104) = some (r1,r2,r3) := zR
      have Ny104 := Aside0.mk hyy
      clear hyy
      have H' := Aside0.mk H
      clear H
      have p13 : 0 ≤ (x1_2 : Int) := of_decide_eq_true Z330
      have q13 : x1_2 < (a0.size : Int) := of_decide_eq_true Z330
      have hx13 := bt_at a0 x1_2
      replace p13 := eq_true p13
      replace q13 := eq_true q13
      have p18 : 0 ≤ ((ji16) : Int) := of_decide_eq_true Z330
      have q18 : (ji16) < (a0.size : Int) := of_decide_eq_true Z330
      have hx18 := bt_at a0 (ji16)
      replace p18 := eq_true p18
      replace q18 := eq_true q18
      go_wp2_with (first | ((with_reducible refine gate_builtin (b := .append) (xs := #[.tmp 50,.tmp 51]) rfl ?_);at_builtin;refine Kd.R_append (Kd.int .u8) (w0 := w) w.heap.size rfl (.tmp 50) (.tmp 51) 66 5 (.int .u8 0) 1 rfl Tryd.underlying66 info5 rfl Z355 Z254 u7 x7_2 34 [.int .u8 34] (fun _ => True) (fun _ => False) rfl rfl ?aP (fun _ hk => hk.elim) ?aF ?aO ?aB ?aS ?aL ?_;(case aP => exact rfl);(case aB => exact Z166);(case aF => exact Z244);(case aO => exact Z185);(case aS => exact Z152);(case aL => have := LMc20.out;omega);intro v105 w21 ho hb hg hat;rw [← Ny104.out] at ho;have n_ := jA (hb) (Aside0.mk (ho));clear HB HO_7;obtain ⟨HB,HO106⟩ := n_;clear ho hb hg hat))
      go_roundg k2
      case measure => have := HJ2.out;have := HK2.out;omega
      case rel => exact ⟨(wrap64 (x1_2 + 2)),(y104),Z238,H',⟨by have := HJ2.out;have := HK2.out;omega⟩,⟨by (with_reducible repeat (first | apply Kd.R_alloc | apply Kd.R_drewN | apply Kd.R_drew));exact HO106.out⟩,⟨Z351⟩⟩
   replace c9 := Bool.eq_false_iff.mpr c9
   subst c9
   rw [if_neg Bool.false_ne_true] at H
   have H' := Aside0.mk H
   clear H
   go_wp2
   go_loopg [1,7] kj2 (fun kq v1 v7 w' => ∃ (x1_2 : Int) (x7_2 : List Int),v1 = .int .i64 x1_2 ∧ Aside0 (spec_l7Field.l1 kq a0 x1_2 x7_2 = some (r1,r2,r3)) ∧ Aside0 (kq ≤ kj2) ∧ Aside0 (Kd.R (Kd.int .u8) 5 w' w.heap.size (fun _ => True) v7 x7_2) ∧ Aside0 (Below w.heap.size w w'))
   case atStart => exact ⟨(a1),(y101),Z238,H',⟨Nat.le_refl _⟩,⟨Z325⟩,⟨Z351⟩⟩
   case round =>
    clear H'
    try clear c1
    try clear p1
    try clear q1
    try clear hx1
    try clear c2
    try clear p2
    try clear q2
    try clear hx2
    try clear hcv2
    try clear c3
    try clear c6
    try clear c6b0
    try clear p6
    try clear c7
    try clear c7b0
    try clear p8
    try clear q8
    try clear hx8
    try clear c9
    try clear c10
    try clear c10b0
    try clear c11
    try clear c11b0
    try clear c12
    try clear c12b0
    try clear p13
    try clear q13
    try clear hx13
    try clear c14
    try clear c14b0
    try clear c14b1
    try clear c15
    try clear c15b0
    try clear c17
    try clear c17b0
    try clear p18
    try clear q18
    try clear hx18
    try clear c19
    try clear c19b0
    try clear c19b1
    try clear c20
    try clear hcv22
    try clear hcv23
    try clear p24
    try clear q24
    try clear hx24
    try clear c25
    try clear p13
    try clear p18
    try clear p2
    try clear p24
    try clear p6
    try clear p8
    try clear q13
    try clear q18
    try clear q24
    try clear q8
    obtain ⟨x1_2,x7_2,rfl,HA,HK2,HO_7,HB⟩ := hrel
    cases gk with
    | zero => exact absurd HA.out (by simp [spec_l7Field.l1])
    | succ k2 =>
     have H := HA.out
     clear HA
     simp only [spec_l7Field.l1] at H
     have HC27 := Aside0.mk H
     clear H
     go_upto_region 13 with (fail)
     go_cut [80] (fun v80 wc => ∃ (kq : Nat) (x80_26 : Bool),v80 = .bool x80_26 ∧ Aside0 (spec_l7Field.j3 kq a0 x1_2 x7_2 x80_26 = some (r1,r2,r3)) ∧ Aside0 (kq ≤ k2) ∧ Aside0 (Kd.R (Kd.int .u8) 5 wc w.heap.size (fun _ => True) u7 x7_2) ∧ Aside0 (Below w.heap.size w wc))
     case first =>
      have H := HC27.out
      clear HC27
      by_cases c28 : x1_2 < (a0.size : Int)
      rotate_left
      ·rw [if_neg c28] at H
       have c28b0 : decide (x1_2 < (a0.size : Int)) = false := decide_eq_false c28
       clear c28
       (first | rw [c28b0] | (simp only [i64_w,i32_w];rw [c28b0]) | skip)
       have H' := Aside0.mk H
       clear H
       go_wp2
       go_meet
       case rel => exact ⟨_,(false),Z238,H',⟨Z227⟩,⟨Z325⟩,⟨Z351⟩⟩
      rw [if_pos c28] at H
      have c28b0 : decide (x1_2 < (a0.size : Int)) = true := decide_eq_true c28
      clear c28
      (first | rw [c28b0] | (simp only [i64_w,i32_w];rw [c28b0]) | skip)
      obtain ⟨c29,H⟩ := ifp H
      have c29b0 : decide (0 ≤ x1_2) = true := decide_eq_true c29
      clear c29
      by_cases c31 : (bt a0 x1_2) = 44
      ·rw [if_pos c31] at H
       have c31b0 : ((bt a0 x1_2) == 44) = true := beq_iff_eq.mpr c31
       have c31b1 : ((bt a0 x1_2) != 44) = false := bne_eq_false_iff_eq.mpr c31
       clear c31
       have H' := Aside0.mk H
       clear H
       have p30 : 0 ≤ (x1_2 : Int) := of_decide_eq_true Z330
       have q30 : x1_2 < (a0.size : Int) := of_decide_eq_true Z330
       have hx30 := bt_at a0 x1_2
       replace p30 := eq_true p30
       replace q30 := eq_true q30
       go_wp2
       go_meet
       case rel => exact ⟨_,(false),Z238,H',⟨Z227⟩,⟨Z325⟩,⟨Z351⟩⟩
      rw [if_neg c31] at H
      have c31b0 : ((bt a0 x1_2) == 44) = false := beq_eq_false_iff_ne.mpr c31
      have c31b1 : ((bt a0 x1_2) != 44) = true := bne_iff_ne.mpr c31
      by_cases c33 : (bt a0 x1_2) = 10
      ·rw [if_pos c33] at H
       have c33b0 : ((bt a0 x1_2) == 10) = true := beq_iff_eq.mpr c33
       have c33b1 : ((bt a0 x1_2) != 10) = false := bne_eq_false_iff_eq.mpr c33
       clear c33
       have H' := Aside0.mk H
       clear H
       have p30 : 0 ≤ (x1_2 : Int) := of_decide_eq_true Z330
       have q30 : x1_2 < (a0.size : Int) := of_decide_eq_true Z330
       have hx30 := bt_at a0 x1_2
       replace p30 := eq_true p30
       replace q30 := eq_true q30
       have p32 : 0 ≤ (x1_2 : Int) := of_decide_eq_true Z330
       have q32 : x1_2 < (a0.size : Int) := of_decide_eq_true Z330
       have hx32 := bt_at a0 x1_2
       replace p32 := eq_true p32
       replace q32 := eq_true q32
       go_wp2
       go_meet
       case rel => exact ⟨_,(false),Z238,H',⟨Z227⟩,⟨Z325⟩,⟨Z351⟩⟩
      rw [if_neg c33] at H
      have c33b0 : ((bt a0 x1_2) == 10) = false := beq_eq_false_iff_ne.mpr c33
      have c33b1 : ((bt a0 x1_2) != 10) = true := bne_iff_ne.mpr c33
      have H' := Aside0.mk H
      clear H
      have p30 : 0 ≤ (x1_2 : Int) := of_decide_eq_true Z330
      have q30 : x1_2 < (a0.size : Int) := of_decide_eq_true Z330
      have hx30 := bt_at a0 x1_2
      replace p30 := eq_true p30
      replace q30 := eq_true q30
      have p32 : 0 ≤ (x1_2 : Int) := of_decide_eq_true Z330
      have q32 : x1_2 < (a0.size : Int) := of_decide_eq_true Z330
      have hx32 := bt_at a0 x1_2
      replace p32 := eq_true p32
      replace q32 := eq_true q32
      have p34 : 0 ≤ (x1_2 : Int) := of_decide_eq_true Z330
      have q34 : x1_2 < (a0.size : Int) := of_decide_eq_true Z330
      have hx34 := bt_at a0 x1_2
      replace p34 := eq_true p34
      replace q34 := eq_true q34
      go_wp2
      go_meet
      case rel => exact ⟨_,(((bt a0 x1_2) != 13)),Z238,H',⟨Z227⟩,⟨Z325⟩,⟨Z351⟩⟩
     case rest =>
      clear HC27
      try clear c1
      try clear p1
      try clear q1
      try clear hx1
      try clear c2
      try clear p2
      try clear q2
      try clear hx2
      try clear hcv2
      try clear c3
      try clear p3
      try clear q3
      try clear hx3
      try clear c6
      try clear c6b0
      try clear p6
      try clear c7
      try clear c7b0
      try clear p8
      try clear q8
      try clear hx8
      try clear c9
      try clear c10
      try clear c10b0
      try clear c11
      try clear c11b0
      try clear c12
      try clear c12b0
      try clear p13
      try clear q13
      try clear hx13
      try clear c14
      try clear c14b0
      try clear c14b1
      try clear c15
      try clear c15b0
      try clear c17
      try clear c17b0
      try clear p18
      try clear q18
      try clear hx18
      try clear c19
      try clear c19b0
      try clear c19b1
      try clear c20
      try clear hcv22
      try clear hcv23
      try clear p24
      try clear q24
      try clear hx24
      try clear c25
      try clear c28
      try clear c28b0
      try clear c29
      try clear c29b0
      try clear c30
      try clear p30
      try clear q30
      try clear hx30
      try clear c31
      try clear c31b0
      try clear c31b1
      try clear p32
      try clear q32
      try clear hx32
      try clear c33
      try clear c33b0
      try clear c33b1
      try clear p34
      try clear q34
      try clear hx34
      try clear p1
      try clear p13
      try clear p18
      try clear p2
      try clear p24
      try clear p30
      try clear p32
      try clear p34
      try clear p6
      try clear p8
      try clear q1
      try clear q13
      try clear q18
      try clear q2
      try clear q24
      try clear q30
      try clear q32
      try clear q34
      try clear q8
      obtain ⟨kq,x80_26,rfl,HA,HJ26,HO_7,HB⟩ := hcut
      cases kq with
      | zero => exact absurd HA.out (by simp [spec_l7Field.j3])
      | succ kj26 =>
       have H := HA.out
       clear HA
       simp only [spec_l7Field.j3] at H
       by_cases c35 : x80_26 = true
       rotate_left
       ·replace c35 := Bool.eq_false_iff.mpr c35
        subst c35
        rw [if_neg Bool.false_ne_true] at H
        simp only [Option.some.injEq,Prod.mk.injEq] at H
        obtain ⟨rfl,rfl,rfl⟩ := H
        have hcv43 := own_string (P := Tryd.prog) Tryd.underlying66 Tryd.underlying5 Tryd.underlying9 (Kd.own_of_R HO_7.out)
        go_wp2
        go_ret3
        exact ⟨Z218,Z351⟩
       subst c35
       rw [if_pos rfl] at H
       obtain ⟨c36,H⟩ := ifp H
       have c36b0 : decide (0 ≤ x1_2) = true := decide_eq_true c36
       clear c36
       obtain ⟨c37,H⟩ := ifp H
       have c37b0 : decide (x1_2 < (a0.size : Int)) = true := decide_eq_true c37
       clear c37
       by_cases c39 : (bt a0 x1_2) = 34
       ·rw [if_pos c39] at H
        have c39b0 : ((bt a0 x1_2) == 34) = true := beq_iff_eq.mpr c39
        have c39b1 : ((bt a0 x1_2) != 34) = false := bne_eq_false_iff_eq.mpr c39
        clear c39
        simp only [Option.some.injEq,Prod.mk.injEq] at H
        obtain ⟨rfl,rfl,rfl⟩ := H
        have p38 : 0 ≤ (x1_2 : Int) := of_decide_eq_true Z330
        have q38 : x1_2 < (a0.size : Int) := of_decide_eq_true Z330
        have hx38 := bt_at a0 x1_2
        replace p38 := eq_true p38
        replace q38 := eq_true q38
        go_wp2
        go_ret3
        exact ⟨Z218,Z351⟩
       rw [if_neg c39] at H
       have c39b0 : ((bt a0 x1_2) == 34) = false := beq_eq_false_iff_ne.mpr c39
       have c39b1 : ((bt a0 x1_2) != 34) = true := bne_iff_ne.mpr c39
       obtain ⟨c41,H⟩ := ifp H
       have LMc41 := Aside0.mk c41
       clear c41
       obtain ⟨y110,hyy⟩ : ∃ y_ : List Int,y_ = (x7_2 ++ [bt a0 x1_2]) := ⟨_,rfl⟩
       replace H : (spec_l7Field.l1 kj26 a0 (wrap64 (x1_2 + 1)) y110) = some (r1,r2,r3) := zR
       have Ny110 := Aside0.mk hyy
       clear hyy
       have H' := Aside0.mk H
       clear H
       have p38 : 0 ≤ (x1_2 : Int) := of_decide_eq_true Z330
       have q38 : x1_2 < (a0.size : Int) := of_decide_eq_true Z330
       have hx38 := bt_at a0 x1_2
       replace p38 := eq_true p38
       replace q38 := eq_true q38
       have p40 : 0 ≤ (x1_2 : Int) := of_decide_eq_true Z330
       have q40 : x1_2 < (a0.size : Int) := of_decide_eq_true Z330
       have hx40 := bt_at a0 x1_2
       replace p40 := eq_true p40
       replace q40 := eq_true q40
       go_wp2_with (first | ((with_reducible refine gate_builtin (b := .append) (xs := #[.tmp 86,.tmp 90]) rfl ?_);at_builtin;refine Kd.R_append (Kd.int .u8) (w0 := w) w.heap.size rfl (.tmp 86) (.tmp 90) 66 5 (.int .u8 0) 1 rfl Tryd.underlying66 info5 rfl Z355 Z254 u7 x7_2 (bt a0 x1_2) [.int .u8 (bt a0 x1_2)] (fun _ => True) (fun _ => False) rfl rfl ?aP (fun _ hk => hk.elim) ?aF ?aO ?aB ?aS ?aL ?_;(case aP => exact rfl);(case aB => exact Z166);(case aF => exact Z244);(case aO => exact Z185);(case aS => exact Z152);(case aL => have := LMc41.out;omega);intro v111 w42 ho hb hg hat;rw [← Ny110.out] at ho;have n_ := jA (hb) (Aside0.mk (ho));clear HB HO_7;obtain ⟨HB,HO112⟩ := n_;clear ho hb hg hat))
       go_roundg kj26
       case measure => have := HJ2.out;have := HK2.out;have := HJ26.out;omega
       case rel => exact ⟨(wrap64 (x1_2 + 1)),(y110),Z238,H',⟨by have := HJ2.out;have := HK2.out;have := HJ26.out;omega⟩,⟨by (with_reducible repeat (first | apply Kd.R_alloc | apply Kd.R_drewN | apply Kd.R_drew));exact HO112.out⟩,⟨Z351⟩⟩

end Go.Proofs.YtepnbcdbagjmbaaDoor.QFnExactReadTable
