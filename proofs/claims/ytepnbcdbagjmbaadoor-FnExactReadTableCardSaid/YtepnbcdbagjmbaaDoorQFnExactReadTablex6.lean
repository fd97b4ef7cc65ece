/- The machine side of FnExactReadTable: what each Go function that it reaches comes to. Conditions: none. -/
import Derived.Test.YtepnbcdbagjmbaaDoorQFnExactReadTablex0
import Derived.Test.YtepnbcdbagjmbaaDoorQFnExactReadTablex3
import Derived.Test.YtepnbcdbagjmbaaDoorQFnExactReadTablex4
import Derived.Test.YtepnbcdbagjmbaaDoorQFnExactReadTablex5
namespace Go.Proofs.YtepnbcdbagjmbaaDoor.QFnExactReadTable
open Go.RowKit Go.Proofs.YtepnbcdbagjmbaaDoorW.PrintWords Go.Proofs.YtepnbcdbagjmbaaDoorW.PrintLast Go.Proofs.YtepnbcdbagjmbaaDoorW.PrintMore
attribute [local go_sem] max2_int min2_int max_two min_two max_three min_three max_four min_four   -- for this text's walks alone
set_option linter.unusedVariables false
set_option linter.unusedSimpArgs false

/-! ### spec_ReadFix: function 13 -/
mutual
def spec_ReadFix.j0 : Nat → ByteArray → Bool → Option (Int × Bool)
 | 0,_,_ => none
 | k + 1,x0,x4 => if x4 = true then (if 1 ≤ (x0.size : Int) then (spec_ReadFix.j1 k (x0.extract 1 x0.size) x4) else (none)) else (spec_ReadFix.j1 k x0 x4)
def spec_ReadFix.j1 : Nat → ByteArray → Bool → Option (Int × Bool)
 | 0,_,_ => none
 | k + 1,x0,x4 => (spec_Parts.f k x0 46).bind fun t174 => (if 0 < (t174.length : Int) then ((spec_Number.f k (rdOf ByteArray.empty t174 0)).bind fun bt178 => (if bt178.2 = true then (spec_ReadFix.j2 k x4 t174 bt178.1 (decide ((t174.length : Int) > 2))) else (spec_ReadFix.j2 k x4 t174 bt178.1 true))) else (none))
def spec_ReadFix.j2 : Nat → Bool → List ByteArray → Int → Bool → Option (Int × Bool)
 | 0,_,_,_,_ => none
 | k + 1,x4,x5,x6,x41 => if x41 = true then (some (0,false)) else (if (x5.length : Int) = 2 then (if 1 < (x5.length : Int) then ((spec_l1In.f ((rdOf ByteArray.empty x5 1).size : Int) 1 3).bind fun t181 => (if t181 = true then (spec_ReadFix.l0 k x4 x5 (wrap64 (1000 * x6)) 100 0) else (some (0,false)))) else (none)) else (spec_ReadFix.j4 k x4 (wrap64 (1000 * x6))))
def spec_ReadFix.j4 : Nat → Bool → Int → Option (Int × Bool)
 | 0,_,_ => none
 | k + 1,x4,x8 => if x4 = true then ((spec_l6Value.f (wrap64 (-x8))).bind fun t185 => (if t185 = true then (some (wrap64 (-x8),true)) else (some (0,false)))) else ((spec_l6Value.f x8).bind fun t186 => (if t186 = true then (some (x8,true)) else (some (0,false))))
def spec_ReadFix.l0 : Nat → Bool → List ByteArray → Int → Int → Int → Option (Int × Bool)
 | 0,_,_,_,_,_ => none
 | k + 1,x4,x5,x8,x9,x10 => if 1 < (x5.length : Int) then (if x10 < ((rdOf ByteArray.empty x5 1).size : Int) then (if 0 ≤ x10 then ((spec_l1In.f (wrap64 ((wrap64 (bt (rdOf ByteArray.empty x5 1) x10)) - 48)) 0 9).bind fun t184 => (if t184 = true then (spec_ReadFix.l0 k x4 x5 (wrap64 (x8 + (wrap64 (x9 * (wrap64 ((wrap64 (bt (rdOf ByteArray.empty x5 1) x10)) - 48)))))) (wrap64 (Int.tdiv x9 10)) (wrap64 (x10 + 1))) else (some (0,false)))) else (none)) else (spec_ReadFix.j4 k x4 x8)) else (none)
end
def spec_ReadFix.f (k : Nat) (a0 : ByteArray) : Option (Int × Bool) := if (a0.size : Int) > 20 then (some (0,false)) else (if (a0.size : Int) > 0 then (if 0 < (a0.size : Int) then (spec_ReadFix.j0 k a0 ((bt a0 0) == 45)) else (none)) else (spec_ReadFix.j0 k a0 false))
theorem spec_ReadFix.mono_l : ∀ k,(∀ y0 y1,LeO (spec_ReadFix.j0 k y0 y1) (spec_ReadFix.j0 (k + 1) y0 y1)) ∧ (∀ y0 y1,LeO (spec_ReadFix.j1 k y0 y1) (spec_ReadFix.j1 (k + 1) y0 y1)) ∧ (∀ y0 y1 y2 y3,LeO (spec_ReadFix.j2 k y0 y1 y2 y3) (spec_ReadFix.j2 (k + 1) y0 y1 y2 y3)) ∧ (∀ y0 y1,LeO (spec_ReadFix.j4 k y0 y1) (spec_ReadFix.j4 (k + 1) y0 y1)) ∧ (∀ y0 y1 y2 y3 y4,LeO (spec_ReadFix.l0 k y0 y1 y2 y3 y4) (spec_ReadFix.l0 (k + 1) y0 y1 y2 y3 y4))
 | 0 => ⟨fun _ _ r h => by simp [spec_ReadFix.j0] at h,fun _ _ r h => by simp [spec_ReadFix.j1] at h,fun _ _ _ _ r h => by simp [spec_ReadFix.j2] at h,fun _ _ r h => by simp [spec_ReadFix.j4] at h,fun _ _ _ _ _ r h => by simp [spec_ReadFix.l0] at h⟩
 | k + 1 => by
  obtain ⟨ih0,ih1,ih2,ih3,ih4⟩ := spec_ReadFix.mono_l k
  refine ⟨?_,?_,?_,?_,?_⟩
  ·intro y0 y1
   unfold spec_ReadFix.j0
   repeat' first
   | (with_reducible exact ih0 _ _)
   | (with_reducible exact ih1 _ _)
   | (with_reducible exact ih2 _ _ _ _)
   | (with_reducible exact ih3 _ _)
   | (with_reducible exact ih4 _ _ _ _ _)
   | (with_reducible exact spec_Number.mono _ _)
   | (with_reducible exact spec_Parts.mono _ _ _)
   | (with_reducible exact LeO.refl _)
   | (with_reducible exact LeO.none _)
   | (with_reducible refine LeO.ite ?_ ?_)
   | (with_reducible refine LeO.bind ?_ (fun _ => ?_))
   | exact ih0 _ _
   | exact ih1 _ _
   | exact ih2 _ _ _ _
   | exact ih3 _ _
   | exact ih4 _ _ _ _ _
   | exact spec_Number.mono _ _
   | exact spec_Parts.mono _ _ _
   | exact LeO.none _
   | refine LeO.ite ?_ ?_
   | refine LeO.bind ?_ (fun _ => ?_)
  ·intro y0 y1
   unfold spec_ReadFix.j1
   repeat' first
   | (with_reducible exact ih0 _ _)
   | (with_reducible exact ih1 _ _)
   | (with_reducible exact ih2 _ _ _ _)
   | (with_reducible exact ih3 _ _)
   | (with_reducible exact ih4 _ _ _ _ _)
   | (with_reducible exact spec_Number.mono _ _)
   | (with_reducible exact spec_Parts.mono _ _ _)
   | (with_reducible exact LeO.refl _)
   | (with_reducible exact LeO.none _)
   | (with_reducible refine LeO.ite ?_ ?_)
   | (with_reducible refine LeO.bind ?_ (fun _ => ?_))
   | exact ih0 _ _
   | exact ih1 _ _
   | exact ih2 _ _ _ _
   | exact ih3 _ _
   | exact ih4 _ _ _ _ _
   | exact spec_Number.mono _ _
   | exact spec_Parts.mono _ _ _
   | exact LeO.none _
   | refine LeO.ite ?_ ?_
   | refine LeO.bind ?_ (fun _ => ?_)
  ·intro y0 y1 y2 y3
   unfold spec_ReadFix.j2
   repeat' first
   | (with_reducible exact ih0 _ _)
   | (with_reducible exact ih1 _ _)
   | (with_reducible exact ih2 _ _ _ _)
   | (with_reducible exact ih3 _ _)
   | (with_reducible exact ih4 _ _ _ _ _)
   | (with_reducible exact spec_Number.mono _ _)
   | (with_reducible exact spec_Parts.mono _ _ _)
   | (with_reducible exact LeO.refl _)
   | (with_reducible exact LeO.none _)
   | (with_reducible refine LeO.ite ?_ ?_)
   | (with_reducible refine LeO.bind ?_ (fun _ => ?_))
   | exact ih0 _ _
   | exact ih1 _ _
   | exact ih2 _ _ _ _
   | exact ih3 _ _
   | exact ih4 _ _ _ _ _
   | exact spec_Number.mono _ _
   | exact spec_Parts.mono _ _ _
   | exact LeO.none _
   | refine LeO.ite ?_ ?_
   | refine LeO.bind ?_ (fun _ => ?_)
  ·intro y0 y1
   unfold spec_ReadFix.j4
   repeat' first
   | (with_reducible exact ih0 _ _)
   | (with_reducible exact ih1 _ _)
   | (with_reducible exact ih2 _ _ _ _)
   | (with_reducible exact ih3 _ _)
   | (with_reducible exact ih4 _ _ _ _ _)
   | (with_reducible exact spec_Number.mono _ _)
   | (with_reducible exact spec_Parts.mono _ _ _)
   | (with_reducible exact LeO.refl _)
   | (with_reducible exact LeO.none _)
   | (with_reducible refine LeO.ite ?_ ?_)
   | (with_reducible refine LeO.bind ?_ (fun _ => ?_))
   | exact ih0 _ _
   | exact ih1 _ _
   | exact ih2 _ _ _ _
   | exact ih3 _ _
   | exact ih4 _ _ _ _ _
   | exact spec_Number.mono _ _
   | exact spec_Parts.mono _ _ _
   | exact LeO.none _
   | refine LeO.ite ?_ ?_
   | refine LeO.bind ?_ (fun _ => ?_)
  ·intro y0 y1 y2 y3 y4
   unfold spec_ReadFix.l0
   repeat' first
   | (with_reducible exact ih0 _ _)
   | (with_reducible exact ih1 _ _)
   | (with_reducible exact ih2 _ _ _ _)
   | (with_reducible exact ih3 _ _)
   | (with_reducible exact ih4 _ _ _ _ _)
   | (with_reducible exact spec_Number.mono _ _)
   | (with_reducible exact spec_Parts.mono _ _ _)
   | (with_reducible exact LeO.refl _)
   | (with_reducible exact LeO.none _)
   | (with_reducible refine LeO.ite ?_ ?_)
   | (with_reducible refine LeO.bind ?_ (fun _ => ?_))
   | exact ih0 _ _
   | exact ih1 _ _
   | exact ih2 _ _ _ _
   | exact ih3 _ _
   | exact ih4 _ _ _ _ _
   | exact spec_Number.mono _ _
   | exact spec_Parts.mono _ _ _
   | exact LeO.none _
   | refine LeO.ite ?_ ?_
   | refine LeO.bind ?_ (fun _ => ?_)
theorem spec_ReadFix.mono : ∀ a0 k,LeO (spec_ReadFix.f k a0) (spec_ReadFix.f (k + 1) a0) := by
 intro a0 k
 obtain ⟨ih0,ih1,ih2,ih3,ih4⟩ := spec_ReadFix.mono_l k
 unfold spec_ReadFix.f
 repeat' first
   | (with_reducible exact ih0 _ _)
   | (with_reducible exact ih1 _ _)
   | (with_reducible exact ih2 _ _ _ _)
   | (with_reducible exact ih3 _ _)
   | (with_reducible exact ih4 _ _ _ _ _)
   | (with_reducible exact spec_Number.mono _ _)
   | (with_reducible exact spec_Parts.mono _ _ _)
   | (with_reducible exact LeO.refl _)
   | (with_reducible exact LeO.none _)
   | (with_reducible refine LeO.ite ?_ ?_)
   | (with_reducible refine LeO.bind ?_ (fun _ => ?_))
   | exact ih0 _ _
   | exact ih1 _ _
   | exact ih2 _ _ _ _
   | exact ih3 _ _
   | exact ih4 _ _ _ _ _
   | exact spec_Number.mono _ _
   | exact spec_Parts.mono _ _ _
   | exact LeO.none _
   | refine LeO.ite ?_ ?_
   | refine LeO.bind ?_ (fun _ => ?_)
set_option maxHeartbeats 8000000 in
set_option maxRecDepth 100000 in
theorem spec_ReadFix.calls (k : Nat) (a0 : ByteArray) (r1 : Int) (r2 : Bool) (w : World) (h : spec_ReadFix.f k a0 = some (r1,r2)) :
  Calls Tryd.prog 13 #[.string a0] w fun e w' => e = .returned (.tuple #[.int .i64 r1,.bool r2]) ∧ Below w.heap.size w w' := by
 have HB := Aside0.mk (Below.refl w.heap.size w)
 have H := h
 clear h
 unfold spec_ReadFix.f at H
 by_cases c2 : (a0.size : Int) > 20
 ·rw [if_pos c2] at H
  have c2b0 : decide (20 < (a0.size : Int)) = true := decide_eq_true c2
  have c2b1 : decide (20 < a0.size) = true := decide_eq_true Z254
  clear c2
  simp only [Option.some.injEq,Prod.mk.injEq] at H
  obtain ⟨rfl,rfl⟩ := H
  go_enter Tryd.func13,Tryd.ntmps13
  go_wp2
  go_ret2
  exact ⟨Z218,Z351⟩
 rw [if_neg c2] at H
 have c2b0 : decide (20 < (a0.size : Int)) = false := decide_eq_false c2
 have c2b1 : decide (20 < a0.size) = false := decide_eq_false Z254
 clear c2
 have HC3 := Aside0.mk H
 clear H
 go_enter Tryd.func13,Tryd.ntmps13
 go_upto_region 3 with (fail)
 go_cut [4] (fun v4 wc => ∃ (kq : Nat) (x4_2 : Bool),v4 = .bool x4_2 ∧ Aside0 (spec_ReadFix.j0 kq a0 x4_2 = some (r1,r2)) ∧ Aside0 (kq ≤ k) ∧ Aside0 (Below w.heap.size w wc))
 case first =>
  have H := HC3.out
  clear HC3
  by_cases c4 : (a0.size : Int) > 0
  rotate_left
  ·rw [if_neg c4] at H
   have c4b0 : decide (0 < (a0.size : Int)) = false := decide_eq_false c4
   have c4b1 : decide (0 < a0.size) = false := decide_eq_false Z254
   clear c4
   (first | rw [c4b0] | (simp only [i64_w,i32_w];rw [c4b0]) | skip)
   have H' := Aside0.mk H
   clear H
   go_wp2
   go_meet
   case rel => exact ⟨_,(false),Z238,H',⟨Z241⟩,⟨Z351⟩⟩
  rw [if_pos c4] at H
  have c4b0 : decide (0 < (a0.size : Int)) = true := decide_eq_true c4
  have c4b1 : decide (0 < a0.size) = true := decide_eq_true Z254
  clear c4
  (first | rw [c4b0] | (simp only [i64_w,i32_w];rw [c4b0]) | skip)
  obtain ⟨c5,H⟩ := ifp H
  have c5b0 : decide (0 < (a0.size : Int)) = true := decide_eq_true c5
  have c5b1 : decide (0 < a0.size) = true := decide_eq_true Z254
  clear c5
  have H' := Aside0.mk H
  clear H
  have p6 : 0 ≤ (0 : Int) := Z254
  have q6 : 0 < a0.size := (by have : (0 : Int) < (a0.size : Int) := of_decide_eq_true Z330;omega)
  have hx6 : ∀ h : 0 < a0.size,((a0[0]'h).toNat : Int) = bt a0 0 := bt_at a0 0
  clear p6
  have qi6 : (0 < (a0.size : Int)) = True := eq_true (of_decide_eq_true Z330)
  replace q6 := eq_true q6
  go_wp2
  go_meet
  case rel => exact ⟨_,(((bt a0 0) == 45)),Z238,H',⟨Z241⟩,⟨Z351⟩⟩
 case rest =>
  clear HC3
  try clear c1
  try clear c2
  try clear c2b0
  try clear c2b1
  try clear p2
  try clear c4
  try clear c4b0
  try clear c4b1
  try clear c5
  try clear c5b0
  try clear c5b1
  try clear p6
  try clear q6
  try clear hx6
  try clear qi6
  try clear p6
  try clear q6
  obtain ⟨kq,x4_2,rfl,HA,HJ2,HB⟩ := hcut
  cases kq with
  | zero => exact absurd HA.out (by simp [spec_ReadFix.j0])
  | succ kj2 =>
   have H := HA.out
   clear HA
   simp only [spec_ReadFix.j0] at H
   have HC7 := Aside0.mk H
   clear H
   go_upto_if 23 with (fail)
   go_cut [0] (fun v0 wc => ∃ (kq : Nat) (x0_6 : ByteArray),v0 = .string x0_6 ∧ Aside0 (spec_ReadFix.j1 kq x0_6 x4_2 = some (r1,r2)) ∧ Aside0 (kq ≤ kj2) ∧ Aside0 (Below w.heap.size w wc))
   case first =>
    have H := HC7.out
    clear HC7
    by_cases c8 : x4_2 = true
    rotate_left
    ·replace c8 := Bool.eq_false_iff.mpr c8
     subst c8
     rw [if_neg Bool.false_ne_true] at H
     have H' := Aside0.mk H
     clear H
     go_wp2
     go_meet
     case rel => exact ⟨_,(a0),Z238,H',⟨Z236⟩,⟨Z351⟩⟩
    subst c8
    rw [if_pos rfl] at H
    obtain ⟨c9,H⟩ := ifp H
    have c9b0 := eq_true c9
    have c9b1 : decide (1 ≤ (a0.size : Int)) = true := decide_eq_true c9
    clear c9
    have H' := Aside0.mk H
    clear H
    go_wp2
    go_meet
    case rel => exact ⟨_,(a0.extract 1 a0.size),Z238,H',⟨Z236⟩,⟨Z351⟩⟩
   case rest =>
    clear HC7
    try clear c1
    try clear c2
    try clear c2b0
    try clear c2b1
    try clear p2
    try clear c4
    try clear c4b0
    try clear c4b1
    try clear c5
    try clear c5b0
    try clear c5b1
    try clear p6
    try clear q6
    try clear hx6
    try clear qi6
    try clear c8
    try clear c9
    try clear c9b0
    try clear c9b1
    try clear p2
    try clear p6
    try clear q6
    obtain ⟨kq,x0_6,rfl,HA,HJ6,HB⟩ := hcut
    cases kq with
    | zero => exact absurd HA.out (by simp [spec_ReadFix.j1])
    | succ kj6 =>
     have H := HA.out
     clear HA
     simp only [spec_ReadFix.j1] at H
     obtain ⟨t174,A100,H⟩ := Option.bind_eq_some_iff.mp H
     have A10 := Aside0.mk A100
     clear A100
     obtain ⟨c11,H⟩ := ifp H
     have c11b0 : decide (0 < (t174.length : Int)) = true := decide_eq_true c11
     have c11b1 : decide (0 < t174.length) = true := decide_eq_true Z254
     clear c11
     obtain ⟨⟨t178,t179⟩,A120,H⟩ := Option.bind_eq_some_iff.mp H
     try dsimp only at H
     have A12 := Aside0.mk A120
     clear A120
     have HC13 := Aside0.mk H
     clear H
     go_upto_region 8 with (first | ((with_reducible refine gate_callee (f := 33) rfl ?_);refine goesL_ (some 27) rfl rfl Tryd.func33 Z253 rfl #[.string x0_6,.int .u8 46] rfl Z173 ?_;(with_reducible refine (spec_Parts.calls kj6 x0_6 46 t174 _ A10.out).mono ?_);rintro e w14 ⟨v175,rfl,ho0,hb⟩;refine ⟨_,rfl,?_⟩;have n_ := jA (Kd.R_lower ho0 (below_size Z351)) (Aside0.mk (below_step Z351 hb));clear HB;obtain ⟨HO176,HB⟩ := n_;(try clear hb);(try clear hb2);(try clear hk);(try clear hi);(try clear ho0);obtain ⟨Ao15,co15,eo15⟩ := Kd.R_slice HO176.out;subst eo15;have p177 : 0 ≤ (0 : Int) := Z254;have q177 : 0 < (t174.length : Int) := of_decide_eq_true Z330;obtain ⟨ad177,e177,hx177_0⟩ := Kd.at_string (Kd.R_reads' HO176.out).2.2 0 p177 q177;cases e177;have qi177 : (0 < t174.length) = True := eq_true Z254;(try rw [show ((0 : Int)).toNat = 0 from rfl] at hx177_0);(try rw [Addr.add_zero'] at hx177_0);replace p177 := eq_true p177;replace q177 := eq_true q177) | ((with_reducible refine gate_callee (f := 34) rfl ?_);refine goesL_ (some 32) rfl rfl Tryd.func34 Z253 rfl #[.string (rdOf ByteArray.empty t174 0)] rfl Z173 ?_;(with_reducible refine (spec_Number.calls kj6 (rdOf ByteArray.empty t174 0) t178 t179 _ A12.out).mono ?_);rintro e w16 ⟨rfl,hb⟩;refine ⟨_,rfl,?_⟩;have n_ := jA (Kd.R_below Z206 hb) (Aside0.mk (below_step Z351 hb));clear HO176 HB;obtain ⟨HO176,HB⟩ := n_;(try clear hb);(try clear hb2);(try clear hk);(try clear hi)))
     (try simp only [Act.put,List.setIfInBounds_toArray,List.set_cons_zero,List.set_cons_succ])
     go_cut [41] (fun v41 wc => ∃ (kq : Nat) (x41_12 : Bool),v41 = .bool x41_12 ∧ Aside0 (spec_ReadFix.j2 kq x4_2 t174 t178 x41_12 = some (r1,r2)) ∧ Aside0 (kq ≤ kj6) ∧ Aside0 (Kd.R Kd.string 9 wc w.heap.size (fun _ => True) (.slice (some ad177) t174.length co15) t174) ∧ Aside0 (Below w.heap.size w wc))
     case first =>
      have H := HC13.out
      clear HC13
      by_cases c17 : t179 = true
      ·subst c17
       rw [if_pos rfl] at H
       have H' := Aside0.mk H
       clear H
       go_wp2
       go_meet
       case rel => exact ⟨_,(decide ((t174.length : Int) > 2)),Z238,H',⟨Z228⟩,⟨Z206⟩,⟨Z351⟩⟩
      replace c17 := Bool.eq_false_iff.mpr c17
      subst c17
      rw [if_neg Bool.false_ne_true] at H
      have H' := Aside0.mk H
      clear H
      go_wp2
      go_meet
      case rel => exact ⟨_,(true),Z238,H',⟨Z228⟩,⟨Z206⟩,⟨Z351⟩⟩
     case rest =>
      clear HC13
      try clear c1
      try clear p1
      try clear q1
      try clear hx1
      try clear qi1
      try clear c2
      try clear c2b0
      try clear c2b1
      try clear p2
      try clear c3
      try clear c4
      try clear c4b0
      try clear c4b1
      try clear c5
      try clear c5b0
      try clear c5b1
      try clear p6
      try clear q6
      try clear hx6
      try clear qi6
      try clear c8
      try clear c9
      try clear c9b0
      try clear c9b1
      try clear c11
      try clear c11b0
      try clear c11b1
      try clear c13
      try clear c17
      try clear p17
      try clear q17
      try clear hx17
      try clear qi17
      try clear hx177_0
      try clear p177
      try clear p2
      try clear p6
      try clear q177
      try clear q6
      obtain ⟨kq,x41_12,rfl,HA,HJ12,HO_5,HB⟩ := hcut
      cases kq with
      | zero => exact absurd HA.out (by simp [spec_ReadFix.j2])
      | succ kj12 =>
       have H := HA.out
       clear HA
       simp only [spec_ReadFix.j2] at H
       by_cases c18 : x41_12 = true
       ·subst c18
        rw [if_pos rfl] at H
        simp only [Option.some.injEq,Prod.mk.injEq] at H
        obtain ⟨rfl,rfl⟩ := H
        go_wp2
        go_ret2
        exact ⟨Z218,Z351⟩
       replace c18 := Bool.eq_false_iff.mpr c18
       subst c18
       rw [if_neg Bool.false_ne_true] at H
       have HC19 := Aside0.mk H
       clear H
       go_upto_if 46 with (fail)
       go_cut [8] (fun v8 wc => ∃ (kq : Nat) (x8_18 : Int),v8 = .int .i64 x8_18 ∧ Aside0 (spec_ReadFix.j4 kq x4_2 x8_18 = some (r1,r2)) ∧ Aside0 (kq ≤ kj12) ∧ Aside0 (Below w.heap.size w wc))
       case first =>
        have H := HC19.out
        clear HC19
        by_cases c20 : (t174.length : Int) = 2
        rotate_left
        ·rw [if_neg c20] at H
         have c20b0 : ((t174.length : Int) == 2) = false := beq_eq_false_iff_ne.mpr c20
         have c20b1 : ((t174.length : Int) != 2) = true := bne_iff_ne.mpr c20
         (first | rw [c20b0] | (simp only [i64_w,i32_w];rw [c20b0]) | skip)
         have H' := Aside0.mk H
         clear H
         go_wp2
         go_meet
         case rel => exact ⟨_,(wrap64 (1000 * t178)),Z238,H',⟨by have := HJ2.out;have := HJ6.out;have := HJ12.out;first | omega | exact Nat.le_refl _⟩,⟨Z351⟩⟩
        rw [if_pos c20] at H
        have c20b0 : ((t174.length : Int) == 2) = true := beq_iff_eq.mpr c20
        have c20b1 : ((t174.length : Int) != 2) = false := bne_eq_false_iff_eq.mpr c20
        clear c20
        (first | rw [c20b0] | (simp only [i64_w,i32_w];rw [c20b0]) | skip)
        obtain ⟨c21,H⟩ := ifp H
        have c21b0 : decide (1 < (t174.length : Int)) = true := decide_eq_true c21
        have c21b1 : decide (1 < t174.length) = true := decide_eq_true Z254
        clear c21
        obtain ⟨t181,A220,H⟩ := Option.bind_eq_some_iff.mp H
        have A22 := Aside0.mk A220
        clear A220
        by_cases c23 : t181 = true
        rotate_left
        ·replace c23 := Bool.eq_false_iff.mpr c23
         subst c23
         rw [if_neg Bool.false_ne_true] at H
         simp only [Option.some.injEq,Prod.mk.injEq] at H
         obtain ⟨rfl,rfl⟩ := H
         have p180 : 0 ≤ (1 : Int) := Z254
         have q180 : 1 < (t174.length : Int) := of_decide_eq_true Z330
         obtain ⟨ad180,e180,hx180_0⟩ := Kd.at_string (Kd.R_reads' HO_5.out).2.2 1 p180 q180
         obtain rfl : ad177 = ad180 := (by injection e180)
         (try simp only [show (1 : Int).toNat = 1 from rfl,Nat.reduceMul,Nat.reduceEqDiff,Go.Addr.add,↓reduceIte] at hx180_0)
         have qi180 : (1 < t174.length) = True := eq_true Z254
         (try rw [show ((1 : Int)).toNat = 1 from rfl] at hx180_0)
         replace p180 := eq_true p180
         replace q180 := eq_true q180
         go_wp2_with (first | ((with_reducible refine gate_callee (f := 12) rfl ?_);refine goesL_ (some 51) rfl rfl Tryd.func12 Z253 rfl #[.int .i64 ((rdOf ByteArray.empty t174 1).size : Int),.int .i64 1,.int .i64 3] rfl Z173 ?_;(with_reducible refine (spec_l1In.calls ((rdOf ByteArray.empty t174 1).size : Int) 1 3 false _ A22.out).mono ?_);rintro e w' ⟨rfl,⟨nd,rfl⟩⟩;refine ⟨_,rfl,?_⟩))
         go_ret2
         exact ⟨Z218,Z351⟩
        subst c23
        rw [if_pos rfl] at H
        have H' := Aside0.mk H
        clear H
        have p180 : 0 ≤ (1 : Int) := Z254
        have q180 : 1 < (t174.length : Int) := of_decide_eq_true Z330
        obtain ⟨ad180,e180,hx180_0⟩ := Kd.at_string (Kd.R_reads' HO_5.out).2.2 1 p180 q180
        obtain rfl : ad177 = ad180 := (by injection e180)
        (try simp only [show (1 : Int).toNat = 1 from rfl,Nat.reduceMul,Nat.reduceEqDiff,Go.Addr.add,↓reduceIte] at hx180_0)
        have qi180 : (1 < t174.length) = True := eq_true Z254
        (try rw [show ((1 : Int)).toNat = 1 from rfl] at hx180_0)
        replace p180 := eq_true p180
        replace q180 := eq_true q180
        go_wp2_with (first | ((with_reducible refine gate_callee (f := 12) rfl ?_);refine goesL_ (some 51) rfl rfl Tryd.func12 Z253 rfl #[.int .i64 ((rdOf ByteArray.empty t174 1).size : Int),.int .i64 1,.int .i64 3] rfl Z173 ?_;(with_reducible refine (spec_l1In.calls ((rdOf ByteArray.empty t174 1).size : Int) 1 3 true _ A22.out).mono ?_);rintro e w' ⟨rfl,⟨nd,rfl⟩⟩;refine ⟨_,rfl,?_⟩))
        go_loopg [8,9,10] kj12 (fun kq v8 v9 v10 w' => ∃ (x8_4 : Int) (x9_4 : Int) (x10_4 : Int),v8 = .int .i64 x8_4 ∧ v9 = .int .i64 x9_4 ∧ v10 = .int .i64 x10_4 ∧ Aside0 (spec_ReadFix.l0 kq x4_2 t174 x8_4 x9_4 x10_4 = some (r1,r2)) ∧ Aside0 (kq ≤ kj12) ∧ Aside0 (Kd.R Kd.string 9 w' w.heap.size (fun _ => True) (.slice (some ad177) t174.length co15) t174) ∧ Aside0 (Below w.heap.size w w'))
        case atStart => exact ⟨(wrap64 (1000 * t178)),(100),(0),Z238,Z238,Z238,H',⟨Nat.le_refl _⟩,⟨Z326⟩,⟨Z351⟩⟩
        case round =>
         clear H'
         try clear c1
         try clear p1
         try clear q1
         try clear hx1
         try clear qi1
         try clear c2
         try clear c2b0
         try clear c2b1
         try clear p2
         try clear c3
         try clear c4
         try clear c4b0
         try clear c4b1
         try clear c5
         try clear c5b0
         try clear c5b1
         try clear p6
         try clear q6
         try clear hx6
         try clear qi6
         try clear c8
         try clear c9
         try clear c9b0
         try clear c9b1
         try clear c11
         try clear c11b0
         try clear c11b1
         try clear c12
         try clear c13
         try clear c17
         try clear p17
         try clear q17
         try clear hx17
         try clear qi17
         try clear c18
         try clear p18
         try clear q18
         try clear hx18
         try clear qi18
         try clear c20
         try clear c20b0
         try clear c20b1
         try clear c21
         try clear c21b0
         try clear c21b1
         try clear c23
         try clear hx177_0
         try clear hx180_0
         try clear p1
         try clear p17
         try clear p177
         try clear p180
         try clear p2
         try clear p6
         try clear q1
         try clear q17
         try clear q177
         try clear q180
         try clear q6
         obtain ⟨x8_4,x9_4,x10_4,rfl,rfl,rfl,HA,HK4,HO_5,HB⟩ := hrel
         cases gk with
         | zero => exact absurd HA.out (by simp [spec_ReadFix.l0])
         | succ k4 =>
          have H := HA.out
          clear HA
          simp only [spec_ReadFix.l0] at H
          obtain ⟨c24,H⟩ := ifp H
          have c24b0 : decide (1 < (t174.length : Int)) = true := decide_eq_true c24
          have c24b1 : decide (1 < t174.length) = true := decide_eq_true Z254
          clear c24
          by_cases c25 : x10_4 < ((rdOf ByteArray.empty t174 1).size : Int)
          rotate_left
          ·rw [if_neg c25] at H
           have c25b0 : decide (x10_4 < ((rdOf ByteArray.empty t174 1).size : Int)) = false := decide_eq_false c25
           clear c25
           have H' := Aside0.mk H
           clear H
           have p182 : 0 ≤ (1 : Int) := Z254
           have q182 : 1 < (t174.length : Int) := of_decide_eq_true Z330
           obtain ⟨ad182,e182,hx182_0⟩ := Kd.at_string (Kd.R_reads' HO_5.out).2.2 1 p182 q182
           obtain rfl : ad177 = ad182 := (by injection e182)
           (try simp only [show (1 : Int).toNat = 1 from rfl,Nat.reduceMul,Nat.reduceEqDiff,Go.Addr.add,↓reduceIte] at hx182_0)
           have qi182 : (1 < t174.length) = True := eq_true Z254
           (try rw [show ((1 : Int)).toNat = 1 from rfl] at hx182_0)
           replace p182 := eq_true p182
           replace q182 := eq_true q182
           go_wp2
           go_meet
           case rel => exact ⟨_,(x8_4),Z238,H',⟨by have := HJ2.out;have := HJ6.out;have := HJ12.out;have := HK4.out;first | omega | exact Nat.le_refl _⟩,⟨Z351⟩⟩
          rw [if_pos c25] at H
          have c25b0 : decide (x10_4 < ((rdOf ByteArray.empty t174 1).size : Int)) = true := decide_eq_true c25
          clear c25
          obtain ⟨c26,H⟩ := ifp H
          have c26b0 : decide (0 ≤ x10_4) = true := decide_eq_true c26
          clear c26
          obtain ⟨t184,A280,H⟩ := Option.bind_eq_some_iff.mp H
          have A28 := Aside0.mk A280
          clear A280
          by_cases c29 : t184 = true
          rotate_left
          ·replace c29 := Bool.eq_false_iff.mpr c29
           subst c29
           rw [if_neg Bool.false_ne_true] at H
           simp only [Option.some.injEq,Prod.mk.injEq] at H
           obtain ⟨rfl,rfl⟩ := H
           have p182 : 0 ≤ (1 : Int) := Z254
           have q182 : 1 < (t174.length : Int) := of_decide_eq_true Z330
           obtain ⟨ad182,e182,hx182_0⟩ := Kd.at_string (Kd.R_reads' HO_5.out).2.2 1 p182 q182
           obtain rfl : ad177 = ad182 := (by injection e182)
           (try simp only [show (1 : Int).toNat = 1 from rfl,Nat.reduceMul,Nat.reduceEqDiff,Go.Addr.add,↓reduceIte] at hx182_0)
           have qi182 : (1 < t174.length) = True := eq_true Z254
           (try rw [show ((1 : Int)).toNat = 1 from rfl] at hx182_0)
           replace p182 := eq_true p182
           replace q182 := eq_true q182
           have p183 : 0 ≤ (1 : Int) := Z254
           have q183 : 1 < (t174.length : Int) := of_decide_eq_true Z330
           obtain ⟨ad183,e183,hx183_0⟩ := Kd.at_string (Kd.R_reads' HO_5.out).2.2 1 p183 q183
           obtain rfl : ad177 = ad183 := (by injection e183)
           (try simp only [show (1 : Int).toNat = 1 from rfl,Nat.reduceMul,Nat.reduceEqDiff,Go.Addr.add,↓reduceIte] at hx183_0)
           have qi183 : (1 < t174.length) = True := eq_true Z254
           (try rw [show ((1 : Int)).toNat = 1 from rfl] at hx183_0)
           replace p183 := eq_true p183
           replace q183 := eq_true q183
           have p27 : 0 ≤ (x10_4 : Int) := of_decide_eq_true Z330
           have q27 : x10_4 < ((rdOf ByteArray.empty t174 1).size : Int) := of_decide_eq_true Z330
           have hx27 := bt_at (rdOf ByteArray.empty t174 1) x10_4
           replace p27 := eq_true p27
           replace q27 := eq_true q27
           go_wp2_with (first | ((with_reducible refine gate_callee (f := 12) rfl ?_);refine goesL_ (some 69) rfl rfl Tryd.func12 Z253 rfl #[.int .i64 (wrap64 ((wrap64 (bt (rdOf ByteArray.empty t174 1) x10_4)) - 48)),.int .i64 0,.int .i64 9] rfl Z173 ?_;(with_reducible refine (spec_l1In.calls (wrap64 ((wrap64 (bt (rdOf ByteArray.empty t174 1) x10_4)) - 48)) 0 9 false _ A28.out).mono ?_);rintro e w' ⟨rfl,⟨nd,rfl⟩⟩;refine ⟨_,rfl,?_⟩))
           go_ret2
           exact ⟨Z218,Z351⟩
          subst c29
          rw [if_pos rfl] at H
          have H' := Aside0.mk H
          clear H
          have p182 : 0 ≤ (1 : Int) := Z254
          have q182 : 1 < (t174.length : Int) := of_decide_eq_true Z330
          obtain ⟨ad182,e182,hx182_0⟩ := Kd.at_string (Kd.R_reads' HO_5.out).2.2 1 p182 q182
          obtain rfl : ad177 = ad182 := (by injection e182)
          (try simp only [show (1 : Int).toNat = 1 from rfl,Nat.reduceMul,Nat.reduceEqDiff,Go.Addr.add,↓reduceIte] at hx182_0)
          have qi182 : (1 < t174.length) = True := eq_true Z254
          (try rw [show ((1 : Int)).toNat = 1 from rfl] at hx182_0)
          replace p182 := eq_true p182
          replace q182 := eq_true q182
          have p183 : 0 ≤ (1 : Int) := Z254
          have q183 : 1 < (t174.length : Int) := of_decide_eq_true Z330
          obtain ⟨ad183,e183,hx183_0⟩ := Kd.at_string (Kd.R_reads' HO_5.out).2.2 1 p183 q183
          obtain rfl : ad177 = ad183 := (by injection e183)
          (try simp only [show (1 : Int).toNat = 1 from rfl,Nat.reduceMul,Nat.reduceEqDiff,Go.Addr.add,↓reduceIte] at hx183_0)
          have qi183 : (1 < t174.length) = True := eq_true Z254
          (try rw [show ((1 : Int)).toNat = 1 from rfl] at hx183_0)
          replace p183 := eq_true p183
          replace q183 := eq_true q183
          have p27 : 0 ≤ (x10_4 : Int) := of_decide_eq_true Z330
          have q27 : x10_4 < ((rdOf ByteArray.empty t174 1).size : Int) := of_decide_eq_true Z330
          have hx27 := bt_at (rdOf ByteArray.empty t174 1) x10_4
          replace p27 := eq_true p27
          replace q27 := eq_true q27
          go_wp2_with (first | ((with_reducible refine gate_callee (f := 12) rfl ?_);refine goesL_ (some 69) rfl rfl Tryd.func12 Z253 rfl #[.int .i64 (wrap64 ((wrap64 (bt (rdOf ByteArray.empty t174 1) x10_4)) - 48)),.int .i64 0,.int .i64 9] rfl Z173 ?_;(with_reducible refine (spec_l1In.calls (wrap64 ((wrap64 (bt (rdOf ByteArray.empty t174 1) x10_4)) - 48)) 0 9 true _ A28.out).mono ?_);rintro e w' ⟨rfl,⟨nd,rfl⟩⟩;refine ⟨_,rfl,?_⟩))
          go_roundg k4
          case measure => have := HJ2.out;have := HJ6.out;have := HJ12.out;have := HK4.out;omega
          case rel => exact ⟨(wrap64 (x8_4 + (wrap64 (x9_4 * (wrap64 ((wrap64 (bt (rdOf ByteArray.empty t174 1) x10_4)) - 48)))))),(wrap64 (Int.tdiv x9_4 10)),(wrap64 (x10_4 + 1)),Z238,Z238,Z238,H',⟨by have := HJ2.out;have := HJ6.out;have := HJ12.out;have := HK4.out;omega⟩,⟨Z326⟩,⟨Z351⟩⟩
       case rest =>
        clear HC19
        try clear c1
        try clear p1
        try clear q1
        try clear hx1
        try clear qi1
        try clear c2
        try clear c2b0
        try clear c2b1
        try clear p2
        try clear q2
        try clear hx2
        try clear c3
        try clear c4
        try clear c4b0
        try clear c4b1
        try clear c5
        try clear c5b0
        try clear c5b1
        try clear p6
        try clear q6
        try clear hx6
        try clear qi6
        try clear c8
        try clear c9
        try clear c9b0
        try clear c9b1
        try clear c11
        try clear c11b0
        try clear c11b1
        try clear c12
        try clear c13
        try clear c17
        try clear p17
        try clear q17
        try clear hx17
        try clear qi17
        try clear c18
        try clear p18
        try clear q18
        try clear hx18
        try clear qi18
        try clear c20
        try clear c20b0
        try clear c20b1
        try clear c21
        try clear c21b0
        try clear c21b1
        try clear c23
        try clear c24
        try clear c24b0
        try clear c24b1
        try clear c25
        try clear c25b0
        try clear c26
        try clear c26b0
        try clear p27
        try clear q27
        try clear hx27
        try clear c29
        try clear hx177_0
        try clear hx180_0
        try clear hx182_0
        try clear hx183_0
        try clear p1
        try clear p17
        try clear p177
        try clear p18
        try clear p180
        try clear p182
        try clear p183
        try clear p2
        try clear p27
        try clear p6
        try clear q1
        try clear q17
        try clear q177
        try clear q18
        try clear q180
        try clear q182
        try clear q183
        try clear q27
        try clear q6
        obtain ⟨kq,x8_18,rfl,HA,HJ18,HB⟩ := hcut
        cases kq with
        | zero => exact absurd HA.out (by simp [spec_ReadFix.j4])
        | succ kj18 =>
         have H := HA.out
         clear HA
         simp only [spec_ReadFix.j4] at H
         by_cases c30 : x4_2 = true
         ·subst c30
          rw [if_pos rfl] at H
          obtain ⟨t185,A310,H⟩ := Option.bind_eq_some_iff.mp H
          have A31 := Aside0.mk A310
          clear A310
          by_cases c32 : t185 = true
          ·subst c32
           rw [if_pos rfl] at H
           simp only [Option.some.injEq,Prod.mk.injEq] at H
           obtain ⟨rfl,rfl⟩ := H
           go_wp2_with (first | ((with_reducible refine gate_callee (f := 35) rfl ?_);refine goesL_ (some 82) rfl rfl Tryd.func35 Z253 rfl #[.int .i64 (wrap64 (-x8_18))] rfl Z173 ?_;(with_reducible refine (spec_l6Value.calls (wrap64 (-x8_18)) true _ A31.out).mono ?_);rintro e w' ⟨rfl,⟨nd,rfl⟩⟩;refine ⟨_,rfl,?_⟩))
           go_ret2
           exact ⟨Z218,Z351⟩
          replace c32 := Bool.eq_false_iff.mpr c32
          subst c32
          rw [if_neg Bool.false_ne_true] at H
          simp only [Option.some.injEq,Prod.mk.injEq] at H
          obtain ⟨rfl,rfl⟩ := H
          go_wp2_with (first | ((with_reducible refine gate_callee (f := 35) rfl ?_);refine goesL_ (some 82) rfl rfl Tryd.func35 Z253 rfl #[.int .i64 (wrap64 (-x8_18))] rfl Z173 ?_;(with_reducible refine (spec_l6Value.calls (wrap64 (-x8_18)) false _ A31.out).mono ?_);rintro e w' ⟨rfl,⟨nd,rfl⟩⟩;refine ⟨_,rfl,?_⟩))
          go_ret2
          exact ⟨Z218,Z351⟩
         replace c30 := Bool.eq_false_iff.mpr c30
         subst c30
         rw [if_neg Bool.false_ne_true] at H
         obtain ⟨t186,A330,H⟩ := Option.bind_eq_some_iff.mp H
         have A33 := Aside0.mk A330
         clear A330
         by_cases c34 : t186 = true
         ·subst c34
          rw [if_pos rfl] at H
          simp only [Option.some.injEq,Prod.mk.injEq] at H
          obtain ⟨rfl,rfl⟩ := H
          go_wp2_with (first | ((with_reducible refine gate_callee (f := 35) rfl ?_);refine goesL_ (some 82) rfl rfl Tryd.func35 Z253 rfl #[.int .i64 x8_18] rfl Z173 ?_;(with_reducible refine (spec_l6Value.calls x8_18 true _ A33.out).mono ?_);rintro e w' ⟨rfl,⟨nd,rfl⟩⟩;refine ⟨_,rfl,?_⟩))
          go_ret2
          exact ⟨Z218,Z351⟩
         replace c34 := Bool.eq_false_iff.mpr c34
         subst c34
         rw [if_neg Bool.false_ne_true] at H
         simp only [Option.some.injEq,Prod.mk.injEq] at H
         obtain ⟨rfl,rfl⟩ := H
         go_wp2_with (first | ((with_reducible refine gate_callee (f := 35) rfl ?_);refine goesL_ (some 82) rfl rfl Tryd.func35 Z253 rfl #[.int .i64 x8_18] rfl Z173 ?_;(with_reducible refine (spec_l6Value.calls x8_18 false _ A33.out).mono ?_);rintro e w' ⟨rfl,⟨nd,rfl⟩⟩;refine ⟨_,rfl,?_⟩))
         go_ret2
         exact ⟨Z218,Z351⟩

end Go.Proofs.YtepnbcdbagjmbaaDoor.QFnExactReadTable
