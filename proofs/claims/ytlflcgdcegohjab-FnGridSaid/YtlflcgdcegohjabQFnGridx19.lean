/- The machine side of FnGrid: what each Go function that it reaches comes to. Conditions: none. -/
import Derived.Test.YtlflcgdcegohjabQFnGridx0
import Derived.Test.YtlflcgdcegohjabQFnGridx10
import Derived.Test.YtlflcgdcegohjabQFnGridx18
namespace Go.Proofs.Ytlflcgdcegohjab.QFnGrid
open Go.RowKit Go.Proofs.YtlflcgdcegohjabW.PrintWords Go.Proofs.YtlflcgdcegohjabW.PrintLast Go.Proofs.YtlflcgdcegohjabW.PrintMore
attribute [local go_sem] max2_int min2_int max_two min_two max_three min_three max_four min_four   -- for this text's walks alone
set_option linter.unusedVariables false
set_option linter.unusedSimpArgs false

/-! ### spec_GridOk: function 12 -/
mutual
def spec_GridOk.j0 : Nat → Bool → List (List Int) → List (List Int) → Option (Bool)
 | 0,_,_,_ => none
 | k + 1,x24,x622000,x622001 => if x24 = true then (some false) else (spec_GridOk.l0 k 0 x622000 x622001)
def spec_GridOk.l0 : Nat → Int → List (List Int) → List (List Int) → Option (Bool)
 | 0,_,_,_ => none
 | k + 1,x3,x622000,x622001 => if x3 < (x622000.length : Int) then (if 0 ≤ x3 then ((spec_CutsOk.f k (rd_L3 x622000 x3)).bind fun t626 => (if t626 = true then (if x3 < (x622001.length : Int) then ((spec_RowsIn.f x622000 x622001).bind fun t628 => (spec_GridOk.j2 k x3 (((rd_L3 x622001 x3).length : Int) != t628) x622000 x622001)) else (none)) else (spec_GridOk.j2 k x3 true x622000 x622001))) else (none)) else (some true)
def spec_GridOk.j2 : Nat → Int → Bool → List (List Int) → List (List Int) → Option (Bool)
 | 0,_,_,_,_ => none
 | k + 1,x3,x49,x622000,x622001 => if x49 = true then (some false) else (spec_GridOk.l1 k x3 0 x622000 x622001)
def spec_GridOk.l1 : Nat → Int → Int → List (List Int) → List (List Int) → Option (Bool)
 | 0,_,_,_,_ => none
 | k + 1,x3,x4,x622000,x622001 => if 0 ≤ x3 then (if x3 < (x622001.length : Int) then (if x4 < ((rd_L3 x622001 x3).length : Int) then (if 0 ≤ x4 then (if x3 < (x622000.length : Int) then ((spec_l1In.f (rd (rd_L3 x622001 x3) x4) 0 ((rd_L3 x622000 x3).length : Int)).bind fun t633 => (if t633 = true then (spec_GridOk.l1 k x3 (wrap64 (x4 + 1)) x622000 x622001) else (some false))) else (none)) else (none)) else (spec_GridOk.l0 k (wrap64 (x3 + 1)) x622000 x622001)) else (none)) else (none)
end
def spec_GridOk.f (k : Nat) (l0_0 : List (List Int)) (l0_1 : List (List Int)) : Option (Bool) := (spec_l1In.f (l0_0.length : Int) 1 4).bind fun t622 => (if t622 = true then (if (l0_1.length : Int) = (l0_0.length : Int) then ((spec_RowsIn.f l0_0 l0_1).bind fun t623 => ((spec_l1In.f t623 1 40).bind fun t624 => (spec_GridOk.j0 k (!t624) l0_0 l0_1))) else (spec_GridOk.j0 k true l0_0 l0_1)) else (spec_GridOk.j0 k true l0_0 l0_1))
theorem spec_GridOk.mono_l : ∀ k,(∀ y0 y1 y2,LeO (spec_GridOk.j0 k y0 y1 y2) (spec_GridOk.j0 (k + 1) y0 y1 y2)) ∧ (∀ y0 y1 y2,LeO (spec_GridOk.l0 k y0 y1 y2) (spec_GridOk.l0 (k + 1) y0 y1 y2)) ∧ (∀ y0 y1 y2 y3,LeO (spec_GridOk.j2 k y0 y1 y2 y3) (spec_GridOk.j2 (k + 1) y0 y1 y2 y3)) ∧ (∀ y0 y1 y2 y3,LeO (spec_GridOk.l1 k y0 y1 y2 y3) (spec_GridOk.l1 (k + 1) y0 y1 y2 y3))
 | 0 => ⟨fun _ _ _ r h => by simp [spec_GridOk.j0] at h,fun _ _ _ r h => by simp [spec_GridOk.l0] at h,fun _ _ _ _ r h => by simp [spec_GridOk.j2] at h,fun _ _ _ _ r h => by simp [spec_GridOk.l1] at h⟩
 | k + 1 => by
  obtain ⟨ih0,ih1,ih2,ih3⟩ := spec_GridOk.mono_l k
  refine ⟨?_,?_,?_,?_⟩
  ·intro y0 y1 y2
   unfold spec_GridOk.j0
   repeat' first
   | (with_reducible exact ih0 _ _ _)
   | (with_reducible exact ih1 _ _ _)
   | (with_reducible exact ih2 _ _ _ _)
   | (with_reducible exact ih3 _ _ _ _)
   | (with_reducible exact spec_CutsOk.mono _ _)
   | (with_reducible exact LeO.refl _)
   | (with_reducible exact LeO.none _)
   | (with_reducible refine LeO.ite ?_ ?_)
   | (with_reducible refine LeO.bind ?_ (fun _ => ?_))
   | exact ih0 _ _ _
   | exact ih1 _ _ _
   | exact ih2 _ _ _ _
   | exact ih3 _ _ _ _
   | exact spec_CutsOk.mono _ _
   | exact LeO.none _
   | refine LeO.ite ?_ ?_
   | refine LeO.bind ?_ (fun _ => ?_)
  ·intro y0 y1 y2
   unfold spec_GridOk.l0
   repeat' first
   | (with_reducible exact ih0 _ _ _)
   | (with_reducible exact ih1 _ _ _)
   | (with_reducible exact ih2 _ _ _ _)
   | (with_reducible exact ih3 _ _ _ _)
   | (with_reducible exact spec_CutsOk.mono _ _)
   | (with_reducible exact LeO.refl _)
   | (with_reducible exact LeO.none _)
   | (with_reducible refine LeO.ite ?_ ?_)
   | (with_reducible refine LeO.bind ?_ (fun _ => ?_))
   | exact ih0 _ _ _
   | exact ih1 _ _ _
   | exact ih2 _ _ _ _
   | exact ih3 _ _ _ _
   | exact spec_CutsOk.mono _ _
   | exact LeO.none _
   | refine LeO.ite ?_ ?_
   | refine LeO.bind ?_ (fun _ => ?_)
  ·intro y0 y1 y2 y3
   unfold spec_GridOk.j2
   repeat' first
   | (with_reducible exact ih0 _ _ _)
   | (with_reducible exact ih1 _ _ _)
   | (with_reducible exact ih2 _ _ _ _)
   | (with_reducible exact ih3 _ _ _ _)
   | (with_reducible exact spec_CutsOk.mono _ _)
   | (with_reducible exact LeO.refl _)
   | (with_reducible exact LeO.none _)
   | (with_reducible refine LeO.ite ?_ ?_)
   | (with_reducible refine LeO.bind ?_ (fun _ => ?_))
   | exact ih0 _ _ _
   | exact ih1 _ _ _
   | exact ih2 _ _ _ _
   | exact ih3 _ _ _ _
   | exact spec_CutsOk.mono _ _
   | exact LeO.none _
   | refine LeO.ite ?_ ?_
   | refine LeO.bind ?_ (fun _ => ?_)
  ·intro y0 y1 y2 y3
   unfold spec_GridOk.l1
   repeat' first
   | (with_reducible exact ih0 _ _ _)
   | (with_reducible exact ih1 _ _ _)
   | (with_reducible exact ih2 _ _ _ _)
   | (with_reducible exact ih3 _ _ _ _)
   | (with_reducible exact spec_CutsOk.mono _ _)
   | (with_reducible exact LeO.refl _)
   | (with_reducible exact LeO.none _)
   | (with_reducible refine LeO.ite ?_ ?_)
   | (with_reducible refine LeO.bind ?_ (fun _ => ?_))
   | exact ih0 _ _ _
   | exact ih1 _ _ _
   | exact ih2 _ _ _ _
   | exact ih3 _ _ _ _
   | exact spec_CutsOk.mono _ _
   | exact LeO.none _
   | refine LeO.ite ?_ ?_
   | refine LeO.bind ?_ (fun _ => ?_)
theorem spec_GridOk.mono : ∀ a0 a1 k,LeO (spec_GridOk.f k a0 a1) (spec_GridOk.f (k + 1) a0 a1) := by
 intro a0 a1 k
 obtain ⟨ih0,ih1,ih2,ih3⟩ := spec_GridOk.mono_l k
 unfold spec_GridOk.f
 repeat' first
   | (with_reducible exact ih0 _ _ _)
   | (with_reducible exact ih1 _ _ _)
   | (with_reducible exact ih2 _ _ _ _)
   | (with_reducible exact ih3 _ _ _ _)
   | (with_reducible exact spec_CutsOk.mono _ _)
   | (with_reducible exact LeO.refl _)
   | (with_reducible exact LeO.none _)
   | (with_reducible refine LeO.ite ?_ ?_)
   | (with_reducible refine LeO.bind ?_ (fun _ => ?_))
   | exact ih0 _ _ _
   | exact ih1 _ _ _
   | exact ih2 _ _ _ _
   | exact ih3 _ _ _ _
   | exact spec_CutsOk.mono _ _
   | exact LeO.none _
   | refine LeO.ite ?_ ?_
   | refine LeO.bind ?_ (fun _ => ?_)
def spec_GridOk.T6 : Bool × List (List Nat × List Nat) := (true,[([],[]),([0],[0]),([],[]),([1,2],[1,2]),([3],[3]),([4],[4]),([5],[5]),([6,5],[6]),([7],[7]),([8,7],[7,8]),([7],[7]),([9,10,7],[7,9,10]),([11,7],[7,11]),([12,7],[7,12]),([7],[7]),([14,7,7],[7,14]),([13,15,7],[7,13,15]),([7,16],[7,16])])
def spec_GridOk.B6 : List Nat := [0,1,0,7,15,31,63,127,255,511,255,2047,4095,8191,255,16639,65535,131071]
theorem spec_GridOk.tab6 : rtab .any (opsOf Try.f12 6) = spec_GridOk.T6 := by kernel_rfl
theorem spec_GridOk.bits6 : waitsOk spec_GridOk.T6.2 spec_GridOk.B6 = true := by kernel_rfl
def spec_GridOk.T11 : Bool × List (List Nat × List Nat) := (true,[([],[]),([0],[0]),([],[]),([1,2],[1,2]),([3],[3]),([],[]),([4,5],[4,5]),([6],[6]),([],[]),([8],[8]),([],[]),([9,10],[9,10]),([11],[11]),([12],[12]),([7,13],[7,13]),([14],[14])])
def spec_GridOk.B11 : List Nat := [0,1,0,7,15,0,63,127,0,256,0,1792,3840,7936,16383,32767]
theorem spec_GridOk.tab11 : rtab .any (opsOf Try.f12 11) = spec_GridOk.T11 := by kernel_rfl
theorem spec_GridOk.bits11 : waitsOk spec_GridOk.T11.2 spec_GridOk.B11 = true := by kernel_rfl
set_option maxHeartbeats 8000000 in
set_option maxRecDepth 100000 in
theorem spec_GridOk.calls (k : Nat) (A0_0 : Option Addr) (c0_0 : Nat) (l0_0 : List (List Int)) (A0_1 : Option Addr) (c0_1 : Nat) (l0_1 : List (List Int)) (r : Bool) (w : World) (hr0_0 : Kd.C (Kd.slice 3 (Kd.int .i64)) w A0_0 l0_0.length l0_0) (hc0_0 : l0_0.length ≤ c0_0) (hr0_1 : Kd.C (Kd.slice 3 (Kd.int .i64)) w A0_1 l0_1.length l0_1) (hc0_1 : l0_1.length ≤ c0_1) (h : spec_GridOk.f k l0_0 l0_1 = some r) :
  Calls Try.prog 12 #[.agg #[.slice A0_0 l0_0.length c0_0,.slice A0_1 l0_1.length c0_1]] w fun e w' => e = .returned (.bool r) ∧ Below w.heap.size w w' := by
 have hu32 := Try.underlying32
 have HR0_0 := Aside0.mk hr0_0
 have HC0_0 := Aside0.mk hc0_0
 clear hr0_0 hc0_0
 have HR0_1 := Aside0.mk hr0_1
 have HC0_1 := Aside0.mk hc0_1
 clear hr0_1 hc0_1
 have HB := Aside0.mk (Below.refl w.heap.size w)
 have H := h
 clear h
 unfold spec_GridOk.f at H
 have HC2 := Aside0.mk H
 clear H
 go_enter Try.func12,Try.ntmps12
 go_upto_region 1 with (first | ((with_reducible refine gate_dst (N := 1) rfl ?_);(try (refine gate_guard Z257 ?_;dsimp only));refine bE 1 #[.slice A0_0 l0_0.length c0_0,.slice A0_1 l0_1.length c0_1] 32 (h := ?_);intro gb621 hg w3 hbox hb;have n_ := jA (below_step Z336 hb) (jA (hbox) (jA ((Z279 : w.heap.size ≤ gb621)) (Aside0.mk ((Z279 : w.heap.size ≤ gb621)))));clear HB;obtain ⟨HB,BK621,GW621,GE621⟩ := n_;clear hb hbox hg))
 (try simp only [Act.put,List.setIfInBounds_toArray,List.set_cons_zero,List.set_cons_succ])
 go_cut [24] (fun v24 wc => ∃ (kq : Nat) (x24_1 : Bool),v24 = .bool x24_1 ∧ Aside0 (spec_GridOk.j0 kq x24_1 l0_0 l0_1 = some r) ∧ Aside0 (kq ≤ k) ∧ Aside0 (wc.heap[gb621]? = some (.cells #[(.slice A0_0 l0_0.length c0_0),(.slice A0_1 l0_1.length c0_1)] 32 (0,0))) ∧ Aside0 (Below w.heap.size w wc))
 case first =>
  have H := HC2.out
  clear HC2
  obtain ⟨t622,A40,H⟩ := Option.bind_eq_some_iff.mp H
  have A4 := Aside0.mk A40
  clear A40
  by_cases c5 : t622 = true
  rotate_left
  ·replace c5 := Bool.eq_false_iff.mpr c5
   subst c5
   rw [if_neg Bool.false_ne_true] at H
   have H' := Aside0.mk H
   clear H
   obtain ⟨hcz12_0,hcz12_1,hfz12_0,hfz12_1⟩ := cells2 BK621.out
   go_wp2_with (first | ((with_reducible refine gate_callee (f := 23) rfl ?_);refine goesL_ (some 8) rfl rfl Try.func23 Z256 rfl #[.int .i64 (l0_0.length : Int),.int .i64 1,.int .i64 4] rfl Z159 ?_;(with_reducible refine (spec_l1In.calls (l0_0.length : Int) 1 4 false _ A4.out).mono ?_);rintro e w' ⟨rfl,⟨nd,rfl⟩⟩;refine ⟨_,rfl,?_⟩))
   go_meet
   case rel => exact ⟨_,(true),Z230,H',⟨Z240⟩,⟨Z247⟩,⟨Z281⟩⟩
  subst c5
  rw [if_pos rfl] at H
  by_cases c6 : (l0_1.length : Int) = (l0_0.length : Int)
  rotate_left
  ·rw [if_neg c6] at H
   have c6b0 : ((l0_1.length : Int) == (l0_0.length : Int)) = false := beq_eq_false_iff_ne.mpr c6
   have c6b1 : ((l0_1.length : Int) != (l0_0.length : Int)) = true := bne_iff_ne.mpr c6
   have c6b2 : (l0_1.length == l0_0.length) = false := by first | simpa using c6 | (simp at c6 ⊢;omega)
   (first | rw [c6b0] | (simp only [i64_w,i32_w];rw [c6b0]) | skip)
   have H' := Aside0.mk H
   clear H
   obtain ⟨hcz11_0,hcz11_1,hfz11_0,hfz11_1⟩ := cells2 BK621.out
   go_wp2_with (first | ((with_reducible refine gate_callee (f := 23) rfl ?_);refine goesL_ (some 8) rfl rfl Try.func23 Z256 rfl #[.int .i64 (l0_0.length : Int),.int .i64 1,.int .i64 4] rfl Z159 ?_;(with_reducible refine (spec_l1In.calls (l0_0.length : Int) 1 4 true _ A4.out).mono ?_);rintro e w' ⟨rfl,⟨nd,rfl⟩⟩;refine ⟨_,rfl,?_⟩))
   go_meet
   case rel => exact ⟨_,(true),Z230,H',⟨Z240⟩,⟨Z247⟩,⟨Z281⟩⟩
  rw [if_pos c6] at H
  have c6b0 : ((l0_1.length : Int) == (l0_0.length : Int)) = true := beq_iff_eq.mpr c6
  have c6b1 : ((l0_1.length : Int) != (l0_0.length : Int)) = false := bne_eq_false_iff_eq.mpr c6
  have c6b2 : (l0_1.length == l0_0.length) = true := by first | simpa using c6 | (simp at c6 ⊢;omega)
  clear c6
  (first | rw [c6b0] | (simp only [i64_w,i32_w];rw [c6b0]) | skip)
  obtain ⟨t623,A70,H⟩ := Option.bind_eq_some_iff.mp H
  have A7 := Aside0.mk A70
  clear A70
  obtain ⟨t624,A80,H⟩ := Option.bind_eq_some_iff.mp H
  have A8 := Aside0.mk A80
  clear A80
  have H' := Aside0.mk H
  clear H
  obtain ⟨hcz9_0,hcz9_1,hfz9_0,hfz9_1⟩ := cells2 BK621.out
  go_wp2_with (first | ((with_reducible refine gate_callee (f := 23) rfl ?_);refine goesL_ (some 8) rfl rfl Try.func23 Z256 rfl #[.int .i64 (l0_0.length : Int),.int .i64 1,.int .i64 4] rfl Z159 ?_;(with_reducible refine (spec_l1In.calls (l0_0.length : Int) 1 4 true _ A4.out).mono ?_);rintro e w' ⟨rfl,⟨nd,rfl⟩⟩;refine ⟨_,rfl,?_⟩) | (go_at_call 34;(with_reducible refine (spec_RowsIn.calls _ _ l0_0 _ _ l0_1 t623 _ ?side1 ?side2 ?side3 ?side4 A7.out).mono ?_);(case side1 => exact Z44);(case side2 => exact Z253);(case side3 => exact Z43);(case side4 => exact HC0_1.out);rintro e w10 ⟨rfl,hb⟩;have n_ := jA (blk_below (g := gb621) (o := .cells #[.slice A0_0 l0_0.length c0_0,.slice A0_1 l0_1.length c0_1] 32 (0,0)) Z247 hb) (Aside0.mk (below_step Z281 hb));clear BK621 HB;obtain ⟨BK621,HB⟩ := n_;(try clear hb);(try clear hb2);(try clear hk);(try clear hi)) | (go_at_call 23;(with_reducible refine (spec_l1In.calls t623 1 40 t624 _ A8.out).mono ?_);rintro e w' ⟨rfl,⟨nd,rfl⟩⟩))
  go_meet
  case rel => exact ⟨_,(!t624),Z230,H',⟨Z240⟩,⟨Z247⟩,⟨Z281⟩⟩
 case rest =>
  clear HC2
  try clear c1
  try clear c2
  try clear p2
  try clear c5
  try clear c6
  try clear c6b0
  try clear c6b1
  try clear c6b2
  try clear c12
  obtain ⟨kq,x24_1,rfl,HA,HJ1,BK621,HB⟩ := hcut
  cases kq with
  | zero => exact absurd HA.out (by simp [spec_GridOk.j0])
  | succ kj1 =>
   have H := HA.out
   clear HA
   simp only [spec_GridOk.j0] at H
   by_cases c13 : x24_1 = true
   ·subst c13
    rw [if_pos rfl] at H
    obtain rfl := Option.some.inj H
    go_wp2
    go_ret
    exact ⟨Z212,Z281⟩
   replace c13 := Bool.eq_false_iff.mpr c13
   subst c13
   rw [if_neg Bool.false_ne_true] at H
   have H' := Aside0.mk H
   clear H
   go_wp2
   go_loopg [3] kj1 (fun kq v3 w' => ∃ (x3_2 : Int),v3 = .int .i64 x3_2 ∧ Aside0 (spec_GridOk.l0 kq x3_2 l0_0 l0_1 = some r) ∧ Aside0 (kq ≤ kj1) ∧ Aside0 (w'.heap[gb621]? = some (.cells #[(.slice A0_0 l0_0.length c0_0),(.slice A0_1 l0_1.length c0_1)] 32 (0,0))) ∧ Aside0 (Below w.heap.size w w'))
   case atStart => exact ⟨(0),Z230,H',⟨Nat.le_refl _⟩,⟨Z247⟩,⟨Z281⟩⟩
   case round =>
    clear H'
    try clear c1
    try clear c2
    try clear p2
    try clear c5
    try clear c6
    try clear c6b0
    try clear c6b1
    try clear c6b2
    try clear c12
    try clear c13
    try clear p2
    obtain ⟨x3_2,rfl,HA,HK2,BK621,HB⟩ := hrel
    cases gk with
    | zero => exact absurd HA.out (by simp [spec_GridOk.l0])
    | succ k2 =>
     have H := HA.out
     clear HA
     simp only [spec_GridOk.l0] at H
     by_cases c14 : x3_2 < (l0_0.length : Int)
     rotate_left
     ·rw [if_neg c14] at H
      have c14b0 : decide (x3_2 < (l0_0.length : Int)) = false := decide_eq_false c14
      clear c14
      obtain rfl := Option.some.inj H
      obtain ⟨hcz38_0,hcz38_1,hfz38_0,hfz38_1⟩ := cells2 BK621.out
      go_wp2
      go_ret
      exact ⟨Z212,Z281⟩
     rw [if_pos c14] at H
     have c14b0 : decide (x3_2 < (l0_0.length : Int)) = true := decide_eq_true c14
     clear c14
     have HC15 := Aside0.mk H
     clear H
     obtain ⟨hcz16_0,hcz16_1,hfz16_0,hfz16_1⟩ := cells2 BK621.out
     go_upto_region 6 with (fail)
     go_cut [49] (fun v49 wc => ∃ (kq : Nat) (x49_14 : Bool),v49 = .bool x49_14 ∧ Aside0 (spec_GridOk.j2 kq x3_2 x49_14 l0_0 l0_1 = some r) ∧ Aside0 (kq ≤ k2) ∧ Aside0 (wc.heap[gb621]? = some (.cells #[(.slice A0_0 l0_0.length c0_0),(.slice A0_1 l0_1.length c0_1)] 32 (0,0))) ∧ Aside0 (Below w.heap.size w wc))
     case first =>
      have H := HC15.out
      clear HC15
      obtain ⟨c17,H⟩ := ifp H
      have c17b0 : decide (0 ≤ x3_2) = true := decide_eq_true c17
      clear c17
      (first | rw [c17b0] | (simp only [i64_w,i32_w];rw [c17b0]) | skip)
      obtain ⟨t626,A180,H⟩ := Option.bind_eq_some_iff.mp H
      have A18 := Aside0.mk A180
      clear A180
      by_cases c19 : t626 = true
      rotate_left
      ·replace c19 := Bool.eq_false_iff.mpr c19
       subst c19
       rw [if_neg Bool.false_ne_true] at H
       have H' := Aside0.mk H
       clear H
       try go_wp2
       have n_ := jA (blk_drew BK621.out) (Aside0.mk (below_drew1 HB.out))
       clear BK621 HB
       obtain ⟨BK621,HB⟩ := n_
       have p625 : 0 ≤ (x3_2 : Int) := of_decide_eq_true Z229
       have q625 : x3_2 < (l0_0.length : Int) := of_decide_eq_true Z229
       obtain ⟨ad625,A625_0,c625_0,e625,hx625_0,hl625_0,hi625_0⟩ := at_L3 HR0_0.out x3_2 p625 q625
       have hw625_0 := hx625_0
       cases e625
       replace hx625_0 := (HB.out.cell (World.block_lt_of_cell? w _ hx625_0)).trans hx625_0
       have HR625_0 := Aside0.mk hi625_0
       have HC625_0 := Aside0.mk hl625_0
       clear hi625_0 hl625_0
       replace p625 := eq_true p625
       replace q625 := eq_true q625
       refine start_ (n := 18) (S := fun w' => w'.cell? ⟨gb621,0,none⟩ = some (.slice (some ad625) l0_0.length c0_0) ∧ w'.cell? ⟨gb621,1,none⟩ = some (.slice A0_1 l0_1.length c0_1) ∧ w'.cell? (ad625.add (x3_2).toNat) = some (.slice A625_0 (rd_L3 l0_0 x3_2).length c625_0)) (ds := []) (qM 18 0) Z256 rfl (by kernel_rfl) ⟨bc BK621 0,bc BK621 1,((HB.out.cell (World.block_lt_of_cell? w _ hw625_0)).trans hw625_0)⟩ (fun hHeld => ?_);refine with_tabW spec_GridOk.tab6 spec_GridOk.bits6 (fun HT_ HW_ => ?_)
       generalize wr.drew = w24 at BK621 HB HR625_0 hx625_0 hHeld ⊢
       refine rP 0 32 18 1 HT_ (h := ?_)
       refine rP 2 34 18 5 HT_ (h := ?_)
       refine rT3 1 33 18 7 HT_ HW_ hHeld (h := ?_)
       refine rP 3 35 18 15 HT_ (h := ?_)
       refine rT3 4 36 18 31 HT_ HW_ hHeld (h := ?_)
       refine rO 5 37 18 63 HT_ (h := fun K hK => ?_)
       refine goes_ Try.func35 Z256 rfl #[.slice A625_0 (rd_L3 l0_0 x3_2).length c625_0] Z257 rfl rfl Z159 ?_
       with_reducible refine (spec_CutsOk.calls k2 _ _ (rd_L3 l0_0 x3_2) false _ ?side1 ?side2 A18.out).mono ?_
       (case side1 => exact Z104)
       (case side2 => exact HC625_0.out)
       rintro e w' ⟨rfl,⟨nd,rfl⟩⟩
       refine ⟨_,rfl,?_⟩
       refine hK.out _ _ ⟨bc BK621 0,bc BK621 1,((HB.out.cell (World.block_lt_of_cell? w _ hw625_0)).trans hw625_0)⟩ (fun hHeld => ?_)
       clear hK K
       refine rN (h := ?_)
       refine rP 6 38 18 127 HT_ (h := ?_)
       refine rP 7 39 18 255 HT_ (h := ?_)
       refine rU 8 40 18 511 HT_ (h := ?_)
       refine rU 9 41 18 1023 HT_ (h := ?_)
       refine rU 10 42 18 2047 HT_ (h := ?_)
       refine rU 11 43 18 4095 HT_ (h := ?_)
       refine rU 12 44 18 8191 HT_ (h := ?_)
       refine rU 13 45 18 16383 HT_ (h := ?_)
       refine rU 14 46 18 32767 HT_ (h := ?_)
       refine rU 15 47 18 65535 HT_ (h := ?_)
       refine rU 16 48 18 131071 HT_ (h := ?_)
       refine rP 17 49 18 262143 HT_ (h := ?_)
       refine done_ (done_of HT_.out Z256) ?_
       try go_wp2
       go_meet
       case rel => exact ⟨_,(true),Z230,H',⟨Z223⟩,⟨Z247⟩,⟨Z281⟩⟩
      subst c19
      rw [if_pos rfl] at H
      obtain ⟨c20,H⟩ := ifp H
      have c20b0 : decide (x3_2 < (l0_1.length : Int)) = true := decide_eq_true c20
      clear c20
      obtain ⟨t628,A210,H⟩ := Option.bind_eq_some_iff.mp H
      have A21 := Aside0.mk A210
      clear A210
      have H' := Aside0.mk H
      clear H
      try go_wp2
      have n_ := jA (blk_drew BK621.out) (Aside0.mk (below_drew1 HB.out))
      clear BK621 HB
      obtain ⟨BK621,HB⟩ := n_
      have p625 : 0 ≤ (x3_2 : Int) := of_decide_eq_true Z229
      have q625 : x3_2 < (l0_0.length : Int) := of_decide_eq_true Z229
      obtain ⟨ad625,A625_0,c625_0,e625,hx625_0,hl625_0,hi625_0⟩ := at_L3 HR0_0.out x3_2 p625 q625
      have hw625_0 := hx625_0
      cases e625
      replace hx625_0 := (HB.out.cell (World.block_lt_of_cell? w _ hx625_0)).trans hx625_0
      have HR625_0 := Aside0.mk hi625_0
      have HC625_0 := Aside0.mk hl625_0
      clear hi625_0 hl625_0
      replace p625 := eq_true p625
      replace q625 := eq_true q625
      have p627 : 0 ≤ (x3_2 : Int) := of_decide_eq_true Z229
      have q627 : x3_2 < (l0_1.length : Int) := of_decide_eq_true Z229
      obtain ⟨ad627,A627_0,c627_0,e627,hx627_0,hl627_0,hi627_0⟩ := at_L3 HR0_1.out x3_2 p627 q627
      have hw627_0 := hx627_0
      cases e627
      replace hx627_0 := (HB.out.cell (World.block_lt_of_cell? w _ hx627_0)).trans hx627_0
      have HR627_0 := Aside0.mk hi627_0
      have HC627_0 := Aside0.mk hl627_0
      clear hi627_0 hl627_0
      replace p627 := eq_true p627
      replace q627 := eq_true q627
      refine start_ (n := 18) (S := fun w' => w'.cell? ⟨gb621,0,none⟩ = some (.slice (some ad625) l0_0.length c0_0) ∧ w'.cell? ⟨gb621,1,none⟩ = some (.slice (some ad627) l0_1.length c0_1) ∧ w'.cell? (ad625.add (x3_2).toNat) = some (.slice A625_0 (rd_L3 l0_0 x3_2).length c625_0) ∧ w'.cell? (ad627.add (x3_2).toNat) = some (.slice A627_0 (rd_L3 l0_1 x3_2).length c627_0)) (ds := []) (qM 18 0) Z256 rfl (by kernel_rfl) ⟨bc BK621 0,bc BK621 1,((HB.out.cell (World.block_lt_of_cell? w _ hw625_0)).trans hw625_0),((HB.out.cell (World.block_lt_of_cell? w _ hw627_0)).trans hw627_0)⟩ (fun hHeld => ?_);refine with_tabW spec_GridOk.tab6 spec_GridOk.bits6 (fun HT_ HW_ => ?_)
      generalize wr.drew = w22 at BK621 HB HR625_0 HR627_0 hx625_0 hx627_0 hHeld ⊢
      refine rP 0 32 18 1 HT_ (h := ?_)
      refine rP 2 34 18 5 HT_ (h := ?_)
      refine rT4 1 33 18 7 HT_ HW_ hHeld (h := ?_)
      refine rP 3 35 18 15 HT_ (h := ?_)
      refine rT4 4 36 18 31 HT_ HW_ hHeld (h := ?_)
      refine rO 5 37 18 63 HT_ (h := fun K hK => ?_)
      refine goes_ Try.func35 Z256 rfl #[.slice A625_0 (rd_L3 l0_0 x3_2).length c625_0] Z257 rfl rfl Z159 ?_
      with_reducible refine (spec_CutsOk.calls k2 _ _ (rd_L3 l0_0 x3_2) true _ ?side1 ?side2 A18.out).mono ?_
      (case side1 => exact Z104)
      (case side2 => exact HC625_0.out)
      rintro e w' ⟨rfl,⟨nd,rfl⟩⟩
      refine ⟨_,rfl,?_⟩
      refine hK.out _ _ ⟨bc BK621 0,bc BK621 1,((HB.out.cell (World.block_lt_of_cell? w _ hw625_0)).trans hw625_0),((HB.out.cell (World.block_lt_of_cell? w _ hw627_0)).trans hw627_0)⟩ (fun hHeld => ?_)
      clear hK K
      refine rN (h := ?_)
      refine rP 6 38 18 127 HT_ (h := ?_)
      refine rP 7 39 18 255 HT_ (h := ?_)
      refine rP 8 40 18 511 HT_ (h := ?_)
      refine rP 10 42 18 1535 HT_ (h := ?_)
      refine rT4 9 41 18 2047 HT_ HW_ hHeld (h := ?_)
      refine rP 11 43 18 4095 HT_ (h := ?_)
      refine rT4 12 44 18 8191 HT_ HW_ hHeld (h := ?_)
      refine rP 13 45 18 16383 HT_ (h := ?_)
      refine rT4 14 46 18 32767 HT_ HW_ hHeld (h := ?_)
      refine rO 15 47 18 65535 HT_ (h := fun K hK => ?_)
      refine goes_ Try.func34 Z256 rfl #[.agg #[.slice (some ad625) l0_0.length c0_0,.slice (some ad627) l0_1.length c0_1]] Z257 rfl rfl Z159 ?_
      with_reducible refine (spec_RowsIn.calls _ _ l0_0 _ _ l0_1 t628 _ ?side1 ?side2 ?side3 ?side4 A21.out).mono ?_
      (case side1 => exact Z44)
      (case side2 => exact Z253)
      (case side3 => exact Z43)
      (case side4 => exact HC0_1.out)
      rintro e w23 ⟨rfl,hb⟩
      refine ⟨_,rfl,?_⟩
      have n_ := jA (blk_below (g := gb621) (o := .cells #[.slice (some ad625) l0_0.length c0_0,.slice (some ad627) l0_1.length c0_1] 32 (0,0)) Z247 hb) (Aside0.mk (below_step Z281 hb))
      clear BK621 HB
      obtain ⟨BK621,HB⟩ := n_
      (try clear hb)
      (try clear hb2)
      (try clear hk)
      (try clear hi)
      refine hK.out _ _ ⟨bc BK621 0,bc BK621 1,((HB.out.cell (World.block_lt_of_cell? w _ hw625_0)).trans hw625_0),((HB.out.cell (World.block_lt_of_cell? w _ hw627_0)).trans hw627_0)⟩ (fun hHeld => ?_)
      clear hK K
      refine rN (h := ?_)
      refine rP 16 48 18 131071 HT_ (h := ?_)
      refine rP 17 49 18 262143 HT_ (h := ?_)
      refine done_ (done_of HT_.out Z256) ?_
      try go_wp2
      go_meet
      case rel => exact ⟨_,((((rd_L3 l0_1 x3_2).length : Int) != t628)),Z230,H',⟨Z223⟩,⟨Z247⟩,⟨Z281⟩⟩
     case rest =>
      clear HC15
      try clear c1
      try clear c2
      try clear p2
      try clear c3
      try clear c5
      try clear c6
      try clear c6b0
      try clear c6b1
      try clear c6b2
      try clear p6
      try clear q6
      try clear hx6
      try clear c12
      try clear c13
      try clear c14
      try clear c14b0
      try clear c17
      try clear c17b0
      try clear c19
      try clear c20
      try clear c20b0
      try clear c23
      try clear hx625_0
      try clear hx627_0
      try clear p2
      try clear p625
      try clear p627
      try clear q625
      try clear q627
      obtain ⟨kq,x49_14,rfl,HA,HJ14,BK621,HB⟩ := hcut
      cases kq with
      | zero => exact absurd HA.out (by simp [spec_GridOk.j2])
      | succ kj14 =>
       have H := HA.out
       clear HA
       simp only [spec_GridOk.j2] at H
       by_cases c25 : x49_14 = true
       ·subst c25
        rw [if_pos rfl] at H
        obtain rfl := Option.some.inj H
        go_wp2
        go_ret
        exact ⟨Z212,Z281⟩
       replace c25 := Bool.eq_false_iff.mpr c25
       subst c25
       rw [if_neg Bool.false_ne_true] at H
       have H' := Aside0.mk H
       clear H
       go_wp2
       go_loopg [4] kj14 (fun kq v4 w' => ∃ (x4_4 : Int),v4 = .int .i64 x4_4 ∧ Aside0 (spec_GridOk.l1 kq x3_2 x4_4 l0_0 l0_1 = some r) ∧ Aside0 (kq ≤ kj14) ∧ Aside0 (w'.heap[gb621]? = some (.cells #[(.slice A0_0 l0_0.length c0_0),(.slice A0_1 l0_1.length c0_1)] 32 (0,0))) ∧ Aside0 (Below w.heap.size w w'))
       case atStart => exact ⟨(0),Z230,H',⟨Nat.le_refl _⟩,⟨Z247⟩,⟨Z281⟩⟩
       case round =>
        clear H'
        try clear c1
        try clear c2
        try clear p2
        try clear c3
        try clear c5
        try clear c6
        try clear c6b0
        try clear c6b1
        try clear c6b2
        try clear p6
        try clear q6
        try clear hx6
        try clear c12
        try clear c13
        try clear c14
        try clear c14b0
        try clear c17
        try clear c17b0
        try clear c19
        try clear c20
        try clear c20b0
        try clear c23
        try clear c25
        try clear hx625_0
        try clear hx627_0
        try clear p2
        try clear p6
        try clear p625
        try clear p627
        try clear q6
        try clear q625
        try clear q627
        obtain ⟨x4_4,rfl,HA,HK4,BK621,HB⟩ := hrel
        cases gk with
        | zero => exact absurd HA.out (by simp [spec_GridOk.l1])
        | succ k4 =>
         have H := HA.out
         clear HA
         simp only [spec_GridOk.l1] at H
         obtain ⟨c26,H⟩ := ifp H
         have c26b0 : decide (0 ≤ x3_2) = true := decide_eq_true c26
         clear c26
         obtain ⟨c27,H⟩ := ifp H
         have c27b0 : decide (x3_2 < (l0_1.length : Int)) = true := decide_eq_true c27
         clear c27
         by_cases c28 : x4_4 < ((rd_L3 l0_1 x3_2).length : Int)
         rotate_left
         ·rw [if_neg c28] at H
          have c28b0 : decide (x4_4 < ((rd_L3 l0_1 x3_2).length : Int)) = false := decide_eq_false c28
          clear c28
          have H' := Aside0.mk H
          clear H
          obtain ⟨hcz37_0,hcz37_1,hfz37_0,hfz37_1⟩ := cells2 BK621.out
          have p629 : 0 ≤ (x3_2 : Int) := of_decide_eq_true Z229
          have q629 : x3_2 < (l0_1.length : Int) := of_decide_eq_true Z229
          obtain ⟨ad629,A629_0,c629_0,e629,hx629_0,hl629_0,hi629_0⟩ := at_L3 HR0_1.out x3_2 p629 q629
          cases e629
          replace hx629_0 := (HB.out.cell (World.block_lt_of_cell? w _ hx629_0)).trans hx629_0
          have HR629_0 := Aside0.mk hi629_0
          have HC629_0 := Aside0.mk hl629_0
          clear hi629_0 hl629_0
          replace p629 := eq_true p629
          replace q629 := eq_true q629
          go_wp2
          go_roundg k4
          case measure => have := HJ1.out;have := HK2.out;have := HJ14.out;have := HK4.out;omega
          case rel => exact ⟨(wrap64 (x3_2 + 1)),Z230,H',⟨Z222⟩,⟨Z247⟩,⟨Z281⟩⟩
         rw [if_pos c28] at H
         have c28b0 : decide (x4_4 < ((rd_L3 l0_1 x3_2).length : Int)) = true := decide_eq_true c28
         clear c28
         obtain ⟨c29,H⟩ := ifp H
         have c29b0 : decide (0 ≤ x4_4) = true := decide_eq_true c29
         clear c29
         obtain ⟨c30,H⟩ := ifp H
         have c30b0 : decide (x3_2 < (l0_0.length : Int)) = true := decide_eq_true c30
         clear c30
         obtain ⟨t633,A310,H⟩ := Option.bind_eq_some_iff.mp H
         have A31 := Aside0.mk A310
         clear A310
         by_cases c32 : t633 = true
         rotate_left
         ·replace c32 := Bool.eq_false_iff.mpr c32
          subst c32
          rw [if_neg Bool.false_ne_true] at H
          obtain rfl := Option.some.inj H
          obtain ⟨hcz35_0,hcz35_1,hfz35_0,hfz35_1⟩ := cells2 BK621.out
          have p629 : 0 ≤ (x3_2 : Int) := of_decide_eq_true Z229
          have q629 : x3_2 < (l0_1.length : Int) := of_decide_eq_true Z229
          obtain ⟨ad629,A629_0,c629_0,e629,hx629_0,hl629_0,hi629_0⟩ := at_L3 HR0_1.out x3_2 p629 q629
          cases e629
          replace hx629_0 := (HB.out.cell (World.block_lt_of_cell? w _ hx629_0)).trans hx629_0
          have HR629_0 := Aside0.mk hi629_0
          have HC629_0 := Aside0.mk hl629_0
          clear hi629_0 hl629_0
          replace p629 := eq_true p629
          replace q629 := eq_true q629
          try go_wp2
          have n_ := jA (blk_drew BK621.out) (Aside0.mk (below_drew1 HB.out))
          clear BK621 HB
          obtain ⟨BK621,HB⟩ := n_
          have p630 : 0 ≤ (x3_2 : Int) := of_decide_eq_true Z229
          have q630 : x3_2 < (l0_1.length : Int) := of_decide_eq_true Z229
          obtain ⟨ad630,A630_0,c630_0,e630,hx630_0,hl630_0,hi630_0⟩ := at_L3 HR0_1.out x3_2 p630 q630
          have hw630_0 := hx630_0
          obtain rfl : ad629 = ad630 := (by injection e630)
          have ee_ := hx629_0.symm.trans ((HB.out.cell (World.block_lt_of_cell? w _ hw630_0)).trans hw630_0)
          simp only [Option.some.injEq, Value.slice.injEq, true_and] at ee_
          obtain ⟨rfl, rfl⟩ := ee_
          replace hx630_0 := (HB.out.cell (World.block_lt_of_cell? w _ hx630_0)).trans hx630_0
          have HR630_0 := Aside0.mk hi630_0
          have HC630_0 := Aside0.mk hl630_0
          clear hi630_0 hl630_0
          replace p630 := eq_true p630
          replace q630 := eq_true q630
          have p631 : 0 ≤ (x4_4 : Int) := of_decide_eq_true Z229
          have q631 : x4_4 < ((rd_L3 l0_1 x3_2).length : Int) := of_decide_eq_true Z229
          obtain ⟨ad631,e631,hx631_0⟩ := Kd.at_int HR630_0.out x4_4 p631 q631
          have hw631_0 := hx631_0
          cases e631
          replace hx631_0 := (HB.out.cell (World.block_lt_of_cell? w _ hx631_0)).trans hx631_0
          replace p631 := eq_true p631
          replace q631 := eq_true q631
          have p632 : 0 ≤ (x3_2 : Int) := of_decide_eq_true Z229
          have q632 : x3_2 < (l0_0.length : Int) := of_decide_eq_true Z229
          obtain ⟨ad632,A632_0,c632_0,e632,hx632_0,hl632_0,hi632_0⟩ := at_L3 HR0_0.out x3_2 p632 q632
          have hw632_0 := hx632_0
          cases e632
          replace hx632_0 := (HB.out.cell (World.block_lt_of_cell? w _ hx632_0)).trans hx632_0
          have HR632_0 := Aside0.mk hi632_0
          have HC632_0 := Aside0.mk hl632_0
          clear hi632_0 hl632_0
          replace p632 := eq_true p632
          replace q632 := eq_true q632
          refine start_ (n := 16) (S := fun w' => w'.cell? ⟨gb621,0,none⟩ = some (.slice (some ad632) l0_0.length c0_0) ∧ w'.cell? ⟨gb621,1,none⟩ = some (.slice (some ad629) l0_1.length c0_1) ∧ w'.cell? (ad629.add (x3_2).toNat) = some (.slice (some ad631) (rd_L3 l0_1 x3_2).length c629_0) ∧ w'.cell? (ad631.add (x4_4).toNat) = some (.int .i64 (rd (rd_L3 l0_1 x3_2) x4_4)) ∧ w'.cell? (ad632.add (x3_2).toNat) = some (.slice A632_0 (rd_L3 l0_0 x3_2).length c632_0)) (ds := []) (qM 16 0) Z256 rfl (by kernel_rfl) ⟨bc BK621 0,bc BK621 1,((HB.out.cell (World.block_lt_of_cell? w _ hw630_0)).trans hw630_0),((HB.out.cell (World.block_lt_of_cell? w _ hw631_0)).trans hw631_0),((HB.out.cell (World.block_lt_of_cell? w _ hw632_0)).trans hw632_0)⟩ (fun hHeld => ?_);refine with_tabW spec_GridOk.tab11 spec_GridOk.bits11 (fun HT_ HW_ => ?_)
          generalize wr.drew = w36 at BK621 HB HR630_0 HR632_0 hx630_0 hx631_0 hx632_0 hHeld ⊢
          refine rP 0 60 16 1 HT_ (h := ?_)
          refine rP 2 62 16 5 HT_ (h := ?_)
          refine rP 5 65 16 37 HT_ (h := ?_)
          refine rP 8 68 16 293 HT_ (h := ?_)
          refine rP 10 70 16 1317 HT_ (h := ?_)
          refine rT5 1 61 16 1319 HT_ HW_ hHeld (h := ?_)
          refine rP 3 63 16 1327 HT_ (h := ?_)
          refine rT5 4 64 16 1343 HT_ HW_ hHeld (h := ?_)
          refine rP 6 66 16 1407 HT_ (h := ?_)
          refine rT5 7 67 16 1535 HT_ HW_ hHeld (h := ?_)
          refine rT5 9 69 16 2047 HT_ HW_ hHeld (h := ?_)
          refine rP 11 71 16 4095 HT_ (h := ?_)
          refine rT5 12 72 16 8191 HT_ HW_ hHeld (h := ?_)
          refine rP 13 73 16 16383 HT_ (h := ?_)
          refine rO 14 74 16 32767 HT_ (h := fun K hK => ?_)
          refine goes_ Try.func23 Z256 rfl #[.int .i64 (rd (rd_L3 l0_1 x3_2) x4_4),.int .i64 0,.int .i64 ((rd_L3 l0_0 x3_2).length : Int)] Z257 rfl rfl Z159 ?_
          with_reducible refine (spec_l1In.calls (rd (rd_L3 l0_1 x3_2) x4_4) 0 ((rd_L3 l0_0 x3_2).length : Int) false _ A31.out).mono ?_
          rintro e w' ⟨rfl,⟨nd,rfl⟩⟩
          refine ⟨_,rfl,?_⟩
          refine hK.out _ _ ⟨bc BK621 0,bc BK621 1,((HB.out.cell (World.block_lt_of_cell? w _ hw630_0)).trans hw630_0),((HB.out.cell (World.block_lt_of_cell? w _ hw631_0)).trans hw631_0),((HB.out.cell (World.block_lt_of_cell? w _ hw632_0)).trans hw632_0)⟩ (fun hHeld => ?_)
          clear hK K
          refine rN (h := ?_)
          refine rP 15 75 16 65535 HT_ (h := ?_)
          refine done_ (done_of HT_.out Z256) ?_
          try go_wp2
          go_ret
          exact ⟨Z212,Z281⟩
         subst c32
         rw [if_pos rfl] at H
         have H' := Aside0.mk H
         clear H
         obtain ⟨hcz33_0,hcz33_1,hfz33_0,hfz33_1⟩ := cells2 BK621.out
         have p629 : 0 ≤ (x3_2 : Int) := of_decide_eq_true Z229
         have q629 : x3_2 < (l0_1.length : Int) := of_decide_eq_true Z229
         obtain ⟨ad629,A629_0,c629_0,e629,hx629_0,hl629_0,hi629_0⟩ := at_L3 HR0_1.out x3_2 p629 q629
         cases e629
         replace hx629_0 := (HB.out.cell (World.block_lt_of_cell? w _ hx629_0)).trans hx629_0
         have HR629_0 := Aside0.mk hi629_0
         have HC629_0 := Aside0.mk hl629_0
         clear hi629_0 hl629_0
         replace p629 := eq_true p629
         replace q629 := eq_true q629
         try go_wp2
         have n_ := jA (blk_drew BK621.out) (Aside0.mk (below_drew1 HB.out))
         clear BK621 HB
         obtain ⟨BK621,HB⟩ := n_
         have p630 : 0 ≤ (x3_2 : Int) := of_decide_eq_true Z229
         have q630 : x3_2 < (l0_1.length : Int) := of_decide_eq_true Z229
         obtain ⟨ad630,A630_0,c630_0,e630,hx630_0,hl630_0,hi630_0⟩ := at_L3 HR0_1.out x3_2 p630 q630
         have hw630_0 := hx630_0
         obtain rfl : ad629 = ad630 := (by injection e630)
         have ee_ := hx629_0.symm.trans ((HB.out.cell (World.block_lt_of_cell? w _ hw630_0)).trans hw630_0)
         simp only [Option.some.injEq, Value.slice.injEq, true_and] at ee_
         obtain ⟨rfl, rfl⟩ := ee_
         replace hx630_0 := (HB.out.cell (World.block_lt_of_cell? w _ hx630_0)).trans hx630_0
         have HR630_0 := Aside0.mk hi630_0
         have HC630_0 := Aside0.mk hl630_0
         clear hi630_0 hl630_0
         replace p630 := eq_true p630
         replace q630 := eq_true q630
         have p631 : 0 ≤ (x4_4 : Int) := of_decide_eq_true Z229
         have q631 : x4_4 < ((rd_L3 l0_1 x3_2).length : Int) := of_decide_eq_true Z229
         obtain ⟨ad631,e631,hx631_0⟩ := Kd.at_int HR630_0.out x4_4 p631 q631
         have hw631_0 := hx631_0
         cases e631
         replace hx631_0 := (HB.out.cell (World.block_lt_of_cell? w _ hx631_0)).trans hx631_0
         replace p631 := eq_true p631
         replace q631 := eq_true q631
         have p632 : 0 ≤ (x3_2 : Int) := of_decide_eq_true Z229
         have q632 : x3_2 < (l0_0.length : Int) := of_decide_eq_true Z229
         obtain ⟨ad632,A632_0,c632_0,e632,hx632_0,hl632_0,hi632_0⟩ := at_L3 HR0_0.out x3_2 p632 q632
         have hw632_0 := hx632_0
         cases e632
         replace hx632_0 := (HB.out.cell (World.block_lt_of_cell? w _ hx632_0)).trans hx632_0
         have HR632_0 := Aside0.mk hi632_0
         have HC632_0 := Aside0.mk hl632_0
         clear hi632_0 hl632_0
         replace p632 := eq_true p632
         replace q632 := eq_true q632
         refine start_ (n := 16) (S := fun w' => w'.cell? ⟨gb621,0,none⟩ = some (.slice (some ad632) l0_0.length c0_0) ∧ w'.cell? ⟨gb621,1,none⟩ = some (.slice (some ad629) l0_1.length c0_1) ∧ w'.cell? (ad629.add (x3_2).toNat) = some (.slice (some ad631) (rd_L3 l0_1 x3_2).length c629_0) ∧ w'.cell? (ad631.add (x4_4).toNat) = some (.int .i64 (rd (rd_L3 l0_1 x3_2) x4_4)) ∧ w'.cell? (ad632.add (x3_2).toNat) = some (.slice A632_0 (rd_L3 l0_0 x3_2).length c632_0)) (ds := []) (qM 16 0) Z256 rfl (by kernel_rfl) ⟨bc BK621 0,bc BK621 1,((HB.out.cell (World.block_lt_of_cell? w _ hw630_0)).trans hw630_0),((HB.out.cell (World.block_lt_of_cell? w _ hw631_0)).trans hw631_0),((HB.out.cell (World.block_lt_of_cell? w _ hw632_0)).trans hw632_0)⟩ (fun hHeld => ?_);refine with_tabW spec_GridOk.tab11 spec_GridOk.bits11 (fun HT_ HW_ => ?_)
         generalize wr.drew = w34 at BK621 HB HR630_0 HR632_0 hx630_0 hx631_0 hx632_0 hHeld ⊢
         refine rP 0 60 16 1 HT_ (h := ?_)
         refine rP 2 62 16 5 HT_ (h := ?_)
         refine rP 5 65 16 37 HT_ (h := ?_)
         refine rP 8 68 16 293 HT_ (h := ?_)
         refine rP 10 70 16 1317 HT_ (h := ?_)
         refine rT5 1 61 16 1319 HT_ HW_ hHeld (h := ?_)
         refine rP 3 63 16 1327 HT_ (h := ?_)
         refine rT5 4 64 16 1343 HT_ HW_ hHeld (h := ?_)
         refine rP 6 66 16 1407 HT_ (h := ?_)
         refine rT5 7 67 16 1535 HT_ HW_ hHeld (h := ?_)
         refine rT5 9 69 16 2047 HT_ HW_ hHeld (h := ?_)
         refine rP 11 71 16 4095 HT_ (h := ?_)
         refine rT5 12 72 16 8191 HT_ HW_ hHeld (h := ?_)
         refine rP 13 73 16 16383 HT_ (h := ?_)
         refine rO 14 74 16 32767 HT_ (h := fun K hK => ?_)
         refine goes_ Try.func23 Z256 rfl #[.int .i64 (rd (rd_L3 l0_1 x3_2) x4_4),.int .i64 0,.int .i64 ((rd_L3 l0_0 x3_2).length : Int)] Z257 rfl rfl Z159 ?_
         with_reducible refine (spec_l1In.calls (rd (rd_L3 l0_1 x3_2) x4_4) 0 ((rd_L3 l0_0 x3_2).length : Int) true _ A31.out).mono ?_
         rintro e w' ⟨rfl,⟨nd,rfl⟩⟩
         refine ⟨_,rfl,?_⟩
         refine hK.out _ _ ⟨bc BK621 0,bc BK621 1,((HB.out.cell (World.block_lt_of_cell? w _ hw630_0)).trans hw630_0),((HB.out.cell (World.block_lt_of_cell? w _ hw631_0)).trans hw631_0),((HB.out.cell (World.block_lt_of_cell? w _ hw632_0)).trans hw632_0)⟩ (fun hHeld => ?_)
         clear hK K
         refine rN (h := ?_)
         refine rP 15 75 16 65535 HT_ (h := ?_)
         refine done_ (done_of HT_.out Z256) ?_
         try go_wp2
         go_roundg k4
         case measure => have := HJ1.out;have := HK2.out;have := HJ14.out;have := HK4.out;omega
         case rel => exact ⟨(wrap64 (x4_4 + 1)),Z230,H',⟨Z222⟩,⟨Z247⟩,⟨Z281⟩⟩

end Go.Proofs.Ytlflcgdcegohjab.QFnGrid
