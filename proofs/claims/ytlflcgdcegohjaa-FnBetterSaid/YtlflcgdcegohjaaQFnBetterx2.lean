/- The machine side of FnBetter: what each Go function that it reaches comes to. Conditions: none. -/
import Derived.Test.YtlflcgdcegohjaaQFnBetterx0
import Derived.Test.YtlflcgdcegohjaaQFnBetterx1
namespace Go.Proofs.Ytlflcgdcegohjaa.QFnBetter
open Go.RowKit Go.Proofs.YtlflcgdcegohjaaW.PrintWords Go.Proofs.YtlflcgdcegohjaaW.PrintLast Go.Proofs.YtlflcgdcegohjaaW.PrintMore
attribute [local go_sem] max2_int min2_int max_two min_two max_three min_three max_four min_four   -- for this text's walks alone
set_option linter.unusedVariables false
set_option linter.unusedSimpArgs false

/-! ### spec_l13Hist: function 18 -/
mutual
def spec_l13Hist.l0 : Nat → List (S25) → Int → Int → List Int → Int → Int → Option ((List (S25)) × Int × Int)
 | 0,_,_,_,_,_,_ => none
 | k + 1,x3,x4,x5,x1000,x1001,x1002 => if x5 < x4 then ((spec_l1Below.f x1000 x1001 x1002 5).bind fun bt192 => ((spec_l1Below.f x1000 bt192.2.1 bt192.2.2 2001).bind fun bt195 => (if x3.length < 8796093022208 then (spec_l13Hist.l0 k (x3 ++ [(⟨bt192.1,wrap64 (bt195.1 - 1000)⟩ : S25)]) x4 (wrap64 (x5 + 1)) x1000 bt195.2.1 bt195.2.2) else (none)))) else (if x4 > 0 then ((spec_l1Once.f x1000 x1001 x1002 8).bind fun bt201 => (spec_l13Hist.j1 k x3 x4 bt201.1 x1000 bt201.2.1 bt201.2.2)) else (spec_l13Hist.j1 k x3 x4 false x1000 x1001 x1002))
def spec_l13Hist.j1 : Nat → List (S25) → Int → Bool → List Int → Int → Int → Option ((List (S25)) × Int × Int)
 | 0,_,_,_,_,_,_ => none
 | k + 1,x3,x4,x28,x1000,x1001,x1002 => if x28 = true then ((spec_l1Below.f x1000 x1001 x1002 x4).bind fun bt204 => ((spec_l1Whole.f k x1000 bt204.2.1 bt204.2.2).bind fun bt207 => ((spec_l1Whole.f k x1000 bt207.2.1 bt207.2.2).bind fun bt210 => (if 0 ≤ bt204.1 then (if bt204.1 < (x3.length : Int) then (some ((x3.set (bt204.1 : Int).toNat (⟨bt207.1,bt210.1⟩ : S25)),bt210.2.1,bt210.2.2)) else (none)) else (none))))) else (some (x3,x1001,x1002))
end
def spec_l13Hist.f (k : Nat) (s0_0 : List Int) (s0_1 : Int) (s0_2 : Int) : Option ((List (S25)) × Int × Int) := (spec_l1Below.f s0_0 s0_1 s0_2 6).bind fun bt189 => (spec_l13Hist.l0 k (([] : List (S25))) bt189.1 0 s0_0 bt189.2.1 bt189.2.2)
theorem spec_l13Hist.mono_l : ∀ k,(∀ y0 y1 y2 y3 y4 y5,LeO (spec_l13Hist.l0 k y0 y1 y2 y3 y4 y5) (spec_l13Hist.l0 (k + 1) y0 y1 y2 y3 y4 y5)) ∧ (∀ y0 y1 y2 y3 y4 y5,LeO (spec_l13Hist.j1 k y0 y1 y2 y3 y4 y5) (spec_l13Hist.j1 (k + 1) y0 y1 y2 y3 y4 y5))
 | 0 => ⟨fun _ _ _ _ _ _ r h => by simp [spec_l13Hist.l0] at h,fun _ _ _ _ _ _ r h => by simp [spec_l13Hist.j1] at h⟩
 | k + 1 => by
  obtain ⟨ih0,ih1⟩ := spec_l13Hist.mono_l k
  refine ⟨?_,?_⟩
  ·intro y0 y1 y2 y3 y4 y5
   unfold spec_l13Hist.l0
   repeat' first
   | (with_reducible exact ih0 _ _ _ _ _ _)
   | (with_reducible exact ih1 _ _ _ _ _ _)
   | (with_reducible exact spec_l1Whole.mono _ _ _ _)
   | (with_reducible exact LeO.refl _)
   | (with_reducible exact LeO.none _)
   | (with_reducible refine LeO.ite ?_ ?_)
   | (with_reducible refine LeO.bind ?_ (fun _ => ?_))
   | exact ih0 _ _ _ _ _ _
   | exact ih1 _ _ _ _ _ _
   | exact spec_l1Whole.mono _ _ _ _
   | exact LeO.none _
   | refine LeO.ite ?_ ?_
   | refine LeO.bind ?_ (fun _ => ?_)
  ·intro y0 y1 y2 y3 y4 y5
   unfold spec_l13Hist.j1
   repeat' first
   | (with_reducible exact ih0 _ _ _ _ _ _)
   | (with_reducible exact ih1 _ _ _ _ _ _)
   | (with_reducible exact spec_l1Whole.mono _ _ _ _)
   | (with_reducible exact LeO.refl _)
   | (with_reducible exact LeO.none _)
   | (with_reducible refine LeO.ite ?_ ?_)
   | (with_reducible refine LeO.bind ?_ (fun _ => ?_))
   | exact ih0 _ _ _ _ _ _
   | exact ih1 _ _ _ _ _ _
   | exact spec_l1Whole.mono _ _ _ _
   | exact LeO.none _
   | refine LeO.ite ?_ ?_
   | refine LeO.bind ?_ (fun _ => ?_)
theorem spec_l13Hist.mono : ∀ a0 a1 a2 k,LeO (spec_l13Hist.f k a0 a1 a2) (spec_l13Hist.f (k + 1) a0 a1 a2) := by
 intro a0 a1 a2 k
 obtain ⟨ih0,ih1⟩ := spec_l13Hist.mono_l k
 unfold spec_l13Hist.f
 repeat' first
   | (with_reducible exact ih0 _ _ _ _ _ _)
   | (with_reducible exact ih1 _ _ _ _ _ _)
   | (with_reducible exact spec_l1Whole.mono _ _ _ _)
   | (with_reducible exact LeO.refl _)
   | (with_reducible exact LeO.none _)
   | (with_reducible refine LeO.ite ?_ ?_)
   | (with_reducible refine LeO.bind ?_ (fun _ => ?_))
   | exact ih0 _ _ _ _ _ _
   | exact ih1 _ _ _ _ _ _
   | exact spec_l1Whole.mono _ _ _ _
   | exact LeO.none _
   | refine LeO.ite ?_ ?_
   | refine LeO.bind ?_ (fun _ => ?_)
set_option maxHeartbeats 8000000 in
set_option maxRecDepth 100000 in
theorem spec_l13Hist.calls (k : Nat) (g : Nat) (s0_0 : List Int) (s0_1 : Int) (s0_2 : Int) (r1 : List (S25)) (r2 : Int) (r3 : Int) (w0 w : World) (hI : IsS48 w0 w g s0_0 s0_1 s0_2) (hB : Below w0.heap.size w0 w) (h : spec_l13Hist.f k s0_0 s0_1 s0_2 = some (r1,r2,r3)) :
  Calls Try.prog 18 #[.pointer (some ⟨g,0,none⟩)] w fun e w' => ∃ v0_ : Value,e = .returned (v0_) ∧ Kd.R k25 25 w' w.heap.size (fun _ => True) v0_ r1 ∧ IsS48 w0 w' g s0_0 r2 r3 ∧ Below w0.heap.size w0 w' ∧ KeepBut w w' g none := by
 have hu25 := Try.underlying25
 have HI0 := Aside0.mk hI
 have HK := Aside0.mk (KeepBut.refl w g none)
 have HL := Aside0.mk hB.size
 clear hI
 have HW0 := Aside0.mk hB.size
 have HB := Aside0.mk hB
 clear hB
 have H := h
 clear h
 unfold spec_l13Hist.f at H
 obtain ⟨y186,hy186⟩ : ∃ y_ : List (S25),y_ = (([] : List (S25))) := ⟨_,rfl⟩
 replace H : ((spec_l1Below.f s0_0 s0_1 s0_2 6).bind fun bt189 => (spec_l13Hist.l0 k y186 bt189.1 0 s0_0 bt189.2.1 bt189.2.2)) = some (r1,r2,r3) := by first | (rw [hy186];with_reducible exact H) | (have H2_ := (Option.bind_some _ _).symm.trans H;rw [hy186];with_reducible exact H2_) | (have H2_ := (Option.bind_some _ _).symm.trans H;with_reducible exact H2_) | with_reducible exact H | (rw [hy186];exact H) | exact H
 have Ny186 := Aside0.mk hy186
 clear hy186
 obtain ⟨⟨t189,t190,t191⟩,A20,H⟩ := Option.bind_eq_some_iff.mp H
 try dsimp only at H
 have A2 := Aside0.mk A20
 clear A20
 have H' := Aside0.mk H
 clear H
 go_enter Try.func18,Try.ntmps18
 go_wp2_with (first | ((with_reducible refine gate_dst (N := 6) rfl ?_);refine Kd.R_lit k25 _ 25 ?hg (N := 6) ?hd (xs := ([] : List (S25))) (inner := []) (ok := fun _ => True) (okp := fun _ => True) ?hr ?hp (fun _ hk => hk) trivial (Below.refl _ _) (Nat.le_refl _) Z524 ?_;(case hd => rfl);(case hg => rfl);(case hr => exact Z295);(case hp => exact Z308);intro v187 w3 ho4 hb hg_ hnew_;clear hg_ hnew_;(first | rw [← Ny186.out] at ho4 | (simp only [Int.reduceToNat] at ho4;rw [← Ny186.out] at ho4));have n_ := jA (Kd.R_lower ho4 (keep_size (w := w) (g := g) (row := none) Z573)) (jA (IsS48.below Z399 hb) (jA (KeepBut.trans Z573 (KeepBut.of_below hb g none) (.inl rfl)) (Aside0.mk (below_step Z398 hb))));clear HI0 HK HB;obtain ⟨HO188,HI0,HK,HB⟩ := n_;clear hb ho4) | ((with_reducible refine gate_callee (f := 10) rfl ?_);refine goesL_ (some 8) rfl rfl Try.func10 Z310 rfl #[.pointer (some ⟨g,0,none⟩),.int .i64 6] rfl Z249 ?_;(with_reducible refine (spec_l1Below.calls g s0_0 s0_1 s0_2 6 t189 t190 t191 w0 _ ?side1 ?side2 A2.out).mono ?_);(case side1 => exact Z399);(case side2 => exact Z398);rintro e w5 ⟨rfl,hi,hb,hk⟩;refine ⟨_,rfl,?_⟩;have n_ := jA (Kd.R_mono (Kd.R_keep (IsS48.apart (show IsS48 w0 _ g s0_0 s0_1 s0_2 from Z399) Z262 Z522) hk (fun _ h => h.2)) (fun _ h => h.1)) (jA (KeepBut.trans Z573 hk (.inl rfl)) (jA (hb) (Aside0.mk (hi))));clear HO188 HK HB HI0;obtain ⟨HO188,HK,HB,HI0⟩ := n_;(try clear hb);(try clear hb2);(try clear hk);(try clear hi)))
 go_loopg [3,5] k (fun kq v3 v5 w' => ∃ (x3_1 : List (S25)) (x5_1 : Int) (x1001_1 : Int) (x1002_1 : Int),v5 = .int .i64 x5_1 ∧ Aside0 (spec_l13Hist.l0 kq x3_1 t189 x5_1 s0_0 x1001_1 x1002_1 = some (r1,r2,r3)) ∧ Aside0 (kq ≤ k) ∧ Aside0 (Kd.R k25 25 w' w.heap.size (fun _ => True) v3 x3_1) ∧ Aside0 (IsS48 w0 w' g s0_0 x1001_1 x1002_1) ∧ Aside0 (KeepBut w w' g none) ∧ Aside0 (Below w0.heap.size w0 w'))
 case atStart => exact ⟨(y186),(0),(t190),(t191),Z294,H',⟨Nat.le_refl _⟩,⟨Z262⟩,⟨Z399⟩,⟨Z573⟩,⟨Z398⟩⟩
 case round =>
  clear H'
  try clear c1
  try clear p2
  obtain ⟨x3_1,x5_1,x1001_1,x1002_1,rfl,HA,HK1,HO_3,HI0,HK,HB⟩ := hrel
  cases gk with
  | zero => exact absurd HA.out (by simp [spec_l13Hist.l0])
  | succ k1 =>
   have H := HA.out
   clear HA
   simp only [spec_l13Hist.l0] at H
   by_cases c6 : x5_1 < t189
   ·rw [if_pos c6] at H
    have c6b0 : decide (x5_1 < t189) = true := decide_eq_true c6
    clear c6
    obtain ⟨⟨t192,t193,t194⟩,A70,H⟩ := Option.bind_eq_some_iff.mp H
    try dsimp only at H
    have A7 := Aside0.mk A70
    clear A70
    obtain ⟨⟨t195,t196,t197⟩,A80,H⟩ := Option.bind_eq_some_iff.mp H
    try dsimp only at H
    have A8 := Aside0.mk A80
    clear A80
    obtain ⟨c9,H⟩ := ifp H
    have LMc9 := Aside0.mk c9
    clear c9
    obtain ⟨y198,hy198⟩ : ∃ y_ : List (S25),y_ = (x3_1 ++ [(⟨t192,wrap64 (t195 - 1000)⟩ : S25)]) := ⟨_,rfl⟩
    replace H : (spec_l13Hist.l0 k1 y198 t189 (wrap64 (x5_1 + 1)) s0_0 t196 t197) = some (r1,r2,r3) := by first | (rw [hy198];with_reducible exact H) | (have H2_ := (Option.bind_some _ _).symm.trans H;rw [hy198];with_reducible exact H2_) | (have H2_ := (Option.bind_some _ _).symm.trans H;with_reducible exact H2_) | with_reducible exact H | (rw [hy198];exact H) | exact H
    have Ny198 := Aside0.mk hy198
    clear hy198
    have H' := Aside0.mk H
    clear H
    go_wp2_with (first | ((with_reducible refine gate_callee (f := 10) rfl ?_);refine goesL_ (some 16) rfl rfl Try.func10 Z310 rfl #[.pointer (some ⟨g,0,none⟩),.int .i64 5] rfl Z249 ?_;(with_reducible refine (spec_l1Below.calls g s0_0 x1001_1 x1002_1 5 t192 t193 t194 w0 _ ?side1 ?side2 A7.out).mono ?_);(case side1 => exact Z399);(case side2 => exact Z398);rintro e w10 ⟨rfl,hi,hb,hk⟩;refine ⟨_,rfl,?_⟩;have n_ := Z92;clear HO_3 HK HB HI0;obtain ⟨HO_3,HK,HB,HI0⟩ := n_;(try clear hb);(try clear hb2);(try clear hk);(try clear hi)) | ((with_reducible refine gate_callee (f := 10) rfl ?_);refine goesL_ (some 18) rfl rfl Try.func10 Z310 rfl #[.pointer (some ⟨g,0,none⟩),.int .i64 2001] rfl Z249 ?_;(with_reducible refine (spec_l1Below.calls g s0_0 t193 t194 2001 t195 t196 t197 w0 _ ?side1 ?side2 A8.out).mono ?_);(case side1 => exact Z399);(case side2 => exact Z398);rintro e w11 ⟨rfl,hi,hb,hk⟩;refine ⟨_,rfl,?_⟩;have n_ := jA (Kd.R_mono (Kd.R_keep (IsS48.apart (show IsS48 w0 _ g s0_0 t193 t194 from Z399) Z486 Z522) hk (fun _ h => h.2)) (fun _ h => h.1)) (jA (KeepBut.trans Z573 hk (.inl rfl)) (jA (hb) (Aside0.mk (hi))));clear HO_3 HK HB HI0;obtain ⟨HO_3,HK,HB,HI0⟩ := n_;(try clear hb);(try clear hb2);(try clear hk);(try clear hi)) | ((with_reducible refine gate_builtin (b := .append) (xs := #[.tmp 14,.tmp 21]) rfl ?_);at_builtin;refine Kd.R_append k25 w.heap.size rfl (.tmp 14) (.tmp 21) 50 25 (.agg #[(.int .i64 0),(.int .i64 0)]) 16 rfl Try.underlying50 info25 rfl Z522 Z523 u3 x3_1 (⟨t192,wrap64 (t195 - 1000)⟩ : S25) [.int .i64 t192,.int .i64 (wrap64 (t195 - 1000))] (fun _ => True) (fun _ => False) rfl rfl ?aP (fun _ hk => hk.elim) ?aF ?aO (Below.refl _ _) ?aS ?aL ?_;(case aP => exact k25_mkM _ _ _ (⟨t192,wrap64 (t195 - 1000)⟩ : S25));(case aF => exact Z306);(case aO => exact Z486);(case aS => exact Z196);(case aL => have := LMc9.out;omega);intro v199 w12 ho hb hg hat;rw [← Ny198.out] at ho;have n_ := jA (IsS48.grown Z399 hg (IsS48.own_ne HI0.out HO_3.out Z522)) (jA (below_weaken Z398 HL.out hb) (jA (KeepBut.trans Z573 (KeepBut.of_grown hg g) (Kd.R_base2 HO_3.out)) (Aside0.mk (ho))));clear HI0 HB HK HO_3;obtain ⟨HI0,HB,HK,HO200⟩ := n_;clear ho hb hg hat))
    go_roundg k1
    case measure => have := HK1.out;omega
    case rel => exact ⟨(y198),(wrap64 (x5_1 + 1)),(t196),(t197),Z294,H',⟨Z309⟩,⟨by (with_reducible repeat (first | apply Kd.R_alloc | apply Kd.R_drewN | apply Kd.R_drew));exact HO200.out⟩,⟨Z399⟩,⟨Z573⟩,⟨Z398⟩⟩
   rw [if_neg c6] at H
   have c6b0 : decide (x5_1 < t189) = false := decide_eq_false c6
   clear c6
   have HC13 := Aside0.mk H
   clear H
   go_upto_region 7 with (fail)
   go_cut [28] (fun v28 wc => ∃ (kq : Nat) (x28_12 : Bool) (x1001_12 : Int) (x1002_12 : Int),v28 = .bool x28_12 ∧ Aside0 (spec_l13Hist.j1 kq x3_1 t189 x28_12 s0_0 x1001_12 x1002_12 = some (r1,r2,r3)) ∧ Aside0 (kq ≤ k1) ∧ Aside0 (Kd.R k25 25 wc w.heap.size (fun _ => True) u3 x3_1) ∧ Aside0 (IsS48 w0 wc g s0_0 x1001_12 x1002_12) ∧ Aside0 (KeepBut w wc g none) ∧ Aside0 (Below w0.heap.size w0 wc))
   case first =>
    have H := HC13.out
    clear HC13
    by_cases c14 : t189 > 0
    rotate_left
    ·rw [if_neg c14] at H
     have c14b0 : decide (0 < t189) = false := decide_eq_false c14
     clear c14
     (first | rw [c14b0] | (simp only [i64_w,i32_w];rw [c14b0]) | skip)
     have H' := Aside0.mk H
     clear H
     go_wp2
     go_meet
     case rel => exact ⟨_,(false),(x1001_1),(x1002_1),Z294,H',⟨Z290⟩,⟨Z486⟩,⟨Z399⟩,⟨Z573⟩,⟨Z398⟩⟩
    rw [if_pos c14] at H
    have c14b0 : decide (0 < t189) = true := decide_eq_true c14
    clear c14
    (first | rw [c14b0] | (simp only [i64_w,i32_w];rw [c14b0]) | skip)
    obtain ⟨⟨t201,t202,t203⟩,A150,H⟩ := Option.bind_eq_some_iff.mp H
    try dsimp only at H
    have A15 := Aside0.mk A150
    clear A150
    have H' := Aside0.mk H
    clear H
    go_wp2_with (first | (go_at_call 19;(with_reducible refine (spec_l1Once.calls g s0_0 x1001_1 x1002_1 8 t201 t202 t203 w0 _ ?side1 ?side2 A15.out).mono ?_);(case side1 => exact Z399);(case side2 => exact Z398);rintro e w16 ⟨rfl,hi,hb,hk⟩;have n_ := Z92;clear HO_3 HK HB HI0;obtain ⟨HO_3,HK,HB,HI0⟩ := n_;(try clear hb);(try clear hb2);(try clear hk);(try clear hi)))
    go_meet
    case rel => exact ⟨_,(t201),(t202),(t203),Z294,H',⟨Z290⟩,⟨Z486⟩,⟨Z399⟩,⟨Z573⟩,⟨Z398⟩⟩
   case rest =>
    clear HC13
    try clear c1
    try clear p2
    try clear c6
    try clear c6b0
    try clear p6
    try clear c9
    try clear c10
    try clear c14
    try clear c14b0
    try clear p2
    obtain ⟨kq,x28_12,x1001_12,x1002_12,rfl,HA,HJ12,HO_3,HI0,HK,HB⟩ := hcut
    cases kq with
    | zero => exact absurd HA.out (by simp [spec_l13Hist.j1])
    | succ kj12 =>
     have H := HA.out
     clear HA
     simp only [spec_l13Hist.j1] at H
     by_cases c17 : x28_12 = true
     rotate_left
     ·replace c17 := Bool.eq_false_iff.mpr c17
      subst c17
      rw [if_neg Bool.false_ne_true] at H
      simp only [Option.some.injEq,Prod.mk.injEq] at H
      obtain ⟨rfl,rfl,rfl⟩ := H
      go_wp2
      go_ret
      exact ⟨_,Z265,Z486,Z399,Z398,Z573⟩
     subst c17
     rw [if_pos rfl] at H
     obtain ⟨⟨t204,t205,t206⟩,A180,H⟩ := Option.bind_eq_some_iff.mp H
     try dsimp only at H
     have A18 := Aside0.mk A180
     clear A180
     obtain ⟨⟨t207,t208,t209⟩,A190,H⟩ := Option.bind_eq_some_iff.mp H
     try dsimp only at H
     have A19 := Aside0.mk A190
     clear A190
     obtain ⟨⟨t210,t211,t212⟩,A200,H⟩ := Option.bind_eq_some_iff.mp H
     try dsimp only at H
     have A20 := Aside0.mk A200
     clear A200
     obtain ⟨c21,H⟩ := ifp H
     have c21b0 : decide (0 ≤ t204) = true := decide_eq_true c21
     clear c21
     obtain ⟨c22,H⟩ := ifp H
     have c22b0 : decide (t204 < (x3_1.length : Int)) = true := decide_eq_true c22
     clear c22
     obtain ⟨y213,hy213⟩ : ∃ y_ : List (S25),y_ = (x3_1.set (t204 : Int).toNat (⟨t207,t210⟩ : S25)) := ⟨_,rfl⟩
     replace H : (some (y213,t211,t212)) = some (r1,r2,r3) := by first | (rw [hy213];with_reducible exact H) | (have H2_ := (Option.bind_some _ _).symm.trans H;rw [hy213];with_reducible exact H2_) | (have H2_ := (Option.bind_some _ _).symm.trans H;with_reducible exact H2_) | with_reducible exact H | (rw [hy213];exact H) | exact H
     have Ny213 := Aside0.mk hy213
     clear hy213
     simp only [Option.some.injEq,Prod.mk.injEq] at H
     obtain ⟨rfl,rfl,rfl⟩ := H
     go_wp2_with (first | ((with_reducible refine gate_callee (f := 10) rfl ?_);refine goesL_ (some 32) rfl rfl Try.func10 Z310 rfl #[.pointer (some ⟨g,0,none⟩),.int .i64 t189] rfl Z249 ?_;(with_reducible refine (spec_l1Below.calls g s0_0 x1001_12 x1002_12 t189 t204 t205 t206 w0 _ ?side1 ?side2 A18.out).mono ?_);(case side1 => exact Z399);(case side2 => exact Z398);rintro e wq1 ⟨rfl,hi,hb,hk⟩;refine ⟨_,rfl,?_⟩;have n_ := jA (Kd.R_mono (Kd.R_keep (IsS48.apart (show IsS48 w0 _ g s0_0 x1001_12 x1002_12 from Z399) Z486 Z522) hk (fun _ h => h.2)) (fun _ h => h.1)) (jA (KeepBut.trans Z573 hk (.inl rfl)) (jA (hb) (Aside0.mk (hi))));clear HO_3 HK HB HI0;obtain ⟨HO_3,HK,HB,HI0⟩ := n_;(try clear hb);(try clear hb2);(try clear hk);(try clear hi)) | ((with_reducible refine gate_callee (f := 33) rfl ?_);refine goesL_ (some 34) rfl rfl Try.func33 Z310 rfl #[.pointer (some ⟨g,0,none⟩)] rfl Z249 ?_;(with_reducible refine (spec_l1Whole.calls kj12 g s0_0 t205 t206 t207 t208 t209 w0 _ ?side1 ?side2 A19.out).mono ?_);(case side1 => exact Z399);(case side2 => exact Z398);rintro e wq2 ⟨rfl,hi,hb,hk⟩;refine ⟨_,rfl,?_⟩;have n_ := jA (Kd.R_mono (Kd.R_keep (IsS48.apart (show IsS48 w0 _ g s0_0 t205 t206 from Z399) Z486 Z522) hk (fun _ h => h.2)) (fun _ h => h.1)) (jA (KeepBut.trans Z573 hk (.inl rfl)) (jA (hb) (Aside0.mk (hi))));clear HO_3 HK HB HI0;obtain ⟨HO_3,HK,HB,HI0⟩ := n_;(try clear hb);(try clear hb2);(try clear hk);(try clear hi)) | ((with_reducible refine gate_callee (f := 33) rfl ?_);refine goesL_ (some 36) rfl rfl Try.func33 Z310 rfl #[.pointer (some ⟨g,0,none⟩)] rfl Z249 ?_;(with_reducible refine (spec_l1Whole.calls kj12 g s0_0 t208 t209 t210 t211 t212 w0 _ ?side1 ?side2 A20.out).mono ?_);(case side1 => exact Z399);(case side2 => exact Z398);rintro e wq3 ⟨rfl,hi,hb,hk⟩;refine ⟨_,rfl,?_⟩;have n_ := jA (Kd.R_mono (Kd.R_keep (IsS48.apart (show IsS48 w0 _ g s0_0 t208 t209 from Z399) Z486 Z522) hk (fun _ h => h.2)) (fun _ h => h.1)) (jA (KeepBut.trans Z573 hk (.inl rfl)) (jA (hb) (Aside0.mk (hi))));clear HO_3 HK HB HI0;obtain ⟨HO_3,HK,HB,HI0⟩ := n_;(try clear hb);(try clear hb2);(try clear hk);(try clear hi);have pq4 : 0 ≤ (t204 : Int) := of_decide_eq_true Z293;have qq4 : (t204 : Int) < ((x3_1.length : Int) : Int) := of_decide_eq_true Z293;obtain ⟨goq4,coq4,eoq4,gb23,glq4,clq4,HGq4⟩ := Kd.R_form HO_3.out Z523;(first | cases eoq4 | (injection eoq4 with ea_ en_ ec_;(first | subst ea_ | (injection ea_ with ea_;subst ea_));subst ec_;clear en_));have GBq4 := Aside0.mk gb23;have GGq4 := Aside0.mk HGq4;clear gb23 glq4 HGq4;obtain ⟨ceq4,hclq4,hMq4,hccq4,hfrq4⟩ := Kd.R_elem HO_3.out z25 (t204 : Int) pq4 qq4;obtain rfl := k25_openM hMq4;have hxq4_0 : wq3.cell? ⟨goq4,(t204 : Int).toNat * 2,none⟩ = some (.int .i64 ((rd_T25 x3_1 t204).f0)) := hccq4 0 _ rfl;have hxq4_1 : wq3.cell? ⟨goq4,(t204 : Int).toNat * 2 + 1,none⟩ = some (.int .i64 ((rd_T25 x3_1 t204).f1)) := hccq4 1 _ rfl;have hfq4_0 : wq3.frozen? ⟨goq4,(t204 : Int).toNat * 2,none⟩ = false := hfrq4 0;have hfq4_1 : wq3.frozen? ⟨goq4,(t204 : Int).toNat * 2 + 1,none⟩ = false := hfrq4 1;(try clear hclq4);(try clear hccq4);(try clear hfrq4);(try clear hMq4);replace pq4 := eq_true pq4;replace qq4 := eq_true qq4;have HXq5 := Aside0.mk (show Kd.R k25 25 wq3 w.heap.size (fun _ => True) (.slice (some ⟨goq4,0,none⟩) x3_1.length coq4) x3_1 from Z486);obtain ⟨ceq5,hclq5,hMq5,hccq5,hfrq5⟩ := Kd.R_elem HXq5.out z25 (t204 : Int) (of_decide_eq_true Z293) (by have h_ : (t204 : Int) < ((x3_1.length : Int) : Int) := of_decide_eq_true Z293;first | exact h_ | (have e_ := (Kd.R_reads' HO_3.out).1;omega) | simpa using h_);obtain rfl := k25_openM hMq5;have HPq5 := Kd.R_seg HXq5.out (t204 : Int) (of_decide_eq_true Z293) (by have h_ : (t204 : Int) < ((x3_1.length : Int) : Int) := of_decide_eq_true Z293;first | exact h_ | (have e_ := (Kd.R_reads' HO_3.out).1;omega) | simpa using h_) (seg := [.int .i64 t207,.int .i64 t210]) (j := 0) hclq5 hccq5 (show 2 ≤ 2 from Z522) (x' := (⟨t207,t210⟩ : S25)) (k25_mkM _ _ _ (⟨t207,t210⟩ : S25) ) (fun _ hk => hk);have hxq5_0 := hccq5 0 _ rfl;(try simp only [show (k25).sz = 2 from rfl,Nat.mul_one,Nat.add_zero] at hxq5_0);have hfq5_0 := hfrq5 0;(try simp only [show (k25).sz = 2 from rfl,Nat.mul_one,Nat.add_zero] at hfq5_0);have hxq5_1 := hccq5 1 _ rfl;(try simp only [show (k25).sz = 2 from rfl,Nat.mul_one,Nat.add_zero] at hxq5_1);have hfq5_1 := hfrq5 1;(try simp only [show (k25).sz = 2 from rfl,Nat.mul_one,Nat.add_zero] at hfq5_1);(try clear hclq5);(try clear hccq5);(try clear hfrq5);(try clear hMq5)) | ((with_reducible refine gate_store (t := 25) (p := 38) rfl ?_);refine store_event (t := 25) (p := 38) (v := ?vo_w28) (w1 := ((wq3.setCell ⟨goq4,(t204 : Int).toNat * 2,none⟩ (.int .i64 t207)).setCell ⟨goq4,(t204 : Int).toNat * 2 + 1,none⟩ (.int .i64 t210))) ?hg ?ho ?hn ?hr ?_;(case ho => rfl);(case hg => rfl);(case hn => rfl);(case hr => exact Z295);intro wq6 hw;have hg : wq3.grownBy wq6 (some goq4) := (by rw [hw];exact HPq5.2);have hp_ : Kd.R k25 25 wq6 w.heap.size (fun _ => True) (.slice (some ⟨goq4,0,none⟩) x3_1.length coq4) y213 := (by rw [hw,Ny213.out];exact HPq5.1);clear HPq5;have n_ := jA (hp_) (jA (IsS48.grown Z399 hg (IsS48.own_ne HI0.out HO_3.out Z522)) (jA ((by rw [hw];exact below_set (below_set (HB.out) (Nat.le_trans HL.out GBq4.out)) (Nat.le_trans HL.out GBq4.out) : Below w0.heap.size w0 wq6)) (Aside0.mk (KeepBut.trans Z573 (KeepBut.of_grown hg g) (Kd.R_base2 HO_3.out)))));clear HO_3 HI0 HB HK;obtain ⟨HO_3,HI0,HB,HK⟩ := n_;clear hg hw hp_))
     go_ret
     exact ⟨_,Z265,Z486,Z399,Z398,Z573⟩

/-! ### spec_AddInt: function 66 -/
def spec_AddInt.f (a0 : Int) (a1 : Int) : Option (Int × Bool) := if a1 > 0 then (if a0 > (wrap64 (9223372036854775807 - a1)) then (some (0,false)) else (if a1 < 0 then (if a0 < (wrap64 ((-9223372036854775808) - a1)) then (some (0,false)) else (some (wrap64 (a0 + a1),true))) else (some (wrap64 (a0 + a1),true)))) else (if a1 < 0 then (if a0 < (wrap64 ((-9223372036854775808) - a1)) then (some (0,false)) else (some (wrap64 (a0 + a1),true))) else (some (wrap64 (a0 + a1),true)))
set_option maxHeartbeats 8000000 in
set_option maxRecDepth 100000 in
theorem spec_AddInt.calls (a0 : Int) (a1 : Int) (r1 : Int) (r2 : Bool) (w : World) (h : spec_AddInt.f a0 a1 = some (r1,r2)) :
  Calls Try.prog 66 #[.int .i64 a0,.int .i64 a1] w fun e w' => e = .returned (.tuple #[.int .i64 r1,.bool r2]) ∧ Drawn0 w w' := by
 have H := h
 clear h
 unfold spec_AddInt.f at H
 by_cases c3 : a1 > 0
 rotate_left
 ·rw [if_neg c3] at H
  have c3b0 : decide (0 < a1) = false := decide_eq_false c3
  clear c3
  by_cases c7 : a1 < 0
  rotate_left
  ·rw [if_neg c7] at H
   have c7b0 : decide (a1 < 0) = false := decide_eq_false c7
   clear c7
   simp only [Option.some.injEq,Prod.mk.injEq] at H
   obtain ⟨rfl,rfl⟩ := H
   go_enter Try.func66,Try.ntmps66
   go_wp2
   go_ret2
   exact ⟨Z294,Z271⟩
  rw [if_pos c7] at H
  have c7b0 : decide (a1 < 0) = true := decide_eq_true c7
  clear c7
  by_cases c8 : a0 < (wrap64 ((-9223372036854775808) - a1))
  ·rw [if_pos c8] at H
   have c8b0 : decide (a0 < (wrap64 ((-9223372036854775808) - a1))) = true := decide_eq_true c8
   clear c8
   simp only [Option.some.injEq,Prod.mk.injEq] at H
   obtain ⟨rfl,rfl⟩ := H
   go_enter Try.func66,Try.ntmps66
   go_wp2
   go_ret2
   exact ⟨Z294,Z271⟩
  rw [if_neg c8] at H
  have c8b0 : decide (a0 < (wrap64 ((-9223372036854775808) - a1))) = false := decide_eq_false c8
  clear c8
  simp only [Option.some.injEq,Prod.mk.injEq] at H
  obtain ⟨rfl,rfl⟩ := H
  go_enter Try.func66,Try.ntmps66
  go_wp2
  go_ret2
  exact ⟨Z294,Z271⟩
 rw [if_pos c3] at H
 have c3b0 : decide (0 < a1) = true := decide_eq_true c3
 clear c3
 by_cases c4 : a0 > (wrap64 (9223372036854775807 - a1))
 ·rw [if_pos c4] at H
  have c4b0 : decide ((wrap64 (9223372036854775807 - a1)) < a0) = true := decide_eq_true c4
  clear c4
  simp only [Option.some.injEq,Prod.mk.injEq] at H
  obtain ⟨rfl,rfl⟩ := H
  go_enter Try.func66,Try.ntmps66
  go_wp2
  go_ret2
  exact ⟨Z294,Z271⟩
 rw [if_neg c4] at H
 have c4b0 : decide ((wrap64 (9223372036854775807 - a1)) < a0) = false := decide_eq_false c4
 clear c4
 by_cases c5 : a1 < 0
 rotate_left
 ·rw [if_neg c5] at H
  have c5b0 : decide (a1 < 0) = false := decide_eq_false c5
  clear c5
  simp only [Option.some.injEq,Prod.mk.injEq] at H
  obtain ⟨rfl,rfl⟩ := H
  go_enter Try.func66,Try.ntmps66
  go_wp2
  go_ret2
  exact ⟨Z294,Z271⟩
 rw [if_pos c5] at H
 have c5b0 : decide (a1 < 0) = true := decide_eq_true c5
 clear c5
 by_cases c6 : a0 < (wrap64 ((-9223372036854775808) - a1))
 ·rw [if_pos c6] at H
  have c6b0 : decide (a0 < (wrap64 ((-9223372036854775808) - a1))) = true := decide_eq_true c6
  clear c6
  simp only [Option.some.injEq,Prod.mk.injEq] at H
  obtain ⟨rfl,rfl⟩ := H
  go_enter Try.func66,Try.ntmps66
  go_wp2
  go_ret2
  exact ⟨Z294,Z271⟩
 rw [if_neg c6] at H
 have c6b0 : decide (a0 < (wrap64 ((-9223372036854775808) - a1))) = false := decide_eq_false c6
 clear c6
 simp only [Option.some.injEq,Prod.mk.injEq] at H
 obtain ⟨rfl,rfl⟩ := H
 go_enter Try.func66,Try.ntmps66
 go_wp2
 go_ret2
 exact ⟨Z294,Z271⟩

/-! ### spec_l13Add: function 53 -/
def spec_l13Add.f (a0_0 : Int) (a0_1 : Int) (a1_0 : Int) (a1_1 : Int) : Option (Int × Int × Bool) := (spec_AddInt.f a0_0 a1_0).bind fun bt217 => ((spec_AddInt.f a0_1 a1_1).bind fun bt219 => (if bt217.2 = true then (if bt219.2 = true then (some (bt217.1,bt219.1,true)) else (some (0,0,false))) else (some (0,0,false))))
set_option maxHeartbeats 8000000 in
set_option maxRecDepth 100000 in
theorem spec_l13Add.calls (a0_0 : Int) (a0_1 : Int) (a1_0 : Int) (a1_1 : Int) (r1 : Int) (r2 : Int) (r3 : Bool) (w : World) (h : spec_l13Add.f a0_0 a0_1 a1_0 a1_1 = some (r1,r2,r3)) :
  Calls Try.prog 53 #[.agg #[.int .i64 a0_0,.int .i64 a0_1],.agg #[.int .i64 a1_0,.int .i64 a1_1]] w fun e w' => e = .returned (.tuple #[.agg #[.int .i64 r1,.int .i64 r2],.bool r3]) ∧ Below w.heap.size w w' := by
 have hu25 := Try.underlying25
 have HB := Aside0.mk (Below.refl w.heap.size w)
 have H := h
 clear h
 unfold spec_l13Add.f at H
 obtain ⟨⟨t217,t218⟩,A30,H⟩ := Option.bind_eq_some_iff.mp H
 try dsimp only at H
 have A3 := Aside0.mk A30
 clear A30
 obtain ⟨⟨t219,t220⟩,A40,H⟩ := Option.bind_eq_some_iff.mp H
 try dsimp only at H
 have A4 := Aside0.mk A40
 clear A40
 by_cases c5 : t218 = true
 rotate_left
 ·replace c5 := Bool.eq_false_iff.mpr c5
  subst c5
  rw [if_neg Bool.false_ne_true] at H
  simp only [Option.some.injEq,Prod.mk.injEq] at H
  obtain ⟨rfl,rfl,rfl⟩ := H
  go_enter Try.func53,Try.ntmps53
  go_wp2_with (first | ((with_reducible refine gate_dst (N := 2) rfl ?_);refine bE 2 #[.int .i64 a0_0,.int .i64 a0_1] 25 (h := ?_);intro gb214 hg wq1 hbox hb;have n_ := Z110;clear HB;obtain ⟨HB,BK214,GW214,GE214⟩ := n_;clear hb hbox hg) | ((with_reducible refine gate_dst (N := 3) rfl ?_);refine bE 3 #[.int .i64 a1_0,.int .i64 a1_1] 25 (h := ?_);intro gb215 hg wq2 hbox hb;have n_ := Z68;clear BK214 HB;obtain ⟨BK214,HB,BK215,GW215,GE215,NB214_215,NB215_214⟩ := n_;clear hb hbox hg) | ((with_reducible refine gate_dst (N := 4) rfl ?_);refine bE 4 #[.int .i64 0,.int .i64 0] 25 (h := ?_);intro gb216 hg wq3 hbox hb;have n_ := Z44;clear BK214 BK215 HB;obtain ⟨BK214,BK215,HB,BK216,GW216,GE216,NB214_216,NB216_214,NB215_216,NB216_215⟩ := n_;clear hb hbox hg;have hnbq4 := NB214_215.out;have hncq4 := NB215_214.out;have hnbq5 := NB214_216.out;have hncq5 := NB216_214.out;obtain ⟨hczq6_0,hczq6_1,hfzq6_0,hfzq6_1⟩ := cells2 BK214.out;have hnbq7 := NB215_216.out;have hncq7 := NB216_215.out;obtain ⟨hczq8_0,hczq8_1,hfzq8_0,hfzq8_1⟩ := cells2 BK215.out) | ((with_reducible refine gate_callee (f := 66) rfl ?_);refine goesL_ (some 15) rfl rfl Try.func66 Z310 rfl #[.int .i64 a0_0,.int .i64 a1_0] rfl Z249 ?_;(with_reducible refine (spec_AddInt.calls a0_0 a1_0 t217 false _ A3.out).mono ?_);rintro e w' ⟨rfl,⟨nd,rfl⟩⟩;refine ⟨_,rfl,?_⟩;(iterate 4 (try (rw [drewN_self wq3];generalize hq_ : World.drewN wq3 _ = wq3;have n0_ : Aside0 (wq3.heap[gb214]? = some (.cells #[.int .i64 a0_0,.int .i64 a0_1] 25 (0,0))) := ⟨Z284⟩;have n1_ : Aside0 (wq3.heap[gb215]? = some (.cells #[.int .i64 a1_0,.int .i64 a1_1] 25 (0,0))) := ⟨Z283⟩;have n2_ : Aside0 (wq3.heap[gb216]? = some (.cells #[.int .i64 0,.int .i64 0] 25 (0,0))) := ⟨Z282⟩;have n3_ : Aside0 (Below w.heap.size w wq3) := ⟨Z175⟩;clear BK214 BK215 BK216 HB hq_;have BK214 := n0_;have BK215 := n1_;have BK216 := n2_;have HB := n3_;clear n0_ n1_ n2_ n3_)));(try (obtain ⟨hczq6_0,hczq6_1,hfzq6_0,hfzq6_1⟩ := cells2 BK214.out));(try (obtain ⟨hczq8_0,hczq8_1,hfzq8_0,hfzq8_1⟩ := cells2 BK215.out))) | ((with_reducible refine gate_callee (f := 66) rfl ?_);refine goesL_ (some 23) rfl rfl Try.func66 Z310 rfl #[.int .i64 a0_1,.int .i64 a1_1] rfl Z249 ?_;(with_reducible refine (spec_AddInt.calls a0_1 a1_1 t219 t220 _ A4.out).mono ?_);rintro e w' ⟨rfl,⟨nd,rfl⟩⟩;refine ⟨_,rfl,?_⟩;(iterate 4 (try (rw [drewN_self wq3];generalize hq_ : World.drewN wq3 _ = wq3;have n0_ : Aside0 (wq3.heap[gb214]? = some (.cells #[.int .i64 a0_0,.int .i64 a0_1] 25 (0,0))) := ⟨Z284⟩;have n1_ : Aside0 (wq3.heap[gb215]? = some (.cells #[.int .i64 a1_0,.int .i64 a1_1] 25 (0,0))) := ⟨Z283⟩;have n2_ : Aside0 (wq3.heap[gb216]? = some (.cells #[.int .i64 0,.int .i64 0] 25 (0,0))) := ⟨Z282⟩;have n3_ : Aside0 (Below w.heap.size w wq3) := ⟨Z175⟩;clear BK214 BK215 BK216 HB hq_;have BK214 := n0_;have BK215 := n1_;have BK216 := n2_;have HB := n3_;clear n0_ n1_ n2_ n3_)));(try (obtain ⟨hczq6_0,hczq6_1,hfzq6_0,hfzq6_1⟩ := cells2 BK214.out));(try (obtain ⟨hczq8_0,hczq8_1,hfzq8_0,hfzq8_1⟩ := cells2 BK215.out));obtain ⟨hczq9_0,hczq9_1,hfzq9_0,hfzq9_1⟩ := cells2 BK216.out))
  refine bodyPost_ret (results_ct rfl _ _ gb216 25 #[.int .i64 0,.int .i64 0] (0,0) _ rfl Z225 Try.underlying25 rfl Z310) rfl ?_
  exact ⟨Z265,Z342⟩
 subst c5
 rw [if_pos rfl] at H
 by_cases c6 : t220 = true
 rotate_left
 ·replace c6 := Bool.eq_false_iff.mpr c6
  subst c6
  rw [if_neg Bool.false_ne_true] at H
  simp only [Option.some.injEq,Prod.mk.injEq] at H
  obtain ⟨rfl,rfl,rfl⟩ := H
  go_enter Try.func53,Try.ntmps53
  go_wp2_with (first | ((with_reducible refine gate_dst (N := 2) rfl ?_);refine bE 2 #[.int .i64 a0_0,.int .i64 a0_1] 25 (h := ?_);intro gb214 hg wq1 hbox hb;have n_ := Z110;clear HB;obtain ⟨HB,BK214,GW214,GE214⟩ := n_;clear hb hbox hg) | ((with_reducible refine gate_dst (N := 3) rfl ?_);refine bE 3 #[.int .i64 a1_0,.int .i64 a1_1] 25 (h := ?_);intro gb215 hg wq2 hbox hb;have n_ := Z68;clear BK214 HB;obtain ⟨BK214,HB,BK215,GW215,GE215,NB214_215,NB215_214⟩ := n_;clear hb hbox hg) | ((with_reducible refine gate_dst (N := 4) rfl ?_);refine bE 4 #[.int .i64 0,.int .i64 0] 25 (h := ?_);intro gb216 hg wq3 hbox hb;have n_ := Z44;clear BK214 BK215 HB;obtain ⟨BK214,BK215,HB,BK216,GW216,GE216,NB214_216,NB216_214,NB215_216,NB216_215⟩ := n_;clear hb hbox hg;have hnbq4 := NB214_215.out;have hncq4 := NB215_214.out;have hnbq5 := NB214_216.out;have hncq5 := NB216_214.out;obtain ⟨hczq6_0,hczq6_1,hfzq6_0,hfzq6_1⟩ := cells2 BK214.out;have hnbq7 := NB215_216.out;have hncq7 := NB216_215.out;obtain ⟨hczq8_0,hczq8_1,hfzq8_0,hfzq8_1⟩ := cells2 BK215.out) | ((with_reducible refine gate_callee (f := 66) rfl ?_);refine goesL_ (some 15) rfl rfl Try.func66 Z310 rfl #[.int .i64 a0_0,.int .i64 a1_0] rfl Z249 ?_;(with_reducible refine (spec_AddInt.calls a0_0 a1_0 t217 true _ A3.out).mono ?_);rintro e w' ⟨rfl,⟨nd,rfl⟩⟩;refine ⟨_,rfl,?_⟩;(iterate 4 (try (rw [drewN_self wq3];generalize hq_ : World.drewN wq3 _ = wq3;have n0_ : Aside0 (wq3.heap[gb214]? = some (.cells #[.int .i64 a0_0,.int .i64 a0_1] 25 (0,0))) := ⟨Z284⟩;have n1_ : Aside0 (wq3.heap[gb215]? = some (.cells #[.int .i64 a1_0,.int .i64 a1_1] 25 (0,0))) := ⟨Z283⟩;have n2_ : Aside0 (wq3.heap[gb216]? = some (.cells #[.int .i64 0,.int .i64 0] 25 (0,0))) := ⟨Z282⟩;have n3_ : Aside0 (Below w.heap.size w wq3) := ⟨Z175⟩;clear BK214 BK215 BK216 HB hq_;have BK214 := n0_;have BK215 := n1_;have BK216 := n2_;have HB := n3_;clear n0_ n1_ n2_ n3_)));(try (obtain ⟨hczq6_0,hczq6_1,hfzq6_0,hfzq6_1⟩ := cells2 BK214.out));(try (obtain ⟨hczq8_0,hczq8_1,hfzq8_0,hfzq8_1⟩ := cells2 BK215.out))) | ((with_reducible refine gate_callee (f := 66) rfl ?_);refine goesL_ (some 23) rfl rfl Try.func66 Z310 rfl #[.int .i64 a0_1,.int .i64 a1_1] rfl Z249 ?_;(with_reducible refine (spec_AddInt.calls a0_1 a1_1 t219 false _ A4.out).mono ?_);rintro e w' ⟨rfl,⟨nd,rfl⟩⟩;refine ⟨_,rfl,?_⟩;(iterate 4 (try (rw [drewN_self wq3];generalize hq_ : World.drewN wq3 _ = wq3;have n0_ : Aside0 (wq3.heap[gb214]? = some (.cells #[.int .i64 a0_0,.int .i64 a0_1] 25 (0,0))) := ⟨Z284⟩;have n1_ : Aside0 (wq3.heap[gb215]? = some (.cells #[.int .i64 a1_0,.int .i64 a1_1] 25 (0,0))) := ⟨Z283⟩;have n2_ : Aside0 (wq3.heap[gb216]? = some (.cells #[.int .i64 0,.int .i64 0] 25 (0,0))) := ⟨Z282⟩;have n3_ : Aside0 (Below w.heap.size w wq3) := ⟨Z175⟩;clear BK214 BK215 BK216 HB hq_;have BK214 := n0_;have BK215 := n1_;have BK216 := n2_;have HB := n3_;clear n0_ n1_ n2_ n3_)));(try (obtain ⟨hczq6_0,hczq6_1,hfzq6_0,hfzq6_1⟩ := cells2 BK214.out));(try (obtain ⟨hczq8_0,hczq8_1,hfzq8_0,hfzq8_1⟩ := cells2 BK215.out));obtain ⟨hczq9_0,hczq9_1,hfzq9_0,hfzq9_1⟩ := cells2 BK216.out))
  refine bodyPost_ret (results_ct rfl _ _ gb216 25 #[.int .i64 0,.int .i64 0] (0,0) _ rfl Z225 Try.underlying25 rfl Z310) rfl ?_
  exact ⟨Z265,Z342⟩
 subst c6
 rw [if_pos rfl] at H
 simp only [Option.some.injEq,Prod.mk.injEq] at H
 obtain ⟨rfl,rfl,rfl⟩ := H
 go_enter Try.func53,Try.ntmps53
 go_wp2_with (first | ((with_reducible refine gate_dst (N := 2) rfl ?_);refine bE 2 #[.int .i64 a0_0,.int .i64 a0_1] 25 (h := ?_);intro gb214 hg wq1 hbox hb;have n_ := Z110;clear HB;obtain ⟨HB,BK214,GW214,GE214⟩ := n_;clear hb hbox hg) | ((with_reducible refine gate_dst (N := 3) rfl ?_);refine bE 3 #[.int .i64 a1_0,.int .i64 a1_1] 25 (h := ?_);intro gb215 hg wq2 hbox hb;have n_ := Z68;clear BK214 HB;obtain ⟨BK214,HB,BK215,GW215,GE215,NB214_215,NB215_214⟩ := n_;clear hb hbox hg) | ((with_reducible refine gate_dst (N := 4) rfl ?_);refine bE 4 #[.int .i64 0,.int .i64 0] 25 (h := ?_);intro gb216 hg wq3 hbox hb;have n_ := Z44;clear BK214 BK215 HB;obtain ⟨BK214,BK215,HB,BK216,GW216,GE216,NB214_216,NB216_214,NB215_216,NB216_215⟩ := n_;clear hb hbox hg;have hnbq4 := NB214_215.out;have hncq4 := NB215_214.out;have hnbq5 := NB214_216.out;have hncq5 := NB216_214.out;obtain ⟨hczq6_0,hczq6_1,hfzq6_0,hfzq6_1⟩ := cells2 BK214.out;have hnbq7 := NB215_216.out;have hncq7 := NB216_215.out;obtain ⟨hczq8_0,hczq8_1,hfzq8_0,hfzq8_1⟩ := cells2 BK215.out) | ((with_reducible refine gate_callee (f := 66) rfl ?_);refine goesL_ (some 15) rfl rfl Try.func66 Z310 rfl #[.int .i64 a0_0,.int .i64 a1_0] rfl Z249 ?_;(with_reducible refine (spec_AddInt.calls a0_0 a1_0 t217 true _ A3.out).mono ?_);rintro e w' ⟨rfl,⟨nd,rfl⟩⟩;refine ⟨_,rfl,?_⟩;(iterate 4 (try (rw [drewN_self wq3];generalize hq_ : World.drewN wq3 _ = wq3;have n0_ : Aside0 (wq3.heap[gb214]? = some (.cells #[.int .i64 a0_0,.int .i64 a0_1] 25 (0,0))) := ⟨Z284⟩;have n1_ : Aside0 (wq3.heap[gb215]? = some (.cells #[.int .i64 a1_0,.int .i64 a1_1] 25 (0,0))) := ⟨Z283⟩;have n2_ : Aside0 (wq3.heap[gb216]? = some (.cells #[.int .i64 0,.int .i64 0] 25 (0,0))) := ⟨Z282⟩;have n3_ : Aside0 (Below w.heap.size w wq3) := ⟨Z175⟩;clear BK214 BK215 BK216 HB hq_;have BK214 := n0_;have BK215 := n1_;have BK216 := n2_;have HB := n3_;clear n0_ n1_ n2_ n3_)));(try (obtain ⟨hczq6_0,hczq6_1,hfzq6_0,hfzq6_1⟩ := cells2 BK214.out));(try (obtain ⟨hczq8_0,hczq8_1,hfzq8_0,hfzq8_1⟩ := cells2 BK215.out))) | ((with_reducible refine gate_callee (f := 66) rfl ?_);refine goesL_ (some 23) rfl rfl Try.func66 Z310 rfl #[.int .i64 a0_1,.int .i64 a1_1] rfl Z249 ?_;(with_reducible refine (spec_AddInt.calls a0_1 a1_1 t219 true _ A4.out).mono ?_);rintro e w' ⟨rfl,⟨nd,rfl⟩⟩;refine ⟨_,rfl,?_⟩;(iterate 4 (try (rw [drewN_self wq3];generalize hq_ : World.drewN wq3 _ = wq3;have n0_ : Aside0 (wq3.heap[gb214]? = some (.cells #[.int .i64 a0_0,.int .i64 a0_1] 25 (0,0))) := ⟨Z284⟩;have n1_ : Aside0 (wq3.heap[gb215]? = some (.cells #[.int .i64 a1_0,.int .i64 a1_1] 25 (0,0))) := ⟨Z283⟩;have n2_ : Aside0 (wq3.heap[gb216]? = some (.cells #[.int .i64 0,.int .i64 0] 25 (0,0))) := ⟨Z282⟩;have n3_ : Aside0 (Below w.heap.size w wq3) := ⟨Z175⟩;clear BK214 BK215 BK216 HB hq_;have BK214 := n0_;have BK215 := n1_;have BK216 := n2_;have HB := n3_;clear n0_ n1_ n2_ n3_)));(try (obtain ⟨hczq6_0,hczq6_1,hfzq6_0,hfzq6_1⟩ := cells2 BK214.out));(try (obtain ⟨hczq8_0,hczq8_1,hfzq8_0,hfzq8_1⟩ := cells2 BK215.out));obtain ⟨hczq9_0,hczq9_1,hfzq9_0,hfzq9_1⟩ := cells2 BK216.out))
 refine bodyPost_ret (results_ct rfl _ _ gb216 25 #[.int .i64 t217,.int .i64 t219] (0,0) _ rfl (by refine bP ?_;refine blk_put (cs := #[.int .i64 t217,.int .i64 0]) ?_ 1 _ rfl;refine bP ?_;refine blk_put (cs := #[.int .i64 0,.int .i64 0]) ?_ 0 _ rfl;refine bP ?_;exact BK216.out) Try.underlying25 rfl Z310) rfl ?_
 exact ⟨Z265,Z342⟩

end Go.Proofs.Ytlflcgdcegohjaa.QFnBetter
