/- The machine side of FnGrid: what each Go function that it reaches comes to. Conditions: none. -/
import Derived.Test.YtlflcgdcegohjabQFnGridx0
import Derived.Test.YtlflcgdcegohjabQFnGridx1
namespace Go.Proofs.Ytlflcgdcegohjab.QFnGrid
open Go.RowKit Go.Proofs.YtlflcgdcegohjabW.PrintWords Go.Proofs.YtlflcgdcegohjabW.PrintLast Go.Proofs.YtlflcgdcegohjabW.PrintMore
attribute [local go_sem] max2_int min2_int max_two min_two max_three min_three max_four min_four   -- for this text's walks alone
set_option linter.unusedVariables false
set_option linter.unusedSimpArgs false

/-! ### spec_l1Whole: function 39 -/
def spec_l1Whole.l0 : Nat → Int → Int → List Int → Int → Int → Option (Int × Int × Int)
 | 0,_,_,_,_,_ => none
 | k + 1,x3,x4,x1000,x1001,x1002 => if x4 < 8 then ((spec_l1Byte.f x1000 x1001 x1002).bind fun bt230 => (spec_l1Whole.l0 k (wrap64 ((wrap64 (x3 * 256)) + bt230.1)) (wrap64 (x4 + 1)) x1000 bt230.2.1 bt230.2.2)) else (some (x3,x1001,x1002))
def spec_l1Whole.f (k : Nat) (s0_0 : List Int) (s0_1 : Int) (s0_2 : Int) : Option (Int × Int × Int) := (spec_l1Below.f s0_0 s0_1 s0_2 4).bind fun bt221 => (if bt221.1 = 0 then ((spec_l1PickInt.f s0_0 bt221.2.1 bt221.2.2 (([0,1,(-1),9,10,999,1000,2147483647,(-2147483648),3037000499,3037000500,9223372036854775807,(-9223372036854775807),(-9223372036854775808)] : List Int))).bind fun bt227 => (some (bt227.1,bt227.2.1,bt227.2.2))) else (if bt221.1 = 1 then (spec_l1Whole.l0 k 0 0 s0_0 bt221.2.1 bt221.2.2) else (if bt221.1 = 2 then ((spec_l1Below.f s0_0 bt221.2.1 bt221.2.2 1000000).bind fun bt233 => (some (wrap64 (bt233.1 - 500000),bt233.2.1,bt233.2.2))) else ((spec_l1Below.f s0_0 bt221.2.1 bt221.2.2 41).bind fun bt236 => (some (wrap64 (bt236.1 - 20),bt236.2.1,bt236.2.2))))))
theorem spec_l1Whole.mono_l : ∀ k,(∀ y0 y1 y2 y3 y4,LeO (spec_l1Whole.l0 k y0 y1 y2 y3 y4) (spec_l1Whole.l0 (k + 1) y0 y1 y2 y3 y4))
 | 0 => fun _ _ _ _ _ r h => by simp [spec_l1Whole.l0] at h
 | k + 1 => by
  have ih0 := spec_l1Whole.mono_l k
  ·intro y0 y1 y2 y3 y4
   unfold spec_l1Whole.l0
   repeat' first
   | (with_reducible exact ih0 _ _ _ _ _)
   | (with_reducible exact LeO.refl _)
   | (with_reducible exact LeO.none _)
   | (with_reducible refine LeO.ite ?_ ?_)
   | (with_reducible refine LeO.bind ?_ (fun _ => ?_))
   | exact ih0 _ _ _ _ _
   | exact LeO.none _
   | refine LeO.ite ?_ ?_
   | refine LeO.bind ?_ (fun _ => ?_)
theorem spec_l1Whole.mono : ∀ a0 a1 a2 k,LeO (spec_l1Whole.f k a0 a1 a2) (spec_l1Whole.f (k + 1) a0 a1 a2) := by
 intro a0 a1 a2 k
 have ih0 := spec_l1Whole.mono_l k
 unfold spec_l1Whole.f
 repeat' first
   | (with_reducible exact ih0 _ _ _ _ _)
   | (with_reducible exact LeO.refl _)
   | (with_reducible exact LeO.none _)
   | (with_reducible refine LeO.ite ?_ ?_)
   | (with_reducible refine LeO.bind ?_ (fun _ => ?_))
   | exact ih0 _ _ _ _ _
   | exact LeO.none _
   | refine LeO.ite ?_ ?_
   | refine LeO.bind ?_ (fun _ => ?_)
set_option maxHeartbeats 8000000 in
set_option maxRecDepth 100000 in
theorem spec_l1Whole.calls (k : Nat) (g : Nat) (s0_0 : List Int) (s0_1 : Int) (s0_2 : Int) (r1 : Int) (r2 : Int) (r3 : Int) (w0 w : World) (hI : IsS53 w0 w g s0_0 s0_1 s0_2) (hB : Below w0.heap.size w0 w) (h : spec_l1Whole.f k s0_0 s0_1 s0_2 = some (r1,r2,r3)) :
  Calls Try.prog 39 #[.pointer (some ⟨g,0,none⟩)] w fun e w' => e = .returned (.int .i64 r1) ∧ IsS53 w0 w' g s0_0 r2 r3 ∧ Below w0.heap.size w0 w' ∧ KeepBut w w' g none := by
 have HI0 := Aside0.mk hI
 have HK := Aside0.mk (KeepBut.refl w g none)
 have HL := Aside0.mk hB.size
 clear hI
 have HW0 := Aside0.mk hB.size
 have HB := Aside0.mk hB
 clear hB
 have H := h
 clear h
 unfold spec_l1Whole.f at H
 obtain ⟨⟨t221,t222,t223⟩,A20,H⟩ := Option.bind_eq_some_iff.mp H
 try dsimp only at H
 have A2 := Aside0.mk A20
 clear A20
 by_cases c3 : t221 = 0
 ·rw [if_pos c3] at H
  have c3b0 : (t221 == 0) = true := beq_iff_eq.mpr c3
  have c3b1 : (t221 != 0) = false := bne_eq_false_iff_eq.mpr c3
  clear c3
  obtain ⟨y224,hyy⟩ : ∃ y_ : List Int,y_ = (([0,1,(-1),9,10,999,1000,2147483647,(-2147483648),3037000499,3037000500,9223372036854775807,(-9223372036854775807),(-9223372036854775808)] : List Int)) := ⟨_,rfl⟩
  replace H : ((spec_l1PickInt.f s0_0 t222 t223 y224).bind fun bt227 => (some (bt227.1,bt227.2.1,bt227.2.2))) = some (r1,r2,r3) := zR
  have Ny224 := Aside0.mk hyy
  clear hyy
  obtain ⟨⟨t227,t228,t229⟩,A40,H⟩ := Option.bind_eq_some_iff.mp H
  try dsimp only at H
  have A4 := Aside0.mk A40
  clear A40
  simp only [Option.some.injEq,Prod.mk.injEq] at H
  obtain ⟨rfl,rfl,rfl⟩ := H
  go_enter Try.func39,Try.ntmps39
  go_wp2_with (first | ((with_reducible refine gate_callee (f := 37) rfl ?_);refine goesL_ (some 6) rfl rfl Try.func37 Z256 rfl #[.pointer (some ⟨g,0,none⟩),.int .i64 4] rfl Z159 ?_;(with_reducible refine (spec_l1Below.calls g s0_0 s0_1 s0_2 4 t221 t222 t223 w0 _ ?side1 ?side2 A2.out).mono ?_);(case side1 => exact Z277);(case side2 => exact Z276);rintro e wq1 ⟨rfl,hi,hb,hk⟩;refine ⟨_,rfl,?_⟩;have n_ := Z76;clear HK HB HI0;obtain ⟨HK,HB,HI0⟩ := n_;(try clear hb);(try clear hb2);(try clear hk);(try clear hi)) | ((with_reducible refine gate_dst (N := 10) rfl ?_);refine Kd.R_lit (Kd.int .i64) _ 3 ?hg (N := 10) ?hd (xs := ([0,1,(-1),9,10,999,1000,2147483647,(-2147483648),3037000499,3037000500,9223372036854775807,(-9223372036854775807),(-9223372036854775808)] : List Int)) (inner := [.int .i64 0,.int .i64 1,.int .i64 (-1),.int .i64 9,.int .i64 10,.int .i64 999,.int .i64 1000,.int .i64 2147483647,.int .i64 (-2147483648),.int .i64 3037000499,.int .i64 3037000500,.int .i64 9223372036854775807,.int .i64 (-9223372036854775807),.int .i64 (-9223372036854775808)]) (ok := fun _ => True) (okp := fun _ => True) ?hr ?hp (fun _ hk => hk) trivial (Below.refl _ _) (Nat.le_refl _) Z332 ?_;(case hd => rfl);(case hg => rfl);(case hr => exact Z231);(case hp => exact (Reps.one (show Kd.M (Kd.int .i64) _ _ _ 0 [.int .i64 0] from rfl) (Reps.one (show Kd.M (Kd.int .i64) _ _ _ 1 [.int .i64 1] from rfl) (Reps.one (show Kd.M (Kd.int .i64) _ _ _ (-1) [.int .i64 (-1)] from rfl) (Reps.one (show Kd.M (Kd.int .i64) _ _ _ 9 [.int .i64 9] from rfl) (Reps.one (show Kd.M (Kd.int .i64) _ _ _ 10 [.int .i64 10] from rfl) (Reps.one (show Kd.M (Kd.int .i64) _ _ _ 999 [.int .i64 999] from rfl) (Reps.one (show Kd.M (Kd.int .i64) _ _ _ 1000 [.int .i64 1000] from rfl) (Reps.one (show Kd.M (Kd.int .i64) _ _ _ 2147483647 [.int .i64 2147483647] from rfl) (Reps.one (show Kd.M (Kd.int .i64) _ _ _ (-2147483648) [.int .i64 (-2147483648)] from rfl) (Reps.one (show Kd.M (Kd.int .i64) _ _ _ 3037000499 [.int .i64 3037000499] from rfl) (Reps.one (show Kd.M (Kd.int .i64) _ _ _ 3037000500 [.int .i64 3037000500] from rfl) (Reps.one (show Kd.M (Kd.int .i64) _ _ _ 9223372036854775807 [.int .i64 9223372036854775807] from rfl) (Reps.one (show Kd.M (Kd.int .i64) _ _ _ (-9223372036854775807) [.int .i64 (-9223372036854775807)] from rfl) (Reps.one (show Kd.M (Kd.int .i64) _ _ _ (-9223372036854775808) [.int .i64 (-9223372036854775808)] from rfl) (Reps.none _ _))))))))))))))));intro vq2 wq3 hoq4 hb hg_ hnew_;clear hg_ hnew_;(first | rw [← Ny224.out] at hoq4 | (simp only [Int.reduceToNat] at hoq4;rw [← Ny224.out] at hoq4));have n_ := Z12;clear HI0 HK HB;obtain ⟨HO226,HI0,HK,HB⟩ := n_;clear hb hoq4;obtain ⟨Aoq5,coq5,eoq5⟩ := Kd.R_slice HO226.out;subst eoq5) | ((with_reducible refine gate_callee (f := 16) rfl ?_);refine goesL_ (some 11) rfl rfl Try.func16 Z256 rfl #[.pointer (some ⟨g,0,none⟩),.slice Aoq5 y224.length coq5] rfl Z159 ?_;(with_reducible refine (spec_l1PickInt.calls g s0_0 t222 t223 _ _ y224 t227 t228 t229 w0 _ ?side1 ?side2 ?side3 ?side4 ?side5 A4.out).mono ?_);(case side1 => exact Z277);(case side2 => exact Z276);(case side3 => repeat (first | exact (Kd.R_reads' HO226.out).2.2 | (with_reducible refine Kd.C_alloc ?_ _) | (with_reducible refine Kd.C_drewN ?_ _) | (with_reducible refine Kd.C_drew ?_)));(case side4 => exact (Kd.R_reads' HO226.out).2.1);(case side5 => exact far_slice (IsS53.own_ne HI0.out HO226.out Z330));rintro e wq6 ⟨rfl,hi,hb,hk⟩;refine ⟨_,rfl,?_⟩;have n_ := jA (Kd.R_mono (Kd.R_keep (IsS53.apart (show IsS53 w0 _ g s0_0 t222 t223 from Z277) (by (with_reducible repeat (first | apply Kd.R_alloc | apply Kd.R_drewN | apply Kd.R_drew));exact HO226.out) Z330) hk (fun _ h => h.2)) (fun _ h => h.1)) (jA (KeepBut.trans Z288 hk (.inl rfl)) (jA (hb) (Aside0.mk (hi))));clear HO226 HK HB HI0;obtain ⟨HO226,HK,HB,HI0⟩ := n_;(try clear hb);(try clear hb2);(try clear hk);(try clear hi)))
  go_ret
  exact ⟨Z212,Z277,Z276,Z288⟩
 rw [if_neg c3] at H
 have c3b0 : (t221 == 0) = false := beq_eq_false_iff_ne.mpr c3
 have c3b1 : (t221 != 0) = true := bne_iff_ne.mpr c3
 by_cases c10 : t221 = 1
 ·rw [if_pos c10] at H
  have c10b0 : (t221 == 1) = true := beq_iff_eq.mpr c10
  have c10b1 : (t221 != 1) = false := bne_eq_false_iff_eq.mpr c10
  clear c10
  have H' := Aside0.mk H
  clear H
  go_enter Try.func39,Try.ntmps39
  go_wp2_with (first | ((with_reducible refine gate_callee (f := 37) rfl ?_);refine goesL_ (some 6) rfl rfl Try.func37 Z256 rfl #[.pointer (some ⟨g,0,none⟩),.int .i64 4] rfl Z159 ?_;(with_reducible refine (spec_l1Below.calls g s0_0 s0_1 s0_2 4 t221 t222 t223 w0 _ ?side1 ?side2 A2.out).mono ?_);(case side1 => exact Z277);(case side2 => exact Z276);rintro e w11 ⟨rfl,hi,hb,hk⟩;refine ⟨_,rfl,?_⟩;have n_ := Z76;clear HK HB HI0;obtain ⟨HK,HB,HI0⟩ := n_;(try clear hb);(try clear hb2);(try clear hk);(try clear hi)))
  go_loopg [3,4] k (fun kq v3 v4 w' => ∃ (x3_1 : Int) (x4_1 : Int) (x1001_1 : Int) (x1002_1 : Int),v3 = .int .i64 x3_1 ∧ v4 = .int .i64 x4_1 ∧ Aside0 (spec_l1Whole.l0 kq x3_1 x4_1 s0_0 x1001_1 x1002_1 = some (r1,r2,r3)) ∧ Aside0 (kq ≤ k) ∧ Aside0 (IsS53 w0 w' g s0_0 x1001_1 x1002_1) ∧ Aside0 (KeepBut w w' g none) ∧ Aside0 (Below w0.heap.size w0 w'))
  case atStart => exact ⟨(0),(0),(t222),(t223),Z230,Z230,H',⟨Nat.le_refl _⟩,⟨Z277⟩,⟨Z288⟩,⟨Z276⟩⟩
  case round =>
   clear H'
   try clear c1
   try clear p2
   try clear c3
   try clear c3b0
   try clear c3b1
   try clear p6
   try clear c10
   try clear c10b0
   try clear c10b1
   obtain ⟨x3_1,x4_1,x1001_1,x1002_1,rfl,rfl,HA,HK1,HI0,HK,HB⟩ := hrel
   cases gk with
   | zero => exact absurd HA.out (by simp [spec_l1Whole.l0])
   | succ k1 =>
    have H := HA.out
    clear HA
    simp only [spec_l1Whole.l0] at H
    by_cases c12 : x4_1 < 8
    rotate_left
    ·rw [if_neg c12] at H
     have c12b0 : decide (x4_1 < 8) = false := decide_eq_false c12
     clear c12
     simp only [Option.some.injEq,Prod.mk.injEq] at H
     obtain ⟨rfl,rfl,rfl⟩ := H
     go_wp2
     go_ret
     exact ⟨Z212,Z277,Z276,Z288⟩
    rw [if_pos c12] at H
    have c12b0 : decide (x4_1 < 8) = true := decide_eq_true c12
    clear c12
    obtain ⟨⟨t230,t231,t232⟩,A130,H⟩ := Option.bind_eq_some_iff.mp H
    try dsimp only at H
    have A13 := Aside0.mk A130
    clear A130
    have H' := Aside0.mk H
    clear H
    go_wp2_with (first | ((with_reducible refine gate_callee (f := 56) rfl ?_);refine goesL_ (some 21) rfl rfl Try.func56 Z256 rfl #[.pointer (some ⟨g,0,none⟩)] rfl Z159 ?_;(with_reducible refine (spec_l1Byte.calls g s0_0 x1001_1 x1002_1 t230 t231 t232 w0 _ ?side1 ?side2 A13.out).mono ?_);(case side1 => exact Z277);(case side2 => exact Z276);rintro e w14 ⟨rfl,hi,hb,hk⟩;refine ⟨_,rfl,?_⟩;have n_ := Z76;clear HK HB HI0;obtain ⟨HK,HB,HI0⟩ := n_;(try clear hb);(try clear hb2);(try clear hk);(try clear hi)))
    go_roundg k1
    case measure => have := HK1.out;omega
    case rel => exact ⟨(wrap64 ((wrap64 (x3_1 * 256)) + t230)),(wrap64 (x4_1 + 1)),(t231),(t232),Z230,Z230,H',⟨Z251⟩,⟨Z277⟩,⟨Z288⟩,⟨Z276⟩⟩
 rw [if_neg c10] at H
 have c10b0 : (t221 == 1) = false := beq_eq_false_iff_ne.mpr c10
 have c10b1 : (t221 != 1) = true := bne_iff_ne.mpr c10
 by_cases c15 : t221 = 2
 rotate_left
 ·rw [if_neg c15] at H
  have c15b0 : (t221 == 2) = false := beq_eq_false_iff_ne.mpr c15
  have c15b1 : (t221 != 2) = true := bne_iff_ne.mpr c15
  obtain ⟨⟨t236,t237,t238⟩,A190,H⟩ := Option.bind_eq_some_iff.mp H
  try dsimp only at H
  have A19 := Aside0.mk A190
  clear A190
  simp only [Option.some.injEq,Prod.mk.injEq] at H
  obtain ⟨rfl,rfl,rfl⟩ := H
  go_enter Try.func39,Try.ntmps39
  go_wp2_with (first | ((with_reducible refine gate_callee (f := 37) rfl ?_);refine goesL_ (some 6) rfl rfl Try.func37 Z256 rfl #[.pointer (some ⟨g,0,none⟩),.int .i64 4] rfl Z159 ?_;(with_reducible refine (spec_l1Below.calls g s0_0 s0_1 s0_2 4 t221 t222 t223 w0 _ ?side1 ?side2 A2.out).mono ?_);(case side1 => exact Z277);(case side2 => exact Z276);rintro e wq1 ⟨rfl,hi,hb,hk⟩;refine ⟨_,rfl,?_⟩;have n_ := Z76;clear HK HB HI0;obtain ⟨HK,HB,HI0⟩ := n_;(try clear hb);(try clear hb2);(try clear hk);(try clear hi)) | ((with_reducible refine gate_callee (f := 37) rfl ?_);refine goesL_ (some 30) rfl rfl Try.func37 Z256 rfl #[.pointer (some ⟨g,0,none⟩),.int .i64 41] rfl Z159 ?_;(with_reducible refine (spec_l1Below.calls g s0_0 t222 t223 41 t236 t237 t238 w0 _ ?side1 ?side2 A19.out).mono ?_);(case side1 => exact Z277);(case side2 => exact Z276);rintro e wq2 ⟨rfl,hi,hb,hk⟩;refine ⟨_,rfl,?_⟩;have n_ := Z76;clear HK HB HI0;obtain ⟨HK,HB,HI0⟩ := n_;(try clear hb);(try clear hb2);(try clear hk);(try clear hi)))
  go_ret
  exact ⟨Z212,Z277,Z276,Z288⟩
 rw [if_pos c15] at H
 have c15b0 : (t221 == 2) = true := beq_iff_eq.mpr c15
 have c15b1 : (t221 != 2) = false := bne_eq_false_iff_eq.mpr c15
 clear c15
 obtain ⟨⟨t233,t234,t235⟩,A160,H⟩ := Option.bind_eq_some_iff.mp H
 try dsimp only at H
 have A16 := Aside0.mk A160
 clear A160
 simp only [Option.some.injEq,Prod.mk.injEq] at H
 obtain ⟨rfl,rfl,rfl⟩ := H
 go_enter Try.func39,Try.ntmps39
 go_wp2_with (first | ((with_reducible refine gate_callee (f := 37) rfl ?_);refine goesL_ (some 6) rfl rfl Try.func37 Z256 rfl #[.pointer (some ⟨g,0,none⟩),.int .i64 4] rfl Z159 ?_;(with_reducible refine (spec_l1Below.calls g s0_0 s0_1 s0_2 4 t221 t222 t223 w0 _ ?side1 ?side2 A2.out).mono ?_);(case side1 => exact Z277);(case side2 => exact Z276);rintro e wq1 ⟨rfl,hi,hb,hk⟩;refine ⟨_,rfl,?_⟩;have n_ := Z76;clear HK HB HI0;obtain ⟨HK,HB,HI0⟩ := n_;(try clear hb);(try clear hb2);(try clear hk);(try clear hi)) | ((with_reducible refine gate_callee (f := 37) rfl ?_);refine goesL_ (some 27) rfl rfl Try.func37 Z256 rfl #[.pointer (some ⟨g,0,none⟩),.int .i64 1000000] rfl Z159 ?_;(with_reducible refine (spec_l1Below.calls g s0_0 t222 t223 1000000 t233 t234 t235 w0 _ ?side1 ?side2 A16.out).mono ?_);(case side1 => exact Z277);(case side2 => exact Z276);rintro e wq2 ⟨rfl,hi,hb,hk⟩;refine ⟨_,rfl,?_⟩;have n_ := Z76;clear HK HB HI0;obtain ⟨HK,HB,HI0⟩ := n_;(try clear hb);(try clear hb2);(try clear hk);(try clear hi)))
 go_ret
 exact ⟨Z212,Z277,Z276,Z288⟩

end Go.Proofs.Ytlflcgdcegohjab.QFnGrid
