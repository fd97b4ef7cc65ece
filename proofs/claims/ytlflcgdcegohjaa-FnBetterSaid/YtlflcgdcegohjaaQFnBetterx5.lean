/- The machine side of FnBetter: what each Go function that it reaches comes to. Conditions: none. -/
import Derived.Test.YtlflcgdcegohjaaQFnBetterx0
import Derived.Test.YtlflcgdcegohjaaQFnBetterx1
import Derived.Test.YtlflcgdcegohjaaQFnBetterx2
import Derived.Test.YtlflcgdcegohjaaQFnBetterx4
namespace Go.Proofs.Ytlflcgdcegohjaa.QFnBetter
open Go.RowKit Go.Proofs.YtlflcgdcegohjaaW.PrintWords Go.Proofs.YtlflcgdcegohjaaW.PrintLast Go.Proofs.YtlflcgdcegohjaaW.PrintMore
attribute [local go_sem] max2_int min2_int max_two min_two max_three min_three max_four min_four   -- for this text's walks alone
set_option linter.unusedVariables false
set_option linter.unusedSimpArgs false

/-! ### spec_l16Cands: function 9 -/
mutual
def spec_l16Cands.l0 : Nat → List (List (S25)) → Int → Int → List Int → Int → Int → Option ((List (S27)) × Int × Int)
 | 0,_,_,_,_,_,_ => none
 | k + 1,x3,x4,x5,x1000,x1001,x1002 => if x5 < x4 then ((spec_l13Hist.f k x1000 x1001 x1002).bind fun bt269 => (if x3.length < 5864062014805 then (spec_l16Cands.l0 k (x3 ++ [bt269.1]) x4 (wrap64 (x5 + 1)) x1000 bt269.2.1 bt269.2.2) else (none))) else ((spec_l1Once.f x1000 x1001 x1002 3).bind fun bt277 => (if bt277.1 = true then (if 0 < (x3.length : Int) then (if x3.length < 5864062014805 then (spec_l16Cands.j1 k (x3 ++ [rd_L3 x3 0]) x1000 bt277.2.1 bt277.2.2) else (none)) else (none)) else (spec_l16Cands.j1 k x3 x1000 bt277.2.1 bt277.2.2)))
def spec_l16Cands.j1 : Nat → List (List (S25)) → List Int → Int → Int → Option ((List (S27)) × Int × Int)
 | 0,_,_,_,_ => none
 | k + 1,x3,x1000,x1001,x1002 => (spec_CandsOf.f k x3 1).bind fun t284 => ((spec_l1Once.f x1000 x1001 x1002 4).bind fun bt287 => (if bt287.1 = true then ((spec_l15Cand.f k x1000 bt287.2.1 bt287.2.2).bind fun bt290 => (if t284.length < 2932031007402 then ((some (t284 ++ [(⟨bt290.1,bt290.2.1,(⟨bt290.2.2.1,bt290.2.2.2.1⟩ : S25),(⟨bt290.2.2.2.2.1,bt290.2.2.2.2.2.1⟩ : S25)⟩ : S27)] : List (S27))).bind fun y298 => (if (y298.length : Int) > 1 then ((spec_l1Once.f x1000 bt290.2.2.2.2.2.2.1 bt290.2.2.2.2.2.2.2 3).bind fun bt301 => (if bt301.1 = true then (if 1 ≤ (y298.length : Int) then ((some (y298.drop 1 : List (S27))).bind fun y304 => (if 0 < (y298.length : Int) then (if y304.length < 2932031007402 then (some ((y304 ++ [(⟨(rd_T27 y298 0).f0,(rd_T27 y298 0).f1,(⟨(rd_T27 y298 0).f2.f0,(rd_T27 y298 0).f2.f1⟩ : S25),(⟨(rd_T27 y298 0).f3.f0,(rd_T27 y298 0).f3.f1⟩ : S25)⟩ : S27)]),bt301.2.1,bt301.2.2)) else (none)) else (none))) else (none)) else (some (y298,bt301.2.1,bt301.2.2)))) else (some (y298,bt290.2.2.2.2.2.2.1,bt290.2.2.2.2.2.2.2)))) else (none))) else (if (t284.length : Int) > 1 then ((spec_l1Once.f x1000 bt287.2.1 bt287.2.2 3).bind fun bt314 => (if bt314.1 = true then (if 1 ≤ (t284.length : Int) then ((some (t284.drop 1 : List (S27))).bind fun y317 => (if 0 < (t284.length : Int) then (if y317.length < 2932031007402 then (some ((y317 ++ [(⟨(rd_T27 t284 0).f0,(rd_T27 t284 0).f1,(⟨(rd_T27 t284 0).f2.f0,(rd_T27 t284 0).f2.f1⟩ : S25),(⟨(rd_T27 t284 0).f3.f0,(rd_T27 t284 0).f3.f1⟩ : S25)⟩ : S27)]),bt314.2.1,bt314.2.2)) else (none)) else (none))) else (none)) else (some (t284,bt314.2.1,bt314.2.2)))) else (some (t284,bt287.2.1,bt287.2.2)))))
end
def spec_l16Cands.f (k : Nat) (s0_0 : List Int) (s0_1 : Int) (s0_2 : Int) : Option ((List (S27)) × Int × Int) := (spec_l1Below.f s0_0 s0_1 s0_2 3).bind fun bt266 => (spec_l16Cands.l0 k (([] : List (List (S25)))) (wrap64 (1 + bt266.1)) 0 s0_0 bt266.2.1 bt266.2.2)
theorem spec_l16Cands.mono_l : ∀ k,(∀ y0 y1 y2 y3 y4 y5,LeO (spec_l16Cands.l0 k y0 y1 y2 y3 y4 y5) (spec_l16Cands.l0 (k + 1) y0 y1 y2 y3 y4 y5)) ∧ (∀ y0 y1 y2 y3,LeO (spec_l16Cands.j1 k y0 y1 y2 y3) (spec_l16Cands.j1 (k + 1) y0 y1 y2 y3))
 | 0 => ⟨fun _ _ _ _ _ _ r h => by simp [spec_l16Cands.l0] at h,fun _ _ _ _ r h => by simp [spec_l16Cands.j1] at h⟩
 | k + 1 => by
  obtain ⟨ih0,ih1⟩ := spec_l16Cands.mono_l k
  refine ⟨?_,?_⟩
  ·intro y0 y1 y2 y3 y4 y5
   unfold spec_l16Cands.l0
   repeat' first
   | (with_reducible exact ih0 _ _ _ _ _ _)
   | (with_reducible exact ih1 _ _ _ _)
   | (with_reducible exact spec_CandsOf.mono _ _ _)
   | (with_reducible exact spec_l13Hist.mono _ _ _ _)
   | (with_reducible exact spec_l15Cand.mono _ _ _ _)
   | (with_reducible exact LeO.refl _)
   | (with_reducible exact LeO.none _)
   | (with_reducible refine LeO.ite ?_ ?_)
   | (with_reducible refine LeO.bind ?_ (fun _ => ?_))
   | exact ih0 _ _ _ _ _ _
   | exact ih1 _ _ _ _
   | exact spec_CandsOf.mono _ _ _
   | exact spec_l13Hist.mono _ _ _ _
   | exact spec_l15Cand.mono _ _ _ _
   | exact LeO.none _
   | refine LeO.ite ?_ ?_
   | refine LeO.bind ?_ (fun _ => ?_)
  ·intro y0 y1 y2 y3
   unfold spec_l16Cands.j1
   repeat' first
   | (with_reducible exact ih0 _ _ _ _ _ _)
   | (with_reducible exact ih1 _ _ _ _)
   | (with_reducible exact spec_CandsOf.mono _ _ _)
   | (with_reducible exact spec_l13Hist.mono _ _ _ _)
   | (with_reducible exact spec_l15Cand.mono _ _ _ _)
   | (with_reducible exact LeO.refl _)
   | (with_reducible exact LeO.none _)
   | (with_reducible refine LeO.ite ?_ ?_)
   | (with_reducible refine LeO.bind ?_ (fun _ => ?_))
   | exact ih0 _ _ _ _ _ _
   | exact ih1 _ _ _ _
   | exact spec_CandsOf.mono _ _ _
   | exact spec_l13Hist.mono _ _ _ _
   | exact spec_l15Cand.mono _ _ _ _
   | exact LeO.none _
   | refine LeO.ite ?_ ?_
   | refine LeO.bind ?_ (fun _ => ?_)
theorem spec_l16Cands.mono : ∀ a0 a1 a2 k,LeO (spec_l16Cands.f k a0 a1 a2) (spec_l16Cands.f (k + 1) a0 a1 a2) := by
 intro a0 a1 a2 k
 obtain ⟨ih0,ih1⟩ := spec_l16Cands.mono_l k
 unfold spec_l16Cands.f
 repeat' first
   | (with_reducible exact ih0 _ _ _ _ _ _)
   | (with_reducible exact ih1 _ _ _ _)
   | (with_reducible exact spec_CandsOf.mono _ _ _)
   | (with_reducible exact spec_l13Hist.mono _ _ _ _)
   | (with_reducible exact spec_l15Cand.mono _ _ _ _)
   | (with_reducible exact LeO.refl _)
   | (with_reducible exact LeO.none _)
   | (with_reducible refine LeO.ite ?_ ?_)
   | (with_reducible refine LeO.bind ?_ (fun _ => ?_))
   | exact ih0 _ _ _ _ _ _
   | exact ih1 _ _ _ _
   | exact spec_CandsOf.mono _ _ _
   | exact spec_l13Hist.mono _ _ _ _
   | exact spec_l15Cand.mono _ _ _ _
   | exact LeO.none _
   | refine LeO.ite ?_ ?_
   | refine LeO.bind ?_ (fun _ => ?_)
def spec_l16Cands.T13 : Bool × List (List Nat × List Nat) := (true,[([],[]),([0],[0]),([],[]),([2],[2]),([3],[3]),([4],[4]),([1,5],[1,5]),([6,6,0,1,2,3,4,5,6],[0,2,6])])
def spec_l16Cands.B13 : List Nat := [0,1,0,4,12,28,63,127]
theorem spec_l16Cands.tab13 : rtab .any (opsOf Try.f9 13) = spec_l16Cands.T13 := by kernel_rfl
theorem spec_l16Cands.bits13 : waitsOk spec_l16Cands.T13.2 spec_l16Cands.B13 = true := by kernel_rfl
set_option maxHeartbeats 8000000 in
set_option maxRecDepth 100000 in
theorem spec_l16Cands.calls (k : Nat) (g : Nat) (s0_0 : List Int) (s0_1 : Int) (s0_2 : Int) (r1 : List (S27)) (r2 : Int) (r3 : Int) (w0 w : World) (hI : IsS48 w0 w g s0_0 s0_1 s0_2) (hB : Below w0.heap.size w0 w) (h : spec_l16Cands.f k s0_0 s0_1 s0_2 = some (r1,r2,r3)) :
  Calls Try.prog 9 #[.pointer (some ⟨g,0,none⟩)] w fun e w' => ∃ v0_ : Value,e = .returned (v0_) ∧ Kd.Q k27 27 w' w.heap.size (fun _ => True) v0_ r1 ∧ IsS48 w0 w' g s0_0 r2 r3 ∧ Below w0.heap.size w0 w' ∧ KeepBut w w' g none := by
 have hu27 := Try.underlying27
 have HI0 := Aside0.mk hI
 have HK := Aside0.mk (KeepBut.refl w g none)
 have HL := Aside0.mk hB.size
 clear hI
 have HW0 := Aside0.mk hB.size
 have HB := Aside0.mk hB
 clear hB
 have H := h
 clear h
 unfold spec_l16Cands.f at H
 obtain ⟨y263,hy263⟩ : ∃ y_ : List (List (S25)),y_ = (([] : List (List (S25)))) := ⟨_,rfl⟩
 replace H : ((spec_l1Below.f s0_0 s0_1 s0_2 3).bind fun bt266 => (spec_l16Cands.l0 k y263 (wrap64 (1 + bt266.1)) 0 s0_0 bt266.2.1 bt266.2.2)) = some (r1,r2,r3) := by first | (rw [hy263];with_reducible exact H) | (have H2_ := (Option.bind_some _ _).symm.trans H;rw [hy263];with_reducible exact H2_) | (have H2_ := (Option.bind_some _ _).symm.trans H;with_reducible exact H2_) | with_reducible exact H | (rw [hy263];exact H) | exact H
 have Ny263 := Aside0.mk hy263
 clear hy263
 obtain ⟨⟨t266,t267,t268⟩,A20,H⟩ := Option.bind_eq_some_iff.mp H
 try dsimp only at H
 have A2 := Aside0.mk A20
 clear A20
 have H' := Aside0.mk H
 clear H
 go_enter Try.func9,Try.ntmps9
 go_wp2_with (first | ((with_reducible refine gate_dst (N := 7) rfl ?_);refine Kd.N_lit (Kd.slice 25 k25) _ 50 ?hg (N' := 7) ?hd (xs := ([] : List (List (S25)))) (inner := []) (ok := (fun k_ => k_ ≠ g)) (okp := (fun k_ => k_ ≠ g)) ?hr ?hp (fun _ hk => hk) ((show ∀ k_,w.heap.size ≤ k_ → (fun k_ => k_ ≠ g) k_ from fun k_ hk => IsS48.fresh Z399 k_ hk) _ (Nat.le_refl _)) (Below.refl _ _) (Nat.le_refl _) Z524 ?_;(case hd => rfl);(case hg => rfl);(case hr => exact Z295);(case hp => exact Z308);intro v264 w3 ho4 hb hg_ hnew_;clear hg_ hnew_;(first | rw [← Ny263.out] at ho4 | (simp only [Int.reduceToNat] at ho4;rw [← Ny263.out] at ho4));have n_ := jA (Kd.N_lower ho4 (keep_size (w := w) (g := g) (row := none) Z573)) (jA (IsS48.below Z399 hb) (jA (KeepBut.trans Z573 (KeepBut.of_below hb g none) (.inl rfl)) (Aside0.mk (below_step Z398 hb))));clear HI0 HK HB;obtain ⟨HO265,HI0,HK,HB⟩ := n_;clear hb ho4) | ((with_reducible refine gate_callee (f := 10) rfl ?_);refine goesL_ (some 9) rfl rfl Try.func10 Z310 rfl #[.pointer (some ⟨g,0,none⟩),.int .i64 3] rfl Z249 ?_;(with_reducible refine (spec_l1Below.calls g s0_0 s0_1 s0_2 3 t266 t267 t268 w0 _ ?side1 ?side2 A2.out).mono ?_);(case side1 => exact Z399);(case side2 => exact Z398);rintro e w5 ⟨rfl,hi,hb,hk⟩;refine ⟨_,rfl,?_⟩;have n_ := jA (Kd.N_mono (Kd.N_keep (Kd.N_mono (ok := fun k_ => k_ ≠ g) Z263 (fun k_ hk_ => (⟨hk_,hk_⟩ : _ ∧ k_ ≠ g))) hk (fun _ h => h.2)) (fun _ h => h.1)) (jA (KeepBut.trans Z573 hk (.inl rfl)) (jA (hb) (Aside0.mk (hi))));clear HO265 HK HB HI0;obtain ⟨HO265,HK,HB,HI0⟩ := n_;(try clear hb);(try clear hb2);(try clear hk);(try clear hi)))
 go_loopg [3,5] k (fun kq v3 v5 w' => ∃ (x3_1 : List (List (S25))) (x5_1 : Int) (x1001_1 : Int) (x1002_1 : Int),v5 = .int .i64 x5_1 ∧ Aside0 (spec_l16Cands.l0 kq x3_1 (wrap64 (1 + t266)) x5_1 s0_0 x1001_1 x1002_1 = some (r1,r2,r3)) ∧ Aside0 (kq ≤ k) ∧ Aside0 (Kd.N (Kd.slice 25 k25) 50 w' w.heap.size (fun k_ => k_ ≠ g) v3 x3_1) ∧ Aside0 (IsS48 w0 w' g s0_0 x1001_1 x1002_1) ∧ Aside0 (KeepBut w w' g none) ∧ Aside0 (Below w0.heap.size w0 w'))
 case atStart => exact ⟨(y263),(0),(t267),(t268),Z294,H',⟨Nat.le_refl _⟩,⟨Z263⟩,⟨Z399⟩,⟨Z573⟩,⟨Z398⟩⟩
 case round =>
  clear H'
  try clear c1
  try clear p2
  obtain ⟨x3_1,x5_1,x1001_1,x1002_1,rfl,HA,HK1,HO_3,HI0,HK,HB⟩ := hrel
  cases gk with
  | zero => exact absurd HA.out (by simp [spec_l16Cands.l0])
  | succ k1 =>
   have H := HA.out
   clear HA
   simp only [spec_l16Cands.l0] at H
   by_cases c6 : x5_1 < (wrap64 (1 + t266))
   ·rw [if_pos c6] at H
    have c6b0 : decide (x5_1 < (wrap64 (1 + t266))) = true := decide_eq_true c6
    clear c6
    obtain ⟨⟨t269,t272,t273⟩,A70,H⟩ := Option.bind_eq_some_iff.mp H
    try dsimp only at H
    have A7 := Aside0.mk A70
    clear A70
    obtain ⟨c8,H⟩ := ifp H
    have LMc8 := Aside0.mk c8
    clear c8
    obtain ⟨y274,hy274⟩ : ∃ y_ : List (List (S25)),y_ = (x3_1 ++ [t269]) := ⟨_,rfl⟩
    replace H : (spec_l16Cands.l0 k1 y274 (wrap64 (1 + t266)) (wrap64 (x5_1 + 1)) s0_0 t272 t273) = some (r1,r2,r3) := by first | (rw [hy274];with_reducible exact H) | (have H2_ := (Option.bind_some _ _).symm.trans H;rw [hy274];with_reducible exact H2_) | (have H2_ := (Option.bind_some _ _).symm.trans H;with_reducible exact H2_) | with_reducible exact H | (rw [hy274];exact H) | exact H
    have Ny274 := Aside0.mk hy274
    clear hy274
    have H' := Aside0.mk H
    clear H
    go_wp2_with (first | ((with_reducible refine gate_callee (f := 18) rfl ?_);refine goesL_ (some 18) rfl rfl Try.func18 Z310 rfl #[.pointer (some ⟨g,0,none⟩)] rfl Z249 ?_;(with_reducible refine (spec_l13Hist.calls k1 g s0_0 x1001_1 x1002_1 t269 t272 t273 w0 _ ?side1 ?side2 A7.out).mono ?_);(case side1 => exact Z399);(case side2 => exact Z398);rintro e w9 ⟨v270,rfl,ho0,hi,hb,hk⟩;refine ⟨_,rfl,?_⟩;have n_ := jA (Kd.N_mono (Kd.N_told (Kd.N_oldK (Kd.N_mono (ok := fun k_ => k_ ≠ g) Z484 (fun k_ hk_ => (⟨hk_,hk_⟩ : _ ∧ k_ ≠ g))) hk) (Kd.R_base ho0)) (fun _ h_ => h_.1)) (jA (Kd.R_lower ho0 (keep_size (w := w) (g := g) (row := none) Z573)) (jA (KeepBut.trans Z573 hk (.inl rfl)) (jA (hb) (Aside0.mk (hi)))));clear HO_3 HK HB HI0;obtain ⟨HO_3,HO271,HK,HB,HI0⟩ := n_;(try clear hb);(try clear hb2);(try clear hk);(try clear hi);(try clear ho0);obtain ⟨Ao11,co11,eo11⟩ := Kd.R_slice HO271.out;subst eo11) | ((with_reducible refine gate_builtin (b := .append) (xs := #[.tmp 16,.tmp 19]) rfl ?_);at_builtin;refine Kd.N_append (Kd.slice 25 k25) w.heap.size rfl (.tmp 16) (.tmp 19) 49 50 (.slice none 0 0) 24 rfl Try.underlying49 info50 rfl Z522 Z523 u3 x3_1 t269 [.slice Ao11 t269.length co11] (fun k_ => k_ ≠ g) (fun k_ => ((fun k_ => k_ ≠ g)) k_ ∧ some k_ ≠ (u3 : Value).ownBlock) rfl rfl ?aP (fun _ hk => hk) ?aF ?aO (Below.refl _ _) ?aS ?aL ?_;(case aP => exact (Kd.FK_slice_mk (Kd.R_reads' (Kd.R_mono (ok' := (fun k_ => ((fun k_ => k_ ≠ g)) k_ ∧ some k_ ≠ (u3 : Value).ownBlock)) (IsS48.apart HI0.out (Kd.R_apart' (HO271.out) (Kd.N_typed HO_3.out) Z522) Z522) (fun k_ hk => ⟨hk.2,hk.1.2⟩))).2.1 (Kd.R_F (Kd.R_mono (ok' := (fun k_ => ((fun k_ => k_ ≠ g)) k_ ∧ some k_ ≠ (u3 : Value).ownBlock)) (IsS48.apart HI0.out (Kd.R_apart' (HO271.out) (Kd.N_typed HO_3.out) Z522) Z522) (fun k_ hk => ⟨hk.2,hk.1.2⟩)))));(case aF => exact Z193);(case aO => exact (by (with_reducible repeat (first | apply Kd.N_alloc | apply Kd.N_drewN | apply Kd.N_drew));exact Kd.N_mono HO_3.out (fun _ hk => hk.1)));(case aS => exact Z196);(case aL => have := LMc8.out;omega);intro v275 w10 ho hb hg hat;rw [← Ny274.out] at ho;have n_ := jA (IsS48.grown Z399 hg (IsS48.own_neN HI0.out HO_3.out Z522)) (jA (below_weaken Z398 HL.out hb) (jA (KeepBut.trans Z573 (KeepBut.of_grown hg g) (Kd.N_base2 HO_3.out)) (Aside0.mk (ho))));clear HI0 HB HK HO_3 HO271;obtain ⟨HI0,HB,HK,HO276⟩ := n_;clear ho hb hg hat))
    go_roundg k1
    case measure => have := HK1.out;omega
    case rel => exact ⟨(y274),(wrap64 (x5_1 + 1)),(t272),(t273),Z294,H',⟨Z309⟩,⟨by (with_reducible repeat (first | apply Kd.N_alloc | apply Kd.N_drewN | apply Kd.N_drew));exact HO276.out⟩,⟨Z399⟩,⟨Z573⟩,⟨Z398⟩⟩
   rw [if_neg c6] at H
   have c6b0 : decide (x5_1 < (wrap64 (1 + t266))) = false := decide_eq_false c6
   clear c6
   obtain ⟨⟨t277,t278,t279⟩,A120,H⟩ := Option.bind_eq_some_iff.mp H
   try dsimp only at H
   have A12 := Aside0.mk A120
   clear A120
   have HC13 := Aside0.mk H
   clear H
   go_upto_if 22 with (first | ((with_reducible refine gate_callee (f := 19) rfl ?_);refine goesL_ (some 22) rfl rfl Try.func19 Z310 rfl #[.pointer (some ⟨g,0,none⟩),.int .i64 3] rfl Z249 ?_;(with_reducible refine (spec_l1Once.calls g s0_0 x1001_1 x1002_1 3 t277 t278 t279 w0 _ ?side1 ?side2 A12.out).mono ?_);(case side1 => exact Z399);(case side2 => exact Z398);rintro e w14 ⟨rfl,hi,hb,hk⟩;refine ⟨_,rfl,?_⟩;have n_ := jA (Kd.N_mono (Kd.N_keep (Kd.N_mono (ok := fun k_ => k_ ≠ g) Z484 (fun k_ hk_ => (⟨hk_,hk_⟩ : _ ∧ k_ ≠ g))) hk (fun _ h => h.2)) (fun _ h => h.1)) (jA (KeepBut.trans Z573 hk (.inl rfl)) (jA (hb) (Aside0.mk (hi))));clear HO_3 HK HB HI0;obtain ⟨HO_3,HK,HB,HI0⟩ := n_;(try clear hb);(try clear hb2);(try clear hk);(try clear hi)))
   (try simp only [Act.put,List.setIfInBounds_toArray,List.set_cons_zero,List.set_cons_succ])
   go_cut [3] (fun v3 wc => ∃ (kq : Nat) (x3_12 : List (List (S25))),Aside0 (spec_l16Cands.j1 kq x3_12 s0_0 t278 t279 = some (r1,r2,r3)) ∧ Aside0 (kq ≤ k1) ∧ Aside0 (Kd.N (Kd.slice 25 k25) 50 wc w.heap.size (fun k_ => k_ ≠ g) v3 x3_12) ∧ Aside0 (IsS48 w0 wc g s0_0 t278 t279) ∧ Aside0 (KeepBut w wc g none) ∧ Aside0 (Below w0.heap.size w0 wc))
   case first =>
    have H := HC13.out
    clear HC13
    by_cases c15 : t277 = true
    rotate_left
    ·replace c15 := Bool.eq_false_iff.mpr c15
     subst c15
     rw [if_neg Bool.false_ne_true] at H
     have H' := Aside0.mk H
     clear H
     go_wp2
     go_meet
     case rel => exact ⟨_,(x3_1),H',⟨Z290⟩,⟨Z484⟩,⟨Z399⟩,⟨Z573⟩,⟨Z398⟩⟩
    subst c15
    rw [if_pos rfl] at H
    obtain ⟨c16,H⟩ := ifp H
    have c16b0 : decide (0 < (x3_1.length : Int)) = true := decide_eq_true c16
    have c16b1 : decide (0 < x3_1.length) = true := decide_eq_true Z523
    clear c16
    (first | rw [c16b0] | (simp only [i64_w,i32_w];rw [c16b0]) | skip)
    obtain ⟨c17,H⟩ := ifp H
    have LMc17 := Aside0.mk c17
    clear c17
    obtain ⟨y281,hy281⟩ : ∃ y_ : List (List (S25)),y_ = (x3_1 ++ [rd_L3 x3_1 0]) := ⟨_,rfl⟩
    replace H : (spec_l16Cands.j1 k1 y281 s0_0 t278 t279) = some (r1,r2,r3) := by first | (rw [hy281];with_reducible exact H) | (have H2_ := (Option.bind_some _ _).symm.trans H;rw [hy281];with_reducible exact H2_) | (have H2_ := (Option.bind_some _ _).symm.trans H;with_reducible exact H2_) | with_reducible exact H | (rw [hy281];exact H) | exact H
    have Ny281 := Aside0.mk hy281
    clear hy281
    have H' := Aside0.mk H
    clear H
    obtain ⟨Ao18,co18,eo18⟩ := Kd.N_slice HO_3.out
    subst eo18
    have p280 : 0 ≤ (0 : Int) := Z523
    have q280 : 0 < (x3_1.length : Int) := of_decide_eq_true Z293
    obtain ⟨ad280,A280_0,c280_0,e280,hx280_0,hl280_0,hi280_0⟩ := at_L3 (Kd.N_reads' HO_3.out).2.2 0 p280 q280
    cases e280
    obtain ⟨ce280,hce280,hMe280,hcc280⟩ := Kd.N_get HO_3.out [] 0 p280 (by first | exact q280 | exact of_decide_eq_true Z293 | (have e_ := (Kd.N_reads' HO_3.out).1;omega))
    obtain ⟨ua280_0,uc280_0,rfl,ul280_0,ge280_0⟩ := Kd.FK_slice_open hMe280
    have hv280_0 := hcc280 0 _ rfl
    rw [Nat.add_zero,show ((Kd.slice 25 k25)).sz = 1 from rfl,Nat.mul_one] at hv280_0
    replace hv280_0 := Option.some.inj (hv280_0.symm.trans hx280_0)
    injection hv280_0 with hva_ hvn_ hvc_
    rw [hva_] at ge280_0
    rw [hvc_] at ul280_0
    have HL280_0 := Aside0.mk (show Kd.V k25 25 _ w.heap.size _ _ (rd_L3 x3_1 0) from Kd.V_mk ul280_0 ge280_0)
    clear hva_ hvn_ hvc_ ge280_0 ul280_0
    clear hcc280 hce280
    have qi280 : (0 < x3_1.length) = True := eq_true Z523
    (try rw [show ((0 : Int)).toNat = 0 from rfl] at hx280_0)
    (try rw [Addr.add_zero'] at hx280_0)
    have HR280_0 := Aside0.mk hi280_0
    have HC280_0 := Aside0.mk hl280_0
    clear hi280_0 hl280_0
    replace p280 := eq_true p280
    replace q280 := eq_true q280
    go_wp2_with (first | ((with_reducible refine gate_builtin (b := .append) (xs := #[.tmp 23,.tmp 27]) rfl ?_);at_builtin;refine Kd.N_append (Kd.slice 25 k25) w.heap.size rfl (.tmp 23) (.tmp 27) 49 50 (.slice none 0 0) 24 rfl Try.underlying49 info50 rfl Z522 Z523 (.slice (some ad280) x3_1.length co18) x3_1 (rd_L3 x3_1 0) [.slice A280_0 (rd_L3 x3_1 0).length c280_0] (fun k_ => k_ ≠ g) (fun k_ => ((fun k_ => k_ ≠ g)) k_ ∧ some k_ ≠ (.slice (some ad280) x3_1.length co18 : Value).ownBlock) rfl rfl ?aP (fun _ hk => hk) ?aF ?aO (Below.refl _ _) ?aS ?aL ?_;(case aP => exact (Kd.FK_slice_mk (Kd.V_reads' (Kd.V_mono (ok' := (fun k_ => ((fun k_ => k_ ≠ g)) k_ ∧ some k_ ≠ (.slice (some ad280) x3_1.length co18 : Value).ownBlock)) (HL280_0.out) (fun k_ hk => ⟨hk.1,hk.2⟩))).2.1 (Kd.V_F (Kd.V_mono (ok' := (fun k_ => ((fun k_ => k_ ≠ g)) k_ ∧ some k_ ≠ (.slice (some ad280) x3_1.length co18 : Value).ownBlock)) (HL280_0.out) (fun k_ hk => ⟨hk.1,hk.2⟩)))));(case aF => exact Z193);(case aO => exact Z484);(case aS => exact Z196);(case aL => have := LMc17.out;omega);intro v282 w19 ho hb hg hat;rw [← Ny281.out] at ho;have n_ := jA (IsS48.grown Z399 hg (IsS48.own_neN HI0.out HO_3.out Z522)) (jA (Kd.V_afterv (ok := (fun k_ => k_ ≠ g)) (by (with_reducible repeat (first | apply Kd.V_alloc | apply Kd.V_drewN | apply Kd.V_drew));exact HL280_0.out) hg hat) (jA (below_weaken Z398 HL.out hb) (jA (KeepBut.trans Z573 (KeepBut.of_grown hg g) (Kd.N_base2 HO_3.out)) (Aside0.mk (ho)))));clear HI0 HL280_0 HB HK HO_3;obtain ⟨HI0,HL280_0,HB,HK,HO283⟩ := n_;clear ho hb hg hat))
    go_meet
    case rel => exact ⟨_,(y281),H',⟨Z290⟩,⟨by (with_reducible repeat (first | apply Kd.N_alloc | apply Kd.N_drewN | apply Kd.N_drew));exact HO283.out⟩,⟨Z399⟩,⟨Z573⟩,⟨Z398⟩⟩
   case rest =>
    clear HC13
    try clear c1
    try clear c2
    try clear p2
    try clear q2
    try clear hx2
    try clear qi2
    try clear c6
    try clear c6b0
    try clear p6
    try clear c8
    try clear c9
    try clear c10
    try clear c15
    try clear c16
    try clear c16b0
    try clear c16b1
    try clear c17
    try clear c18
    try clear c19
    try clear hx280_0
    try clear p2
    try clear p280
    try clear q280
    obtain ⟨kq,x3_12,HA,HJ12,HO_3,HI0,HK,HB⟩ := hcut
    cases kq with
    | zero => exact absurd HA.out (by simp [spec_l16Cands.j1])
    | succ kj12 =>
     have H := HA.out
     clear HA
     simp only [spec_l16Cands.j1] at H
     obtain ⟨t284,A200,H⟩ := Option.bind_eq_some_iff.mp H
     have A20 := Aside0.mk A200
     clear A200
     obtain ⟨⟨t287,t288,t289⟩,A210,H⟩ := Option.bind_eq_some_iff.mp H
     try dsimp only at H
     have A21 := Aside0.mk A210
     clear A210
     by_cases c22 : t287 = true
     rotate_left
     ·replace c22 := Bool.eq_false_iff.mpr c22
      subst c22
      rw [if_neg Bool.false_ne_true] at H
      by_cases c54 : (t284.length : Int) > 1
      rotate_left
      ·rw [if_neg c54] at H
       have c54b0 : decide (1 < (t284.length : Int)) = false := decide_eq_false c54
       have c54b1 : decide (1 < t284.length) = false := decide_eq_false Z523
       clear c54
       simp only [Option.some.injEq,Prod.mk.injEq] at H
       obtain ⟨rfl,rfl,rfl⟩ := H
       obtain ⟨Ao73,co73,eo73⟩ := Kd.N_slice HO_3.out
       subst eo73
       go_wp2_with (first | ((with_reducible refine gate_callee (f := 20) rfl ?_);refine goesL_ (some 30) rfl rfl Try.func20 Z310 rfl #[.slice Ao73 x3_12.length co73,.int .i64 1] rfl Z249 ?_;(with_reducible refine (spec_CandsOf.calls kj12 _ _ x3_12 1 t284 _ ?side1 ?side2 A20.out).mono ?_);(case side1 => exact Z227);(case side2 => exact Z297);rintro e wq1 ⟨vq2,rfl,hoq3,hb⟩;refine ⟨_,rfl,?_⟩;have n_ := Z71;clear HO_3 HI0 HK HB;obtain ⟨HO_3,HO286,HI0,HK,HB⟩ := n_;(try clear hb);(try clear hb2);(try clear hk);(try clear hi);(try clear hoq3)) | ((with_reducible refine gate_callee (f := 19) rfl ?_);refine goesL_ (some 32) rfl rfl Try.func19 Z310 rfl #[.pointer (some ⟨g,0,none⟩),.int .i64 4] rfl Z249 ?_;(with_reducible refine (spec_l1Once.calls g s0_0 t278 t279 4 false t288 t289 w0 _ ?side1 ?side2 A21.out).mono ?_);(case side1 => exact Z399);(case side2 => exact Z398);rintro e wq4 ⟨rfl,hi,hb,hk⟩;refine ⟨_,rfl,?_⟩;have n_ := Z76;clear HO_3 HO286 HK HB HI0;obtain ⟨HO_3,HO286,HK,HB,HI0⟩ := n_;(try clear hb);(try clear hb2);(try clear hk);(try clear hi);obtain ⟨Aoq5,coq5,eoq5⟩ := Kd.R_slice HO286.out;subst eoq5))
       go_ret
       exact ⟨_,Z265,Kd.Q_of_R Z482,Z399,Z398,Z573⟩
      rw [if_pos c54] at H
      have c54b0 : decide (1 < (t284.length : Int)) = true := decide_eq_true c54
      have c54b1 : decide (1 < t284.length) = true := decide_eq_true Z523
      clear c54
      obtain ⟨⟨t314,t315,t316⟩,A550,H⟩ := Option.bind_eq_some_iff.mp H
      try dsimp only at H
      have A55 := Aside0.mk A550
      clear A550
      by_cases c56 : t314 = true
      rotate_left
      ·replace c56 := Bool.eq_false_iff.mpr c56
       subst c56
       rw [if_neg Bool.false_ne_true] at H
       simp only [Option.some.injEq,Prod.mk.injEq] at H
       obtain ⟨rfl,rfl,rfl⟩ := H
       obtain ⟨Ao68,co68,eo68⟩ := Kd.N_slice HO_3.out
       subst eo68
       go_wp2_with (first | ((with_reducible refine gate_callee (f := 20) rfl ?_);refine goesL_ (some 30) rfl rfl Try.func20 Z310 rfl #[.slice Ao68 x3_12.length co68,.int .i64 1] rfl Z249 ?_;(with_reducible refine (spec_CandsOf.calls kj12 _ _ x3_12 1 t284 _ ?side1 ?side2 A20.out).mono ?_);(case side1 => exact Z227);(case side2 => exact Z297);rintro e wq1 ⟨vq2,rfl,hoq3,hb⟩;refine ⟨_,rfl,?_⟩;have n_ := Z71;clear HO_3 HI0 HK HB;obtain ⟨HO_3,HO286,HI0,HK,HB⟩ := n_;(try clear hb);(try clear hb2);(try clear hk);(try clear hi);(try clear hoq3)) | ((with_reducible refine gate_callee (f := 19) rfl ?_);refine goesL_ (some 32) rfl rfl Try.func19 Z310 rfl #[.pointer (some ⟨g,0,none⟩),.int .i64 4] rfl Z249 ?_;(with_reducible refine (spec_l1Once.calls g s0_0 t278 t279 4 false t288 t289 w0 _ ?side1 ?side2 A21.out).mono ?_);(case side1 => exact Z399);(case side2 => exact Z398);rintro e wq4 ⟨rfl,hi,hb,hk⟩;refine ⟨_,rfl,?_⟩;have n_ := Z76;clear HO_3 HO286 HK HB HI0;obtain ⟨HO_3,HO286,HK,HB,HI0⟩ := n_;(try clear hb);(try clear hb2);(try clear hk);(try clear hi);obtain ⟨Aoq5,coq5,eoq5⟩ := Kd.R_slice HO286.out;subst eoq5) | (go_at_call 19;(with_reducible refine (spec_l1Once.calls g s0_0 t288 t289 3 false t315 t316 w0 _ ?side1 ?side2 A55.out).mono ?_);(case side1 => exact Z399);(case side2 => exact Z398);rintro e wq6 ⟨rfl,hi,hb,hk⟩;have n_ := jA (Kd.N_mono (Kd.N_keep (Kd.N_mono (ok := fun k_ => (k_ ≠ g ∧ some k_ ≠ (.slice Aoq5 t284.length coq5 : Value).ownBlock)) Z484 (fun k_ hk_ => (⟨hk_,hk_.1⟩ : _ ∧ k_ ≠ g))) hk (fun _ h => h.2)) (fun _ h => h.1)) (jA (Kd.R_mono (Kd.R_keep (IsS48.apart (show IsS48 w0 _ g s0_0 t288 t289 from Z399) Z482 Z522) hk (fun _ h => h.2)) (fun _ h => h.1)) (jA (KeepBut.trans Z573 hk (.inl rfl)) (jA (hb) (Aside0.mk (hi)))));clear HO_3 HO286 HK HB HI0;obtain ⟨HO_3,HO286,HK,HB,HI0⟩ := n_;(try clear hb);(try clear hb2);(try clear hk);(try clear hi)))
       go_ret
       exact ⟨_,Z265,Kd.Q_of_R Z482,Z399,Z398,Z573⟩
      subst c56
      rw [if_pos rfl] at H
      obtain ⟨c57,H⟩ := ifp H
      have c57b0 := eq_true c57
      have c57b1 : decide (1 ≤ (t284.length : Int)) = true := decide_eq_true c57
      clear c57
      obtain ⟨y317,hy317⟩ : ∃ y_ : List (S27),y_ = (t284.drop 1) := ⟨_,rfl⟩
      replace H : (if 0 < (t284.length : Int) then (if y317.length < 2932031007402 then (some ((y317 ++ [(⟨(rd_T27 t284 0).f0,(rd_T27 t284 0).f1,(⟨(rd_T27 t284 0).f2.f0,(rd_T27 t284 0).f2.f1⟩ : S25),(⟨(rd_T27 t284 0).f3.f0,(rd_T27 t284 0).f3.f1⟩ : S25)⟩ : S27)]),t315,t316)) else (none)) else (none)) = some (r1,r2,r3) := by first | (rw [hy317];with_reducible exact H) | (have H2_ := (Option.bind_some _ _).symm.trans H;rw [hy317];with_reducible exact H2_) | (have H2_ := (Option.bind_some _ _).symm.trans H;with_reducible exact H2_) | with_reducible exact H | (rw [hy317];exact H) | exact H
      have Ny317 := Aside0.mk hy317
      clear hy317
      obtain ⟨c58,H⟩ := ifp H
      have c58b0 : decide (0 < (t284.length : Int)) = true := decide_eq_true c58
      have c58b1 : decide (0 < t284.length) = true := decide_eq_true Z523
      clear c58
      obtain ⟨c59,H⟩ := ifp H
      have LMc59 := Aside0.mk c59
      clear c59
      obtain ⟨y324,hy324⟩ : ∃ y_ : List (S27),y_ = (y317 ++ [(⟨(rd_T27 t284 0).f0,(rd_T27 t284 0).f1,(⟨(rd_T27 t284 0).f2.f0,(rd_T27 t284 0).f2.f1⟩ : S25),(⟨(rd_T27 t284 0).f3.f0,(rd_T27 t284 0).f3.f1⟩ : S25)⟩ : S27)]) := ⟨_,rfl⟩
      replace H : (some (y324,t315,t316)) = some (r1,r2,r3) := by first | (rw [hy324];with_reducible exact H) | (have H2_ := (Option.bind_some _ _).symm.trans H;rw [hy324];with_reducible exact H2_) | (have H2_ := (Option.bind_some _ _).symm.trans H;with_reducible exact H2_) | with_reducible exact H | (rw [hy324];exact H) | exact H
      have Ny324 := Aside0.mk hy324
      clear hy324
      simp only [Option.some.injEq,Prod.mk.injEq] at H
      obtain ⟨rfl,rfl,rfl⟩ := H
      obtain ⟨Ao60,co60,eo60⟩ := Kd.N_slice HO_3.out
      subst eo60
      try go_wp2_with (first | ((with_reducible refine gate_callee (f := 20) rfl ?_);refine goesL_ (some 30) rfl rfl Try.func20 Z310 rfl #[.slice Ao60 x3_12.length co60,.int .i64 1] rfl Z249 ?_;(with_reducible refine (spec_CandsOf.calls kj12 _ _ x3_12 1 t284 _ ?side1 ?side2 A20.out).mono ?_);(case side1 => exact Z227);(case side2 => exact Z297);rintro e w61 ⟨v285,rfl,ho0,hb⟩;refine ⟨_,rfl,?_⟩;have n_ := Z72;clear HO_3 HI0 HK HB;obtain ⟨HO_3,HO286,HI0,HK,HB⟩ := n_;(try clear hb);(try clear hb2);(try clear hk);(try clear hi);(try clear ho0)) | ((with_reducible refine gate_callee (f := 19) rfl ?_);refine goesL_ (some 32) rfl rfl Try.func19 Z310 rfl #[.pointer (some ⟨g,0,none⟩),.int .i64 4] rfl Z249 ?_;(with_reducible refine (spec_l1Once.calls g s0_0 t278 t279 4 false t288 t289 w0 _ ?side1 ?side2 A21.out).mono ?_);(case side1 => exact Z399);(case side2 => exact Z398);rintro e w62 ⟨rfl,hi,hb,hk⟩;refine ⟨_,rfl,?_⟩;have n_ := Z75;clear HO_3 HO286 HK HB HI0;obtain ⟨HO_3,HO286,HK,HB,HI0⟩ := n_;(try clear hb);(try clear hb2);(try clear hk);(try clear hi);obtain ⟨Ao63,co63,eo63⟩ := Kd.R_slice HO286.out;subst eo63) | (go_at_call 19;(with_reducible refine (spec_l1Once.calls g s0_0 t288 t289 3 true t315 t316 w0 _ ?side1 ?side2 A55.out).mono ?_);(case side1 => exact Z399);(case side2 => exact Z398);rintro e w64 ⟨rfl,hi,hb,hk⟩;have n_ := jA (Kd.N_mono (Kd.N_keep (Kd.N_mono (ok := fun k_ => (k_ ≠ g ∧ some k_ ≠ (.slice Ao63 t284.length co63 : Value).ownBlock)) Z484 (fun k_ hk_ => (⟨hk_,hk_.1⟩ : _ ∧ k_ ≠ g))) hk (fun _ h => h.2)) (fun _ h => h.1)) (jA (Kd.R_mono (Kd.R_keep (IsS48.apart (show IsS48 w0 _ g s0_0 t288 t289 from Z399) Z482 Z522) hk (fun _ h => h.2)) (fun _ h => h.1)) (jA (KeepBut.trans Z573 hk (.inl rfl)) (jA (hb) (Aside0.mk (hi)))));clear HO_3 HO286 HK HB HI0;obtain ⟨HO_3,HO286,HK,HB,HI0⟩ := n_;(try clear hb);(try clear hb2);(try clear hk);(try clear hi)))
      have n0_ := Aside0.mk (Kd.N_drew HO_3.out)
      have n1_ := Aside0.mk (Kd.R_drew HO286.out)
      have n2_ := Aside0.mk (IsS48.drew HI0.out)
      have n3_ := Aside0.mk (keep_drew HK.out)
      have n4_ := Aside0.mk (below_drew1 HB.out)
      clear HO_3
      clear HO286
      clear HI0
      clear HK
      clear HB
      have HO_3 := n0_
      have HO286 := n1_
      have HI0 := n2_
      have HK := n3_
      have HB := n4_
      clear n0_ n1_ n2_ n3_ n4_
      have q66 : (1 : Int) ≤ ((t284.length : Int) : Int) := of_decide_eq_true Z293
      obtain ⟨i066,hi066,_,hsz66,_⟩ := info_parts info27
      have hroom66 : t284.length ≤ co63 := (Kd.R_reads' HO286.out).2.1
      have hC66 : Kd.C k27 _ Ao63 t284.length t284 := (Kd.R_reads' HO286.out).2.2
      have hcut66 := cut_from (P := Try.prog) 33 27 .i64 Try.underlying33 hi066 6 hsz66 Ao63 t284.length co63 1 Z523 q66
      have hr66 := Kd.C_drop (m := (1 : Int).toNat) (c := co63) hC66 Z523 hroom66
      obtain ⟨A66,hA66⟩ : ∃ A1,A1 = (if co63 = (1 : Int).toNat then Ao63 else (Ao63 : Option Addr).map (·.add ((1 : Int).toNat * 6))) := ⟨_,rfl⟩
      obtain ⟨c66,hc66⟩ : ∃ c1,c1 = co63 - (1 : Int).toNat := ⟨_,rfl⟩
      have hy66 : y317.length = t284.length - (1 : Int).toNat := (by rw [Ny317.out,List.length_drop] <;> omega)
      rw [show (t284).drop (1 : Int).toNat = y317 from Ny317.out.symm] at hr66
      replace hr66 : Kd.C k27 _ A66 y317.length y317 := (by rw [hA66];exact hr66)
      rw [← hy66,← hA66,← hc66] at hcut66
      have HR320 := Aside0.mk hr66
      have HC320 := Aside0.mk (show y317.length ≤ c66 from by rw [hy66,hc66];exact Nat.sub_le_sub_right hroom66 _)
      have KC66 := Aside0.mk hc66
      clear hr66 hC66 hroom66 hi066 hsz66 hc66
      have KY66 := Aside0.mk hy66
      have KA66 := Aside0.mk hA66
      clear hy66 hA66
      have KL66 := Aside0.mk (show 1 ≤ t284.length from Z523)
      replace q66 := eq_true q66
      have p321 : 0 ≤ (0 : Int) := Z523
      have q321 : 0 < (t284.length : Int) := of_decide_eq_true Z293
      obtain ⟨ad321,e321,hx321_0,hx321_1,hx321_2,hx321_3,hx321_4,hx321_5⟩ := at_T27 (Kd.R_reads' HO286.out).2.2 0 p321 q321
      cases e321
      have qi321 : (0 < t284.length) = True := eq_true Z523
      (try rw [show ((0 : Int)).toNat = 0 from rfl] at hx321_0)
      (try rw [show 0 * 6 = 0 from rfl] at hx321_0)
      (try rw [Addr.add_zero'] at hx321_0)
      (try rw [show ((0 : Int)).toNat = 0 from rfl] at hx321_1)
      (try rw [show 0 * 6 = 0 from rfl] at hx321_1)
      (try rw [Addr.add_zero'] at hx321_1)
      (try rw [show ((0 : Int)).toNat = 0 from rfl] at hx321_2)
      (try rw [show 0 * 6 = 0 from rfl] at hx321_2)
      (try rw [Addr.add_zero'] at hx321_2)
      (try rw [show ((0 : Int)).toNat = 0 from rfl] at hx321_3)
      (try rw [show 0 * 6 = 0 from rfl] at hx321_3)
      (try rw [Addr.add_zero'] at hx321_3)
      (try rw [show ((0 : Int)).toNat = 0 from rfl] at hx321_4)
      (try rw [show 0 * 6 = 0 from rfl] at hx321_4)
      (try rw [Addr.add_zero'] at hx321_4)
      (try rw [show ((0 : Int)).toNat = 0 from rfl] at hx321_5)
      (try rw [show 0 * 6 = 0 from rfl] at hx321_5)
      (try rw [Addr.add_zero'] at hx321_5)
      replace p321 := eq_true p321
      replace q321 := eq_true q321
      have hr66 := Kd.Q_drop (k := (1 : Int).toNat) (Kd.Q_of_R HO286.out) (show _ ≤ _ from by have h_ := KL66.out;omega)
      rw [show (t284).drop (1 : Int).toNat = y317 from Ny317.out.symm] at hr66
      replace hr66 : Kd.Q k27 27 _ w.heap.size (fun _ => True) (.slice A66 y317.length c66) y317 := (by rw [KA66.out,KC66.out,KY66.out];exact hr66)
      have HE66 : Aside0 ((Value.slice A66 y317.length c66).ownBlock = (.slice (some ad321) t284.length co63 : Value).ownBlock) := ⟨by rw [KA66.out];split <;> (cases ((some ad321) : Option Addr) <;> rfl)⟩
      clear HO286 HR320
      have HO323 := Aside0.mk hr66
      clear hr66
      have n_ := Aside0.mk (Kd.N_mono (ok' := fun k_ => (k_ ≠ g ∧ some k_ ≠ (.slice A66 y317.length c66 : Value).ownBlock)) HO_3.out (fun k_ hk => ⟨hk.1,(by rw [HE66.out];exact hk.2)⟩))
      clear HO_3
      have HO_3 := n_
      clear n_
      refine start_ (n := 8) (S := fun w' => w'.cell? ad321 = some (.int .i64 ((rd_T27 t284 0).f0)) ∧ w'.cell? ⟨ad321.block,ad321.off + 1,none⟩ = some (.int .i64 ((rd_T27 t284 0).f1)) ∧ w'.cell? ⟨ad321.block,ad321.off + 2,none⟩ = some (.int .i64 ((rd_T27 t284 0).f2.f0)) ∧ w'.cell? ⟨ad321.block,ad321.off + 3,none⟩ = some (.int .i64 ((rd_T27 t284 0).f2.f1)) ∧ w'.cell? ⟨ad321.block,ad321.off + 4,none⟩ = some (.int .i64 ((rd_T27 t284 0).f3.f0)) ∧ w'.cell? ⟨ad321.block,ad321.off + 5,none⟩ = some (.int .i64 ((rd_T27 t284 0).f3.f1))) (ds := [5,6]) (qM 8 0) Z310 rfl (by kernel_rfl) ⟨hx321_0,hx321_1,hx321_2,hx321_3,hx321_4,hx321_5⟩ (fun hHeld => ?_);refine with_tabW spec_l16Cands.tab13 spec_l16Cands.bits13 (fun HT_ HW_ => ?_)
      generalize w64.drew = w65 at HO_3 HI0 HK HB HO323 hx321_0 hx321_1 hx321_2 hx321_3 hx321_4 hx321_5 hHeld ⊢
      refine rP 0 45 8 1 HT_ (h := ?_)
      refine rP 1 46 8 3 HT_ (h := ?_)
      refine rP 2 47 8 7 HT_ (h := ?_)
      refine rP 3 48 8 15 HT_ (h := ?_)
      refine rT6 4 49 8 31 HT_ HW_ hHeld (h := ?_)
      refine last_ (i := 5) (N := some 50) (qM 8 63) rfl rfl (one_of HT_.out Z310) Z522 (fun K hK => ?_)
      refine value_ (w1 := ?_) (v := ?_) Z311 rfl ?_ ?_
      rotate_left 2
      ·go_simp
       constructor
       ·rfl
       rfl
      refine hK.out _ _ ?_
      clear hK K
      refine rN (h := ?_)
      refine last_ (i := 6) (N := some 51) (qM 8 127) rfl rfl (one_of HT_.out Z310) Z522 (fun K hK => ?_)
      refine Kd.Q_append_step k27 w.heap.size Z311 (.tmp 46) (.tmp 50) 33 27 (.agg #[(.int .i64 0),(.int .i64 0),(.int .i64 0),(.int .i64 0),(.int .i64 0),(.int .i64 0)]) 48 rfl Try.underlying33 info27 rfl Z522 Z523 (.slice A66 y317.length c66) y317 (⟨(rd_T27 t284 0).f0,(rd_T27 t284 0).f1,(⟨(rd_T27 t284 0).f2.f0,(rd_T27 t284 0).f2.f1⟩ : S25),(⟨(rd_T27 t284 0).f3.f0,(rd_T27 t284 0).f3.f1⟩ : S25)⟩ : S27) [.int .i64 ((rd_T27 t284 0).f0),.int .i64 ((rd_T27 t284 0).f1),.int .i64 ((rd_T27 t284 0).f2.f0),.int .i64 ((rd_T27 t284 0).f2.f1),.int .i64 ((rd_T27 t284 0).f3.f0),.int .i64 ((rd_T27 t284 0).f3.f1)] (fun _ => True) (fun _ => False) rfl rfl ?aP (fun _ hk => hk.elim) ?aF ?aO (Below.refl _ _) ?aS ?aL ?_
      (case aP => exact k27_mkM _ _ _ (⟨(rd_T27 t284 0).f0,(rd_T27 t284 0).f1,(⟨(rd_T27 t284 0).f2.f0,(rd_T27 t284 0).f2.f1⟩ : S25),(⟨(rd_T27 t284 0).f3.f0,(rd_T27 t284 0).f3.f1⟩ : S25)⟩ : S27))
      (case aF => exact Z306)
      (case aO => exact (by (with_reducible repeat (first | apply Kd.Q_alloc | apply Kd.Q_drewN | apply Kd.Q_drew));exact HO323.out))
      (case aS => exact Z196)
      (case aL => have := LMc59.out;omega)
      intro v325 w67 ho hb hg hat
      rw [← Ny324.out] at ho
      have n0_ := Aside0.mk (Kd.N_afterv (ok := (fun k_ => k_ ≠ g)) Z484 hg hat)
      have n1_ := Aside0.mk (IsS48.grown Z399 hg (IsS48.own_neQ HI0.out HO323.out Z522))
      have n2_ := Aside0.mk (below_weaken Z398 HL.out hb)
      have n3_ := Aside0.mk (KeepBut.trans Z573 (KeepBut.of_grown hg g) (Kd.Q_base2 HO323.out))
      have n4_ := Aside0.mk (ho)
      clear HO_3
      clear HI0
      clear HB
      clear HK
      clear HO323
      have HO_3 := n0_
      have HI0 := n1_
      have HB := n2_
      have HK := n3_
      have HO326 := n4_
      clear n0_ n1_ n2_ n3_ n4_
      clear ho hb hg hat
      refine hK.out _ _ ?_
      clear hK K
      refine rN (h := ?_)
      refine rP 7 6 8 255 HT_ (h := ?_)
      refine done_ (done_of HT_.out Z310) ?_
      try go_wp2
      go_ret
      exact ⟨_,Z265,by (with_reducible repeat (first | apply Kd.Q_alloc | apply Kd.Q_drewN | apply Kd.Q_drew));exact HO326.out,Z399,Z398,Z573⟩
     subst c22
     rw [if_pos rfl] at H
     obtain ⟨⟨t290,t291,t292,t293,t294,t295,t296,t297⟩,A230,H⟩ := Option.bind_eq_some_iff.mp H
     try dsimp only at H
     have A23 := Aside0.mk A230
     clear A230
     obtain ⟨c24,H⟩ := ifp H
     have LMc24 := Aside0.mk c24
     clear c24
     obtain ⟨y298,hy298⟩ : ∃ y_ : List (S27),y_ = (t284 ++ [(⟨t290,t291,(⟨t292,t293⟩ : S25),(⟨t294,t295⟩ : S25)⟩ : S27)]) := ⟨_,rfl⟩
     replace H : (if (y298.length : Int) > 1 then ((spec_l1Once.f s0_0 t296 t297 3).bind fun bt301 => (if bt301.1 = true then (if 1 ≤ (y298.length : Int) then ((some (y298.drop 1 : List (S27))).bind fun y304 => (if 0 < (y298.length : Int) then (if y304.length < 2932031007402 then (some ((y304 ++ [(⟨(rd_T27 y298 0).f0,(rd_T27 y298 0).f1,(⟨(rd_T27 y298 0).f2.f0,(rd_T27 y298 0).f2.f1⟩ : S25),(⟨(rd_T27 y298 0).f3.f0,(rd_T27 y298 0).f3.f1⟩ : S25)⟩ : S27)]),bt301.2.1,bt301.2.2)) else (none)) else (none))) else (none)) else (some (y298,bt301.2.1,bt301.2.2)))) else (some (y298,t296,t297))) = some (r1,r2,r3) := by first | (rw [hy298];with_reducible exact H) | (have H2_ := (Option.bind_some _ _).symm.trans H;rw [hy298];with_reducible exact H2_) | (have H2_ := (Option.bind_some _ _).symm.trans H;with_reducible exact H2_) | with_reducible exact H | (rw [hy298];exact H) | exact H
     have Ny298 := Aside0.mk hy298
     clear hy298
     by_cases c25 : (y298.length : Int) > 1
     rotate_left
     ·rw [if_neg c25] at H
      have c25b0 : decide (1 < (y298.length : Int)) = false := decide_eq_false c25
      have c25b1 : decide (1 < y298.length) = false := decide_eq_false Z523
      clear c25
      simp only [Option.some.injEq,Prod.mk.injEq] at H
      obtain ⟨rfl,rfl,rfl⟩ := H
      obtain ⟨Ao48,co48,eo48⟩ := Kd.N_slice HO_3.out
      subst eo48
      go_wp2_with (first | ((with_reducible refine gate_callee (f := 20) rfl ?_);refine goesL_ (some 30) rfl rfl Try.func20 Z310 rfl #[.slice Ao48 x3_12.length co48,.int .i64 1] rfl Z249 ?_;(with_reducible refine (spec_CandsOf.calls kj12 _ _ x3_12 1 t284 _ ?side1 ?side2 A20.out).mono ?_);(case side1 => exact Z227);(case side2 => exact Z297);rintro e wq1 ⟨vq2,rfl,hoq3,hb⟩;refine ⟨_,rfl,?_⟩;have n_ := Z71;clear HO_3 HI0 HK HB;obtain ⟨HO_3,HO286,HI0,HK,HB⟩ := n_;(try clear hb);(try clear hb2);(try clear hk);(try clear hi);(try clear hoq3)) | ((with_reducible refine gate_callee (f := 19) rfl ?_);refine goesL_ (some 32) rfl rfl Try.func19 Z310 rfl #[.pointer (some ⟨g,0,none⟩),.int .i64 4] rfl Z249 ?_;(with_reducible refine (spec_l1Once.calls g s0_0 t278 t279 4 true t288 t289 w0 _ ?side1 ?side2 A21.out).mono ?_);(case side1 => exact Z399);(case side2 => exact Z398);rintro e wq4 ⟨rfl,hi,hb,hk⟩;refine ⟨_,rfl,?_⟩;have n_ := Z76;clear HO_3 HO286 HK HB HI0;obtain ⟨HO_3,HO286,HK,HB,HI0⟩ := n_;(try clear hb);(try clear hb2);(try clear hk);(try clear hi)) | ((with_reducible refine gate_callee (f := 11) rfl ?_);refine goesL_ (some 35) rfl rfl Try.func11 Z310 rfl #[.pointer (some ⟨g,0,none⟩)] rfl Z249 ?_;(with_reducible refine (spec_l15Cand.calls kj12 g s0_0 t288 t289 t290 t291 t292 t293 t294 t295 t296 t297 w0 _ ?side1 ?side2 A23.out).mono ?_);(case side1 => exact Z399);(case side2 => exact Z398);rintro e wq5 ⟨rfl,hi,hb,hk⟩;refine ⟨_,rfl,?_⟩;have n_ := Z77;clear HO_3 HO286 HK HB HI0;obtain ⟨HO_3,HO286,HK,HB,HI0⟩ := n_;(try clear hb);(try clear hb2);(try clear hk);(try clear hi)) | ((with_reducible refine gate_builtin (b := .append) (xs := #[.tmp 33,.tmp 36]) rfl ?_);at_builtin;refine Kd.R_append k27 w.heap.size rfl (.tmp 33) (.tmp 36) 33 27 (.agg #[(.int .i64 0),(.int .i64 0),(.int .i64 0),(.int .i64 0),(.int .i64 0),(.int .i64 0)]) 48 rfl Try.underlying33 info27 rfl Z522 Z523 vq2 t284 (⟨t290,t291,(⟨t292,t293⟩ : S25),(⟨t294,t295⟩ : S25)⟩ : S27) [.int .i64 t290,.int .i64 t291,.int .i64 t292,.int .i64 t293,.int .i64 t294,.int .i64 t295] (fun _ => True) (fun _ => False) rfl rfl ?aP (fun _ hk => hk.elim) ?aF ?aO (Below.refl _ _) ?aS ?aL ?_;(case aP => exact Z267);(case aF => exact Z306);(case aO => exact Z257);(case aS => exact Z196);(case aL => have := LMc24.out;omega);intro vq6 wq7 ho hb hg hat;rw [← Ny298.out] at ho;have n_ := Z80;clear HO_3 HI0 HB HK HO286;obtain ⟨HO_3,HI0,HB,HK,HO300⟩ := n_;clear ho hb hg hat;obtain ⟨Aoq8,coq8,eoq8⟩ := Kd.R_slice HO300.out;subst eoq8))
      go_ret
      exact ⟨_,Z265,Kd.Q_of_R Z260,Z399,Z398,Z573⟩
     rw [if_pos c25] at H
     have c25b0 : decide (1 < (y298.length : Int)) = true := decide_eq_true c25
     have c25b1 : decide (1 < y298.length) = true := decide_eq_true Z523
     clear c25
     obtain ⟨⟨t301,t302,t303⟩,A260,H⟩ := Option.bind_eq_some_iff.mp H
     try dsimp only at H
     have A26 := Aside0.mk A260
     clear A260
     by_cases c27 : t301 = true
     rotate_left
     ·replace c27 := Bool.eq_false_iff.mpr c27
      subst c27
      rw [if_neg Bool.false_ne_true] at H
      simp only [Option.some.injEq,Prod.mk.injEq] at H
      obtain ⟨rfl,rfl,rfl⟩ := H
      obtain ⟨Ao41,co41,eo41⟩ := Kd.N_slice HO_3.out
      subst eo41
      go_wp2_with (first | ((with_reducible refine gate_callee (f := 20) rfl ?_);refine goesL_ (some 30) rfl rfl Try.func20 Z310 rfl #[.slice Ao41 x3_12.length co41,.int .i64 1] rfl Z249 ?_;(with_reducible refine (spec_CandsOf.calls kj12 _ _ x3_12 1 t284 _ ?side1 ?side2 A20.out).mono ?_);(case side1 => exact Z227);(case side2 => exact Z297);rintro e wq1 ⟨vq2,rfl,hoq3,hb⟩;refine ⟨_,rfl,?_⟩;have n_ := Z71;clear HO_3 HI0 HK HB;obtain ⟨HO_3,HO286,HI0,HK,HB⟩ := n_;(try clear hb);(try clear hb2);(try clear hk);(try clear hi);(try clear hoq3)) | ((with_reducible refine gate_callee (f := 19) rfl ?_);refine goesL_ (some 32) rfl rfl Try.func19 Z310 rfl #[.pointer (some ⟨g,0,none⟩),.int .i64 4] rfl Z249 ?_;(with_reducible refine (spec_l1Once.calls g s0_0 t278 t279 4 true t288 t289 w0 _ ?side1 ?side2 A21.out).mono ?_);(case side1 => exact Z399);(case side2 => exact Z398);rintro e wq4 ⟨rfl,hi,hb,hk⟩;refine ⟨_,rfl,?_⟩;have n_ := Z76;clear HO_3 HO286 HK HB HI0;obtain ⟨HO_3,HO286,HK,HB,HI0⟩ := n_;(try clear hb);(try clear hb2);(try clear hk);(try clear hi)) | ((with_reducible refine gate_callee (f := 11) rfl ?_);refine goesL_ (some 35) rfl rfl Try.func11 Z310 rfl #[.pointer (some ⟨g,0,none⟩)] rfl Z249 ?_;(with_reducible refine (spec_l15Cand.calls kj12 g s0_0 t288 t289 t290 t291 t292 t293 t294 t295 t296 t297 w0 _ ?side1 ?side2 A23.out).mono ?_);(case side1 => exact Z399);(case side2 => exact Z398);rintro e wq5 ⟨rfl,hi,hb,hk⟩;refine ⟨_,rfl,?_⟩;have n_ := Z77;clear HO_3 HO286 HK HB HI0;obtain ⟨HO_3,HO286,HK,HB,HI0⟩ := n_;(try clear hb);(try clear hb2);(try clear hk);(try clear hi)) | ((with_reducible refine gate_builtin (b := .append) (xs := #[.tmp 33,.tmp 36]) rfl ?_);at_builtin;refine Kd.R_append k27 w.heap.size rfl (.tmp 33) (.tmp 36) 33 27 (.agg #[(.int .i64 0),(.int .i64 0),(.int .i64 0),(.int .i64 0),(.int .i64 0),(.int .i64 0)]) 48 rfl Try.underlying33 info27 rfl Z522 Z523 vq2 t284 (⟨t290,t291,(⟨t292,t293⟩ : S25),(⟨t294,t295⟩ : S25)⟩ : S27) [.int .i64 t290,.int .i64 t291,.int .i64 t292,.int .i64 t293,.int .i64 t294,.int .i64 t295] (fun _ => True) (fun _ => False) rfl rfl ?aP (fun _ hk => hk.elim) ?aF ?aO (Below.refl _ _) ?aS ?aL ?_;(case aP => exact Z267);(case aF => exact Z306);(case aO => exact Z257);(case aS => exact Z196);(case aL => have := LMc24.out;omega);intro vq6 wq7 ho hb hg hat;rw [← Ny298.out] at ho;have n_ := Z80;clear HO_3 HI0 HB HK HO286;obtain ⟨HO_3,HI0,HB,HK,HO300⟩ := n_;clear ho hb hg hat;obtain ⟨Aoq8,coq8,eoq8⟩ := Kd.R_slice HO300.out;subst eoq8) | (go_at_call 19;(with_reducible refine (spec_l1Once.calls g s0_0 t296 t297 3 false t302 t303 w0 _ ?side1 ?side2 A26.out).mono ?_);(case side1 => exact Z399);(case side2 => exact Z398);rintro e wq9 ⟨rfl,hi,hb,hk⟩;have n_ := jA (Kd.N_mono (Kd.N_keep (Kd.N_mono (ok := fun k_ => (k_ ≠ g ∧ some k_ ≠ (.slice Aoq8 y298.length coq8 : Value).ownBlock)) Z484 (fun k_ hk_ => (⟨hk_,hk_.1⟩ : _ ∧ k_ ≠ g))) hk (fun _ h => h.2)) (fun _ h => h.1)) (jA (Kd.R_mono (Kd.R_keep (IsS48.apart (show IsS48 w0 _ g s0_0 t296 t297 from Z399) Z260 Z522) hk (fun _ h => h.2)) (fun _ h => h.1)) (jA (KeepBut.trans Z573 hk (.inl rfl)) (jA (hb) (Aside0.mk (hi)))));clear HO_3 HO300 HK HB HI0;obtain ⟨HO_3,HO300,HK,HB,HI0⟩ := n_;(try clear hb);(try clear hb2);(try clear hk);(try clear hi)))
      go_ret
      exact ⟨_,Z265,Kd.Q_of_R Z260,Z399,Z398,Z573⟩
     subst c27
     rw [if_pos rfl] at H
     obtain ⟨c28,H⟩ := ifp H
     have c28b0 := eq_true c28
     have c28b1 : decide (1 ≤ (y298.length : Int)) = true := decide_eq_true c28
     clear c28
     obtain ⟨y304,hy304⟩ : ∃ y_ : List (S27),y_ = (y298.drop 1) := ⟨_,rfl⟩
     replace H : (if 0 < (y298.length : Int) then (if y304.length < 2932031007402 then (some ((y304 ++ [(⟨(rd_T27 y298 0).f0,(rd_T27 y298 0).f1,(⟨(rd_T27 y298 0).f2.f0,(rd_T27 y298 0).f2.f1⟩ : S25),(⟨(rd_T27 y298 0).f3.f0,(rd_T27 y298 0).f3.f1⟩ : S25)⟩ : S27)]),t302,t303)) else (none)) else (none)) = some (r1,r2,r3) := by first | (rw [hy304];with_reducible exact H) | (have H2_ := (Option.bind_some _ _).symm.trans H;rw [hy304];with_reducible exact H2_) | (have H2_ := (Option.bind_some _ _).symm.trans H;with_reducible exact H2_) | with_reducible exact H | (rw [hy304];exact H) | exact H
     have Ny304 := Aside0.mk hy304
     clear hy304
     obtain ⟨c29,H⟩ := ifp H
     have c29b0 : decide (0 < (y298.length : Int)) = true := decide_eq_true c29
     have c29b1 : decide (0 < y298.length) = true := decide_eq_true Z523
     clear c29
     obtain ⟨c30,H⟩ := ifp H
     have LMc30 := Aside0.mk c30
     clear c30
     obtain ⟨y311,hy311⟩ : ∃ y_ : List (S27),y_ = (y304 ++ [(⟨(rd_T27 y298 0).f0,(rd_T27 y298 0).f1,(⟨(rd_T27 y298 0).f2.f0,(rd_T27 y298 0).f2.f1⟩ : S25),(⟨(rd_T27 y298 0).f3.f0,(rd_T27 y298 0).f3.f1⟩ : S25)⟩ : S27)]) := ⟨_,rfl⟩
     replace H : (some (y311,t302,t303)) = some (r1,r2,r3) := by first | (rw [hy311];with_reducible exact H) | (have H2_ := (Option.bind_some _ _).symm.trans H;rw [hy311];with_reducible exact H2_) | (have H2_ := (Option.bind_some _ _).symm.trans H;with_reducible exact H2_) | with_reducible exact H | (rw [hy311];exact H) | exact H
     have Ny311 := Aside0.mk hy311
     clear hy311
     simp only [Option.some.injEq,Prod.mk.injEq] at H
     obtain ⟨rfl,rfl,rfl⟩ := H
     obtain ⟨Ao31,co31,eo31⟩ := Kd.N_slice HO_3.out
     subst eo31
     try go_wp2_with (first | ((with_reducible refine gate_callee (f := 20) rfl ?_);refine goesL_ (some 30) rfl rfl Try.func20 Z310 rfl #[.slice Ao31 x3_12.length co31,.int .i64 1] rfl Z249 ?_;(with_reducible refine (spec_CandsOf.calls kj12 _ _ x3_12 1 t284 _ ?side1 ?side2 A20.out).mono ?_);(case side1 => exact Z227);(case side2 => exact Z297);rintro e w32 ⟨v285,rfl,ho0,hb⟩;refine ⟨_,rfl,?_⟩;have n_ := Z72;clear HO_3 HI0 HK HB;obtain ⟨HO_3,HO286,HI0,HK,HB⟩ := n_;(try clear hb);(try clear hb2);(try clear hk);(try clear hi);(try clear ho0)) | ((with_reducible refine gate_callee (f := 19) rfl ?_);refine goesL_ (some 32) rfl rfl Try.func19 Z310 rfl #[.pointer (some ⟨g,0,none⟩),.int .i64 4] rfl Z249 ?_;(with_reducible refine (spec_l1Once.calls g s0_0 t278 t279 4 true t288 t289 w0 _ ?side1 ?side2 A21.out).mono ?_);(case side1 => exact Z399);(case side2 => exact Z398);rintro e w33 ⟨rfl,hi,hb,hk⟩;refine ⟨_,rfl,?_⟩;have n_ := Z75;clear HO_3 HO286 HK HB HI0;obtain ⟨HO_3,HO286,HK,HB,HI0⟩ := n_;(try clear hb);(try clear hb2);(try clear hk);(try clear hi)) | ((with_reducible refine gate_callee (f := 11) rfl ?_);refine goesL_ (some 35) rfl rfl Try.func11 Z310 rfl #[.pointer (some ⟨g,0,none⟩)] rfl Z249 ?_;(with_reducible refine (spec_l15Cand.calls kj12 g s0_0 t288 t289 t290 t291 t292 t293 t294 t295 t296 t297 w0 _ ?side1 ?side2 A23.out).mono ?_);(case side1 => exact Z399);(case side2 => exact Z398);rintro e w34 ⟨rfl,hi,hb,hk⟩;refine ⟨_,rfl,?_⟩;have n_ := jA (Kd.N_mono (Kd.N_keep (Kd.N_mono (ok := fun k_ => (k_ ≠ g ∧ some k_ ≠ (v285 : Value).ownBlock)) Z484 (fun k_ hk_ => (⟨hk_,hk_.1⟩ : _ ∧ k_ ≠ g))) hk (fun _ h => h.2)) (fun _ h => h.1)) (jA (Kd.R_mono (Kd.R_keep (IsS48.apart (show IsS48 w0 _ g s0_0 t288 t289 from Z399) Z482 Z522) hk (fun _ h => h.2)) (fun _ h => h.1)) (jA (KeepBut.trans Z573 hk (.inl rfl)) (jA (hb) (Aside0.mk (hi)))));clear HO_3 HO286 HK HB HI0;obtain ⟨HO_3,HO286,HK,HB,HI0⟩ := n_;(try clear hb);(try clear hb2);(try clear hk);(try clear hi)) | ((with_reducible refine gate_builtin (b := .append) (xs := #[.tmp 33,.tmp 36]) rfl ?_);at_builtin;refine Kd.R_append k27 w.heap.size rfl (.tmp 33) (.tmp 36) 33 27 (.agg #[(.int .i64 0),(.int .i64 0),(.int .i64 0),(.int .i64 0),(.int .i64 0),(.int .i64 0)]) 48 rfl Try.underlying33 info27 rfl Z522 Z523 v285 t284 (⟨t290,t291,(⟨t292,t293⟩ : S25),(⟨t294,t295⟩ : S25)⟩ : S27) [.int .i64 t290,.int .i64 t291,.int .i64 t292,.int .i64 t293,.int .i64 t294,.int .i64 t295] (fun _ => True) (fun _ => False) rfl rfl ?aP (fun _ hk => hk.elim) ?aF ?aO (Below.refl _ _) ?aS ?aL ?_;(case aP => exact Z267);(case aF => exact Z306);(case aO => exact Z257);(case aS => exact Z196);(case aL => have := LMc24.out;omega);intro v299 w35 ho hb hg hat;rw [← Ny298.out] at ho;have n_ := Z80;clear HO_3 HI0 HB HK HO286;obtain ⟨HO_3,HI0,HB,HK,HO300⟩ := n_;clear ho hb hg hat;obtain ⟨Ao36,co36,eo36⟩ := Kd.R_slice HO300.out;subst eo36) | (go_at_call 19;(with_reducible refine (spec_l1Once.calls g s0_0 t296 t297 3 true t302 t303 w0 _ ?side1 ?side2 A26.out).mono ?_);(case side1 => exact Z399);(case side2 => exact Z398);rintro e w37 ⟨rfl,hi,hb,hk⟩;have n_ := jA (Kd.N_mono (Kd.N_keep (Kd.N_mono (ok := fun k_ => (k_ ≠ g ∧ some k_ ≠ (.slice Ao36 y298.length co36 : Value).ownBlock)) Z484 (fun k_ hk_ => (⟨hk_,hk_.1⟩ : _ ∧ k_ ≠ g))) hk (fun _ h => h.2)) (fun _ h => h.1)) (jA (Kd.R_mono (Kd.R_keep (IsS48.apart (show IsS48 w0 _ g s0_0 t296 t297 from Z399) Z260 Z522) hk (fun _ h => h.2)) (fun _ h => h.1)) (jA (KeepBut.trans Z573 hk (.inl rfl)) (jA (hb) (Aside0.mk (hi)))));clear HO_3 HO300 HK HB HI0;obtain ⟨HO_3,HO300,HK,HB,HI0⟩ := n_;(try clear hb);(try clear hb2);(try clear hk);(try clear hi)))
     have n0_ := Aside0.mk (Kd.N_drew HO_3.out)
     have n1_ := Aside0.mk (Kd.R_drew HO300.out)
     have n2_ := Aside0.mk (IsS48.drew HI0.out)
     have n3_ := Aside0.mk (keep_drew HK.out)
     have n4_ := Aside0.mk (below_drew1 HB.out)
     clear HO_3
     clear HO300
     clear HI0
     clear HK
     clear HB
     have HO_3 := n0_
     have HO300 := n1_
     have HI0 := n2_
     have HK := n3_
     have HB := n4_
     clear n0_ n1_ n2_ n3_ n4_
     have q39 : (1 : Int) ≤ ((y298.length : Int) : Int) := of_decide_eq_true Z293
     obtain ⟨i039,hi039,_,hsz39,_⟩ := info_parts info27
     have hroom39 : y298.length ≤ co36 := (Kd.R_reads' HO300.out).2.1
     have hC39 : Kd.C k27 _ Ao36 y298.length y298 := (Kd.R_reads' HO300.out).2.2
     have hcut39 := cut_from (P := Try.prog) 33 27 .i64 Try.underlying33 hi039 6 hsz39 Ao36 y298.length co36 1 Z523 q39
     have hr39 := Kd.C_drop (m := (1 : Int).toNat) (c := co36) hC39 Z523 hroom39
     obtain ⟨A39,hA39⟩ : ∃ A1,A1 = (if co36 = (1 : Int).toNat then Ao36 else (Ao36 : Option Addr).map (·.add ((1 : Int).toNat * 6))) := ⟨_,rfl⟩
     obtain ⟨c39,hc39⟩ : ∃ c1,c1 = co36 - (1 : Int).toNat := ⟨_,rfl⟩
     have hy39 : y304.length = y298.length - (1 : Int).toNat := (by rw [Ny304.out,List.length_drop] <;> omega)
     rw [show (y298).drop (1 : Int).toNat = y304 from Ny304.out.symm] at hr39
     replace hr39 : Kd.C k27 _ A39 y304.length y304 := (by rw [hA39];exact hr39)
     rw [← hy39,← hA39,← hc39] at hcut39
     have HR307 := Aside0.mk hr39
     have HC307 := Aside0.mk (show y304.length ≤ c39 from by rw [hy39,hc39];exact Nat.sub_le_sub_right hroom39 _)
     have KC39 := Aside0.mk hc39
     clear hr39 hC39 hroom39 hi039 hsz39 hc39
     have KY39 := Aside0.mk hy39
     have KA39 := Aside0.mk hA39
     clear hy39 hA39
     have KL39 := Aside0.mk (show 1 ≤ y298.length from Z523)
     replace q39 := eq_true q39
     have p308 : 0 ≤ (0 : Int) := Z523
     have q308 : 0 < (y298.length : Int) := of_decide_eq_true Z293
     obtain ⟨ad308,e308,hx308_0,hx308_1,hx308_2,hx308_3,hx308_4,hx308_5⟩ := at_T27 (Kd.R_reads' HO300.out).2.2 0 p308 q308
     cases e308
     have qi308 : (0 < y298.length) = True := eq_true Z523
     (try rw [show ((0 : Int)).toNat = 0 from rfl] at hx308_0)
     (try rw [show 0 * 6 = 0 from rfl] at hx308_0)
     (try rw [Addr.add_zero'] at hx308_0)
     (try rw [show ((0 : Int)).toNat = 0 from rfl] at hx308_1)
     (try rw [show 0 * 6 = 0 from rfl] at hx308_1)
     (try rw [Addr.add_zero'] at hx308_1)
     (try rw [show ((0 : Int)).toNat = 0 from rfl] at hx308_2)
     (try rw [show 0 * 6 = 0 from rfl] at hx308_2)
     (try rw [Addr.add_zero'] at hx308_2)
     (try rw [show ((0 : Int)).toNat = 0 from rfl] at hx308_3)
     (try rw [show 0 * 6 = 0 from rfl] at hx308_3)
     (try rw [Addr.add_zero'] at hx308_3)
     (try rw [show ((0 : Int)).toNat = 0 from rfl] at hx308_4)
     (try rw [show 0 * 6 = 0 from rfl] at hx308_4)
     (try rw [Addr.add_zero'] at hx308_4)
     (try rw [show ((0 : Int)).toNat = 0 from rfl] at hx308_5)
     (try rw [show 0 * 6 = 0 from rfl] at hx308_5)
     (try rw [Addr.add_zero'] at hx308_5)
     replace p308 := eq_true p308
     replace q308 := eq_true q308
     have hr39 := Kd.Q_drop (k := (1 : Int).toNat) (Kd.Q_of_R HO300.out) (show _ ≤ _ from by have h_ := KL39.out;omega)
     rw [show (y298).drop (1 : Int).toNat = y304 from Ny304.out.symm] at hr39
     replace hr39 : Kd.Q k27 27 _ w.heap.size (fun _ => True) (.slice A39 y304.length c39) y304 := (by rw [KA39.out,KC39.out,KY39.out];exact hr39)
     have HE39 : Aside0 ((Value.slice A39 y304.length c39).ownBlock = (.slice (some ad308) y298.length co36 : Value).ownBlock) := ⟨by rw [KA39.out];split <;> (cases ((some ad308) : Option Addr) <;> rfl)⟩
     clear HO300 HR307
     have HO310 := Aside0.mk hr39
     clear hr39
     have n_ := Aside0.mk (Kd.N_mono (ok' := fun k_ => (k_ ≠ g ∧ some k_ ≠ (.slice A39 y304.length c39 : Value).ownBlock)) HO_3.out (fun k_ hk => ⟨hk.1,(by rw [HE39.out];exact hk.2)⟩))
     clear HO_3
     have HO_3 := n_
     clear n_
     refine start_ (n := 8) (S := fun w' => w'.cell? ad308 = some (.int .i64 ((rd_T27 y298 0).f0)) ∧ w'.cell? ⟨ad308.block,ad308.off + 1,none⟩ = some (.int .i64 ((rd_T27 y298 0).f1)) ∧ w'.cell? ⟨ad308.block,ad308.off + 2,none⟩ = some (.int .i64 ((rd_T27 y298 0).f2.f0)) ∧ w'.cell? ⟨ad308.block,ad308.off + 3,none⟩ = some (.int .i64 ((rd_T27 y298 0).f2.f1)) ∧ w'.cell? ⟨ad308.block,ad308.off + 4,none⟩ = some (.int .i64 ((rd_T27 y298 0).f3.f0)) ∧ w'.cell? ⟨ad308.block,ad308.off + 5,none⟩ = some (.int .i64 ((rd_T27 y298 0).f3.f1))) (ds := [5,6]) (qM 8 0) Z310 rfl (by kernel_rfl) ⟨hx308_0,hx308_1,hx308_2,hx308_3,hx308_4,hx308_5⟩ (fun hHeld => ?_);refine with_tabW spec_l16Cands.tab13 spec_l16Cands.bits13 (fun HT_ HW_ => ?_)
     generalize w37.drew = w38 at HO_3 HI0 HK HB HO310 hx308_0 hx308_1 hx308_2 hx308_3 hx308_4 hx308_5 hHeld ⊢
     refine rP 0 45 8 1 HT_ (h := ?_)
     refine rP 1 46 8 3 HT_ (h := ?_)
     refine rP 2 47 8 7 HT_ (h := ?_)
     refine rP 3 48 8 15 HT_ (h := ?_)
     refine rT6 4 49 8 31 HT_ HW_ hHeld (h := ?_)
     refine last_ (i := 5) (N := some 50) (qM 8 63) rfl rfl (one_of HT_.out Z310) Z522 (fun K hK => ?_)
     refine value_ (w1 := ?_) (v := ?_) Z311 rfl ?_ ?_
     rotate_left 2
     ·go_simp
      constructor
      ·rfl
      rfl
     refine hK.out _ _ ?_
     clear hK K
     refine rN (h := ?_)
     refine last_ (i := 6) (N := some 51) (qM 8 127) rfl rfl (one_of HT_.out Z310) Z522 (fun K hK => ?_)
     refine Kd.Q_append_step k27 w.heap.size Z311 (.tmp 46) (.tmp 50) 33 27 (.agg #[(.int .i64 0),(.int .i64 0),(.int .i64 0),(.int .i64 0),(.int .i64 0),(.int .i64 0)]) 48 rfl Try.underlying33 info27 rfl Z522 Z523 (.slice A39 y304.length c39) y304 (⟨(rd_T27 y298 0).f0,(rd_T27 y298 0).f1,(⟨(rd_T27 y298 0).f2.f0,(rd_T27 y298 0).f2.f1⟩ : S25),(⟨(rd_T27 y298 0).f3.f0,(rd_T27 y298 0).f3.f1⟩ : S25)⟩ : S27) [.int .i64 ((rd_T27 y298 0).f0),.int .i64 ((rd_T27 y298 0).f1),.int .i64 ((rd_T27 y298 0).f2.f0),.int .i64 ((rd_T27 y298 0).f2.f1),.int .i64 ((rd_T27 y298 0).f3.f0),.int .i64 ((rd_T27 y298 0).f3.f1)] (fun _ => True) (fun _ => False) rfl rfl ?aP (fun _ hk => hk.elim) ?aF ?aO (Below.refl _ _) ?aS ?aL ?_
     (case aP => exact k27_mkM _ _ _ (⟨(rd_T27 y298 0).f0,(rd_T27 y298 0).f1,(⟨(rd_T27 y298 0).f2.f0,(rd_T27 y298 0).f2.f1⟩ : S25),(⟨(rd_T27 y298 0).f3.f0,(rd_T27 y298 0).f3.f1⟩ : S25)⟩ : S27))
     (case aF => exact Z306)
     (case aO => exact (by (with_reducible repeat (first | apply Kd.Q_alloc | apply Kd.Q_drewN | apply Kd.Q_drew));exact HO310.out))
     (case aS => exact Z196)
     (case aL => have := LMc30.out;omega)
     intro v312 w40 ho hb hg hat
     rw [← Ny311.out] at ho
     have n0_ := Aside0.mk (Kd.N_afterv (ok := (fun k_ => k_ ≠ g)) Z484 hg hat)
     have n1_ := Aside0.mk (IsS48.grown Z399 hg (IsS48.own_neQ HI0.out HO310.out Z522))
     have n2_ := Aside0.mk (below_weaken Z398 HL.out hb)
     have n3_ := Aside0.mk (KeepBut.trans Z573 (KeepBut.of_grown hg g) (Kd.Q_base2 HO310.out))
     have n4_ := Aside0.mk (ho)
     clear HO_3
     clear HI0
     clear HB
     clear HK
     clear HO310
     have HO_3 := n0_
     have HI0 := n1_
     have HB := n2_
     have HK := n3_
     have HO313 := n4_
     clear n0_ n1_ n2_ n3_ n4_
     clear ho hb hg hat
     refine hK.out _ _ ?_
     clear hK K
     refine rN (h := ?_)
     refine rP 7 6 8 255 HT_ (h := ?_)
     refine done_ (done_of HT_.out Z310) ?_
     try go_wp2
     go_ret
     exact ⟨_,Z265,by (with_reducible repeat (first | apply Kd.Q_alloc | apply Kd.Q_drewN | apply Kd.Q_drew));exact HO313.out,Z399,Z398,Z573⟩

end Go.Proofs.Ytlflcgdcegohjaa.QFnBetter
