/- The machine side of FnGrid: what each Go function that it reaches comes to. Conditions: none. -/
import Derived.Test.YtlflcgdcegohjabQFnGridx0
import Derived.Test.YtlflcgdcegohjabQFnGridx1
namespace Go.Proofs.Ytlflcgdcegohjab.QFnGrid
open Go.RowKit Go.Proofs.YtlflcgdcegohjabW.PrintWords Go.Proofs.YtlflcgdcegohjabW.PrintLast Go.Proofs.YtlflcgdcegohjabW.PrintMore
attribute [local go_sem] max2_int min2_int max_two min_two max_three min_three max_four min_four   -- for this text's walks alone
set_option linter.unusedVariables false
set_option linter.unusedSimpArgs false

/-! ### spec_l9Right: function 36 -/
mutual
def spec_l9Right.j0 : Nat → Int → Int → List Int → Int → Int → List ByteArray → ByteArray → Option (List ByteArray × ByteArray × (List (List Int)) × List Int × Int × Int)
 | 0,_,_,_,_,_,_,_ => none
 | k + 1,x3,x5,x1000,x1001,x1002,x168000,x168001 => (spec_l1Once.f x1000 x1001 x1002 12).bind fun bt177 => (spec_l9Right.l0 k x3 x5 bt177.1 0 x1000 bt177.2.1 bt177.2.2 x168000 x168001 ([] : List (List Int)) ([] : List Int))
def spec_l9Right.l0 : Nat → Int → Int → Bool → Int → List Int → Int → Int → List ByteArray → ByteArray → List (List Int) → List Int → Option (List ByteArray × ByteArray × (List (List Int)) × List Int × Int × Int)
 | 0,_,_,_,_,_,_,_,_,_,_,_ => none
 | k + 1,x3,x5,x6,x7,x1000,x1001,x1002,x168000,x168001,x168002,x168003 => if x7 < x5 then (spec_l9Right.l1 k x3 x5 x6 x7 (([] : List Int)) 0 x1000 x1001 x1002 x168000 x168001 x168002 x168003) else (some (x168000,x168001,x168002,x168003,x1001,x1002))
def spec_l9Right.l1 : Nat → Int → Int → Bool → Int → List Int → Int → List Int → Int → Int → List ByteArray → ByteArray → List (List Int) → List Int → Option (List ByteArray × ByteArray × (List (List Int)) × List Int × Int × Int)
 | 0,_,_,_,_,_,_,_,_,_,_,_,_,_ => none
 | k + 1,x3,x5,x6,x7,x8,x9,x1000,x1001,x1002,x168000,x168001,x168002,x168003 => if x9 < x3 then ((spec_l6Small.f x1000 x1001 x1002).bind fun bt183 => (if x6 = true then (if x8.length < 17592186044416 then (spec_l9Right.l1 k x3 x5 x6 x7 (x8 ++ [bt183.1]) (wrap64 (x9 + 1)) x1000 bt183.2.1 bt183.2.2 x168000 x168001 x168002 x168003) else (none)) else ((spec_l1Below.f x1000 bt183.2.1 bt183.2.2 7).bind fun bt189 => (if x8.length < 17592186044416 then (spec_l9Right.l1 k x3 x5 x6 x7 (x8 ++ [wrap64 (500 * (wrap64 (bt189.1 - 3)))]) (wrap64 (x9 + 1)) x1000 bt189.2.1 bt189.2.2 x168000 x168001 x168002 x168003) else (none))))) else (if x168002.length < 5864062014805 then ((some (x168002 ++ [x8] : List (List Int))).bind fun y195 => ((spec_l6Small.f x1000 x1001 x1002).bind fun bt198 => (if x6 = true then (if x168003.length < 17592186044416 then (spec_l9Right.l0 k x3 x5 x6 (wrap64 (x7 + 1)) x1000 bt198.2.1 bt198.2.2 x168000 x168001 y195 (x168003 ++ [bt198.1])) else (none)) else ((spec_l1Once.f x1000 bt198.2.1 bt198.2.2 4).bind fun bt204 => (if bt204.1 = true then (if x168003.length < 17592186044416 then (spec_l9Right.l0 k x3 x5 x6 (wrap64 (x7 + 1)) x1000 bt204.2.1 bt204.2.2 x168000 x168001 y195 (x168003 ++ [bt198.1])) else (none)) else (if 0 < (x8.length : Int) then ((spec_l1Below.f x1000 bt204.2.1 bt204.2.2 5).bind fun bt211 => (if x168003.length < 17592186044416 then (spec_l9Right.l0 k x3 x5 x6 (wrap64 (x7 + 1)) x1000 bt211.2.1 bt211.2.2 x168000 x168001 y195 (x168003 ++ [wrap64 ((wrap64 ((rd x8 0) * 2)) + (wrap64 (100 * bt211.1)))])) else (none))) else (none))))))) else (none))
end
def spec_l9Right.f (k : Nat) (s0_0 : List Int) (s0_1 : Int) (s0_2 : Int) : Option (List ByteArray × ByteArray × (List (List Int)) × List Int × Int × Int) := (spec_l1Below.f s0_0 s0_1 s0_2 3).bind fun bt151 => ((some (([] : List ByteArray) : List ByteArray)).bind fun y154 => ((some (([(⟨#[97]⟩ : ByteArray),(⟨#[98]⟩ : ByteArray),(⟨#[99,50]⟩ : ByteArray),(⟨#[100]⟩ : ByteArray)] : List ByteArray) : List ByteArray)).bind fun y157 => (if 0 ≤ (wrap64 (1 + bt151.1)) then (if (wrap64 (1 + bt151.1)) ≤ (y157.length : Int) then ((some (y157.take ((wrap64 (1 + bt151.1)) : Int).toNat : List ByteArray)).bind fun y160 => (if y154.length + y160.length < 8796093022208 then ((some (y154 ++ y160 : List ByteArray)).bind fun y164 => ((spec_l1Below.f s0_0 bt151.2.1 bt151.2.2 9).bind fun bt168 => ((spec_l1Once.f s0_0 bt168.2.1 bt168.2.2 10).bind fun bt171 => (if bt171.1 = true then ((spec_l1Below.f s0_0 bt171.2.1 bt171.2.2 40).bind fun bt174 => (spec_l9Right.j0 k (wrap64 (1 + bt151.1)) (wrap64 (1 + bt174.1)) s0_0 bt174.2.1 bt174.2.2 y164 (⟨#[121]⟩ : ByteArray))) else (spec_l9Right.j0 k (wrap64 (1 + bt151.1)) (wrap64 (1 + bt168.1)) s0_0 bt171.2.1 bt171.2.2 y164 (⟨#[121]⟩ : ByteArray)))))) else (none))) else (none)) else (none))))
theorem spec_l9Right.mono_l : ∀ k,(∀ y0 y1 y2 y3 y4 y5 y6,LeO (spec_l9Right.j0 k y0 y1 y2 y3 y4 y5 y6) (spec_l9Right.j0 (k + 1) y0 y1 y2 y3 y4 y5 y6)) ∧ (∀ y0 y1 y2 y3 y4 y5 y6 y7 y8 y9 y10,LeO (spec_l9Right.l0 k y0 y1 y2 y3 y4 y5 y6 y7 y8 y9 y10) (spec_l9Right.l0 (k + 1) y0 y1 y2 y3 y4 y5 y6 y7 y8 y9 y10)) ∧ (∀ y0 y1 y2 y3 y4 y5 y6 y7 y8 y9 y10 y11 y12,LeO (spec_l9Right.l1 k y0 y1 y2 y3 y4 y5 y6 y7 y8 y9 y10 y11 y12) (spec_l9Right.l1 (k + 1) y0 y1 y2 y3 y4 y5 y6 y7 y8 y9 y10 y11 y12))
 | 0 => ⟨fun _ _ _ _ _ _ _ r h => by simp [spec_l9Right.j0] at h,fun _ _ _ _ _ _ _ _ _ _ _ r h => by simp [spec_l9Right.l0] at h,fun _ _ _ _ _ _ _ _ _ _ _ _ _ r h => by simp [spec_l9Right.l1] at h⟩
 | k + 1 => by
  obtain ⟨ih0,ih1,ih2⟩ := spec_l9Right.mono_l k
  refine ⟨?_,?_,?_⟩
  ·intro y0 y1 y2 y3 y4 y5 y6
   unfold spec_l9Right.j0
   repeat' first
   | (with_reducible exact ih0 _ _ _ _ _ _ _)
   | (with_reducible exact ih1 _ _ _ _ _ _ _ _ _ _ _)
   | (with_reducible exact ih2 _ _ _ _ _ _ _ _ _ _ _ _ _)
   | (with_reducible exact LeO.refl _)
   | (with_reducible exact LeO.none _)
   | (with_reducible refine LeO.ite ?_ ?_)
   | (with_reducible refine LeO.bind ?_ (fun _ => ?_))
   | exact ih0 _ _ _ _ _ _ _
   | exact ih1 _ _ _ _ _ _ _ _ _ _ _
   | exact ih2 _ _ _ _ _ _ _ _ _ _ _ _ _
   | exact LeO.none _
   | refine LeO.ite ?_ ?_
   | refine LeO.bind ?_ (fun _ => ?_)
  ·intro y0 y1 y2 y3 y4 y5 y6 y7 y8 y9 y10
   unfold spec_l9Right.l0
   repeat' first
   | (with_reducible exact ih0 _ _ _ _ _ _ _)
   | (with_reducible exact ih1 _ _ _ _ _ _ _ _ _ _ _)
   | (with_reducible exact ih2 _ _ _ _ _ _ _ _ _ _ _ _ _)
   | (with_reducible exact LeO.refl _)
   | (with_reducible exact LeO.none _)
   | (with_reducible refine LeO.ite ?_ ?_)
   | (with_reducible refine LeO.bind ?_ (fun _ => ?_))
   | exact ih0 _ _ _ _ _ _ _
   | exact ih1 _ _ _ _ _ _ _ _ _ _ _
   | exact ih2 _ _ _ _ _ _ _ _ _ _ _ _ _
   | exact LeO.none _
   | refine LeO.ite ?_ ?_
   | refine LeO.bind ?_ (fun _ => ?_)
  ·intro y0 y1 y2 y3 y4 y5 y6 y7 y8 y9 y10 y11 y12
   unfold spec_l9Right.l1
   repeat' first
   | (with_reducible exact ih0 _ _ _ _ _ _ _)
   | (with_reducible exact ih1 _ _ _ _ _ _ _ _ _ _ _)
   | (with_reducible exact ih2 _ _ _ _ _ _ _ _ _ _ _ _ _)
   | (with_reducible exact LeO.refl _)
   | (with_reducible exact LeO.none _)
   | (with_reducible refine LeO.ite ?_ ?_)
   | (with_reducible refine LeO.bind ?_ (fun _ => ?_))
   | exact ih0 _ _ _ _ _ _ _
   | exact ih1 _ _ _ _ _ _ _ _ _ _ _
   | exact ih2 _ _ _ _ _ _ _ _ _ _ _ _ _
   | exact LeO.none _
   | refine LeO.ite ?_ ?_
   | refine LeO.bind ?_ (fun _ => ?_)
theorem spec_l9Right.mono : ∀ a0 a1 a2 k,LeO (spec_l9Right.f k a0 a1 a2) (spec_l9Right.f (k + 1) a0 a1 a2) := by
 intro a0 a1 a2 k
 obtain ⟨ih0,ih1,ih2⟩ := spec_l9Right.mono_l k
 unfold spec_l9Right.f
 repeat' first
   | (with_reducible exact ih0 _ _ _ _ _ _ _)
   | (with_reducible exact ih1 _ _ _ _ _ _ _ _ _ _ _)
   | (with_reducible exact ih2 _ _ _ _ _ _ _ _ _ _ _ _ _)
   | (with_reducible exact LeO.refl _)
   | (with_reducible exact LeO.none _)
   | (with_reducible refine LeO.ite ?_ ?_)
   | (with_reducible refine LeO.bind ?_ (fun _ => ?_))
   | exact ih0 _ _ _ _ _ _ _
   | exact ih1 _ _ _ _ _ _ _ _ _ _ _
   | exact ih2 _ _ _ _ _ _ _ _ _ _ _ _ _
   | exact LeO.none _
   | refine LeO.ite ?_ ?_
   | refine LeO.bind ?_ (fun _ => ?_)
def spec_l9Right.T21 : Bool × List (List Nat × List Nat) := (true,[([],[]),([0],[0]),([1],[1]),([2],[2]),([],[]),([4],[4]),([5],[5]),([3,6],[3,6]),([7,5,0,1,2,3,4,5,6,7],[7])])
def spec_l9Right.B21 : List Nat := [0,1,3,7,0,16,48,127,255]
theorem spec_l9Right.tab21 : rtab .any (opsOf Try.f36 21) = spec_l9Right.T21 := by kernel_rfl
theorem spec_l9Right.bits21 : waitsOk spec_l9Right.T21.2 spec_l9Right.B21 = true := by kernel_rfl
set_option maxHeartbeats 8000000 in
set_option maxRecDepth 100000 in
theorem spec_l9Right.calls (k : Nat) (g : Nat) (s0_0 : List Int) (s0_1 : Int) (s0_2 : Int) (r1 : List ByteArray) (r2 : ByteArray) (r3 : List (List Int)) (r4 : List Int) (r5 : Int) (r6 : Int) (w0 w : World) (hI : IsS53 w0 w g s0_0 s0_1 s0_2) (hB : Below w0.heap.size w0 w) (h : spec_l9Right.f k s0_0 s0_1 s0_2 = some (r1,r2,r3,r4,r5,r6)) :
  Calls Try.prog 36 #[.pointer (some ⟨g,0,none⟩)] w fun e w' => ∃ v0_ v2_ v3_ : Value,e = .returned (.agg #[v0_,.string r2,v2_,v3_]) ∧ Kd.R Kd.string 9 w' w.heap.size (fun _ => True) v0_ r1 ∧ Kd.S (Kd.slice 3 (Kd.int .i64)) 26 w' w.heap.size (fun k_ => some k_ ≠ (v3_ : Value).ownBlock) v2_ r3 ∧ Kd.R (Kd.int .i64) 3 w' w.heap.size (fun _ => True) v3_ r4 ∧ IsS53 w0 w' g s0_0 r5 r6 ∧ Below w0.heap.size w0 w' ∧ KeepBut w w' g none := by
 have hu28 := Try.underlying28
 have HI0 := Aside0.mk hI
 have HK := Aside0.mk (KeepBut.refl w g none)
 have HL := Aside0.mk hB.size
 clear hI
 have HW0 := Aside0.mk hB.size
 have HB := Aside0.mk hB
 clear hB
 have H := h
 clear h
 unfold spec_l9Right.f at H
 obtain ⟨⟨t151,t152,t153⟩,A20,H⟩ := Option.bind_eq_some_iff.mp H
 try dsimp only at H
 have A2 := Aside0.mk A20
 clear A20
 obtain ⟨y154,hyy⟩ : ∃ y_ : List ByteArray,y_ = (([] : List ByteArray)) := ⟨_,rfl⟩
 replace H : ((some (([(⟨#[97]⟩ : ByteArray),(⟨#[98]⟩ : ByteArray),(⟨#[99,50]⟩ : ByteArray),(⟨#[100]⟩ : ByteArray)] : List ByteArray) : List ByteArray)).bind fun y157 => (if 0 ≤ (wrap64 (1 + t151)) then (if (wrap64 (1 + t151)) ≤ (y157.length : Int) then ((some (y157.take ((wrap64 (1 + t151)) : Int).toNat : List ByteArray)).bind fun y160 => (if y154.length + y160.length < 8796093022208 then ((some (y154 ++ y160 : List ByteArray)).bind fun y164 => ((spec_l1Below.f s0_0 t152 t153 9).bind fun bt168 => ((spec_l1Once.f s0_0 bt168.2.1 bt168.2.2 10).bind fun bt171 => (if bt171.1 = true then ((spec_l1Below.f s0_0 bt171.2.1 bt171.2.2 40).bind fun bt174 => (spec_l9Right.j0 k (wrap64 (1 + t151)) (wrap64 (1 + bt174.1)) s0_0 bt174.2.1 bt174.2.2 y164 (⟨#[121]⟩ : ByteArray))) else (spec_l9Right.j0 k (wrap64 (1 + t151)) (wrap64 (1 + bt168.1)) s0_0 bt171.2.1 bt171.2.2 y164 (⟨#[121]⟩ : ByteArray)))))) else (none))) else (none)) else (none))) = some (r1,r2,r3,r4,r5,r6) := zR
 have Ny154 := Aside0.mk hyy
 clear hyy
 obtain ⟨y157,hyy⟩ : ∃ y_ : List ByteArray,y_ = (([(⟨#[97]⟩ : ByteArray),(⟨#[98]⟩ : ByteArray),(⟨#[99,50]⟩ : ByteArray),(⟨#[100]⟩ : ByteArray)] : List ByteArray)) := ⟨_,rfl⟩
 replace H : (if 0 ≤ (wrap64 (1 + t151)) then (if (wrap64 (1 + t151)) ≤ (y157.length : Int) then ((some (y157.take ((wrap64 (1 + t151)) : Int).toNat : List ByteArray)).bind fun y160 => (if y154.length + y160.length < 8796093022208 then ((some (y154 ++ y160 : List ByteArray)).bind fun y164 => ((spec_l1Below.f s0_0 t152 t153 9).bind fun bt168 => ((spec_l1Once.f s0_0 bt168.2.1 bt168.2.2 10).bind fun bt171 => (if bt171.1 = true then ((spec_l1Below.f s0_0 bt171.2.1 bt171.2.2 40).bind fun bt174 => (spec_l9Right.j0 k (wrap64 (1 + t151)) (wrap64 (1 + bt174.1)) s0_0 bt174.2.1 bt174.2.2 y164 (⟨#[121]⟩ : ByteArray))) else (spec_l9Right.j0 k (wrap64 (1 + t151)) (wrap64 (1 + bt168.1)) s0_0 bt171.2.1 bt171.2.2 y164 (⟨#[121]⟩ : ByteArray)))))) else (none))) else (none)) else (none)) = some (r1,r2,r3,r4,r5,r6) := zR
 have Ny157 := Aside0.mk hyy
 clear hyy
 obtain ⟨ji3,hji3⟩ : ∃ j_ : Int,(wrap64 (1 + t151)) = j_ := ⟨_,rfl⟩
 replace H : (if 0 ≤ (ji3) then (if (ji3) ≤ (y157.length : Int) then ((some (y157.take ((ji3) : Int).toNat : List ByteArray)).bind fun y160 => (if y154.length + y160.length < 8796093022208 then ((some (y154 ++ y160 : List ByteArray)).bind fun y164 => ((spec_l1Below.f s0_0 t152 t153 9).bind fun bt168 => ((spec_l1Once.f s0_0 bt168.2.1 bt168.2.2 10).bind fun bt171 => (if bt171.1 = true then ((spec_l1Below.f s0_0 bt171.2.1 bt171.2.2 40).bind fun bt174 => (spec_l9Right.j0 k ji3 (wrap64 (1 + bt174.1)) s0_0 bt174.2.1 bt174.2.2 y164 (⟨#[121]⟩ : ByteArray))) else (spec_l9Right.j0 k ji3 (wrap64 (1 + bt168.1)) s0_0 bt171.2.1 bt171.2.2 y164 (⟨#[121]⟩ : ByteArray)))))) else (none))) else (none)) else (none)) = some (r1,r2,r3,r4,r5,r6) := by first | (rw [hji3] at H;exact H) | (simp only [hji3] at H ⊢;exact H)
 (try rw [hji3] at A2)
 have hji3w : (IntKind.i64.wrap (1 + t151)) = ji3 := (i64_w _).trans hji3
 obtain ⟨c4,H⟩ := ifp H
 have c4b0 := eq_true c4
 have c4b1 : decide (0 ≤ (ji3)) = true := decide_eq_true c4
 clear c4
 obtain ⟨c5,H⟩ := ifp H
 have c5b0 := eq_true c5
 have c5b1 : decide ((ji3) ≤ (y157.length : Int)) = true := decide_eq_true c5
 clear c5
 obtain ⟨y160,hyy⟩ : ∃ y_ : List ByteArray,y_ = (y157.take ((ji3) : Int).toNat) := ⟨_,rfl⟩
 replace H : (if y154.length + y160.length < 8796093022208 then ((some (y154 ++ y160 : List ByteArray)).bind fun y164 => ((spec_l1Below.f s0_0 t152 t153 9).bind fun bt168 => ((spec_l1Once.f s0_0 bt168.2.1 bt168.2.2 10).bind fun bt171 => (if bt171.1 = true then ((spec_l1Below.f s0_0 bt171.2.1 bt171.2.2 40).bind fun bt174 => (spec_l9Right.j0 k ji3 (wrap64 (1 + bt174.1)) s0_0 bt174.2.1 bt174.2.2 y164 (⟨#[121]⟩ : ByteArray))) else (spec_l9Right.j0 k ji3 (wrap64 (1 + bt168.1)) s0_0 bt171.2.1 bt171.2.2 y164 (⟨#[121]⟩ : ByteArray)))))) else (none)) = some (r1,r2,r3,r4,r5,r6) := zR
 have Ny160 := Aside0.mk hyy
 clear hyy
 obtain ⟨c6,H⟩ := ifp H
 have LMc6 := Aside0.mk c6
 clear c6
 obtain ⟨y164,hyy⟩ : ∃ y_ : List ByteArray,y_ = (y154 ++ y160) := ⟨_,rfl⟩
 replace H : ((spec_l1Below.f s0_0 t152 t153 9).bind fun bt168 => ((spec_l1Once.f s0_0 bt168.2.1 bt168.2.2 10).bind fun bt171 => (if bt171.1 = true then ((spec_l1Below.f s0_0 bt171.2.1 bt171.2.2 40).bind fun bt174 => (spec_l9Right.j0 k ji3 (wrap64 (1 + bt174.1)) s0_0 bt174.2.1 bt174.2.2 y164 (⟨#[121]⟩ : ByteArray))) else (spec_l9Right.j0 k ji3 (wrap64 (1 + bt168.1)) s0_0 bt171.2.1 bt171.2.2 y164 (⟨#[121]⟩ : ByteArray))))) = some (r1,r2,r3,r4,r5,r6) := zR
 have Ny164 := Aside0.mk hyy
 clear hyy
 obtain ⟨⟨t168,t169,t170⟩,A70,H⟩ := Option.bind_eq_some_iff.mp H
 try dsimp only at H
 have A7 := Aside0.mk A70
 clear A70
 obtain ⟨⟨t171,t172,t173⟩,A80,H⟩ := Option.bind_eq_some_iff.mp H
 try dsimp only at H
 have A8 := Aside0.mk A80
 clear A80
 have HC9 := Aside0.mk H
 clear H
 go_enter Try.func36,Try.ntmps36
 go_upto_if 25 with (first | ((with_reducible refine gate_dst (N := 2) rfl ?_);refine bE 2 #[.slice none 0 0,.string (⟨#[]⟩ : ByteArray),.slice none 0 0,.slice none 0 0] 28 (h := ?_);intro gb150 hg w10 hbox hb;have n_ := jA (IsS53.below Z277 hb) (jA (KeepBut.trans Z288 (KeepBut.of_below hb g none) (.inl rfl)) (jA (below_step Z276 hb) (jA (hbox) (jA ((Z78 : w.heap.size ≤ gb150)) (jA ((Nat.le_trans HW0.out (Z78 : w.heap.size ≤ gb150) : w0.heap.size ≤ gb150)) (jA ((by rw [hg];exact Nat.ne_of_lt (IsS53.lt (show IsS53 w0 _ g s0_0 s0_1 s0_2 from Z277)) : g ≠ gb150)) (Aside0.mk ((by rw [hg];exact Nat.ne_of_gt (IsS53.lt (show IsS53 w0 _ g s0_0 s0_1 s0_2 from Z277)) : gb150 ≠ g)))))))));clear HI0 HK HB;obtain ⟨HI0,HK,HB,BK150,GW150,GE150,NB0_150,NB150_0⟩ := n_;clear hb hbox hg) | ((with_reducible refine gate_callee (f := 37) rfl ?_);refine goesL_ (some 13) rfl rfl Try.func37 Z256 rfl #[.pointer (some ⟨g,0,none⟩),.int .i64 3] rfl Z159 ?_;(with_reducible refine (spec_l1Below.calls g s0_0 s0_1 s0_2 3 t151 t152 t153 w0 _ ?side1 ?side2 A2.out).mono ?_);(case side1 => exact Z84);(case side2 => exact Z86);rintro e w11 ⟨rfl,hi,hb,hk⟩;refine ⟨_,rfl,?_⟩;have n_ := jA (KeepBut.blk hk (g' := gb150) (o := .cells #[.slice none 0 0,.string (⟨#[]⟩ : ByteArray),.slice none 0 0,.slice none 0 0] 28 (0,0)) Z320 NB150_0.out Z332) (jA (KeepBut.trans Z274 hk (.inl rfl)) (jA (hb) (Aside0.mk (hi))));clear BK150 HK HB HI0;obtain ⟨BK150,HK,HB,HI0⟩ := n_;(try clear hb);(try clear hb2);(try clear hk);(try clear hi)) | ((with_reducible refine gate_dst (N := 15) rfl ?_);refine Kd.R_lit Kd.string _ 9 ?hg (N := 15) ?hd (xs := ([] : List ByteArray)) (inner := []) (ok := fun _ => True) (okp := fun _ => True) ?hr ?hp (fun _ hk => hk) trivial (Below.refl _ _) (Nat.le_refl _) Z332 ?_;(case hd => rfl);(case hg => rfl);(case hr => exact Z231);(case hp => exact Z252);intro v155 w12 ho13 hb hg_ hnew_;clear hg_ hnew_;(first | rw [← Ny154.out] at ho13 | (simp only [Int.reduceToNat] at ho13;rw [← Ny154.out] at ho13));have n_ := jA (Kd.R_lower ho13 (keep_size (w := w) (g := g) (row := none) Z274)) (jA (IsS53.below Z84 hb) (jA (blk_below (g := gb150) (o := .cells #[.slice none 0 0,.string (⟨#[]⟩ : ByteArray),.slice none 0 0,.slice none 0 0] 28 (0,0)) Z320 hb) (jA (KeepBut.trans Z274 (KeepBut.of_below hb g none) (.inl rfl)) (Aside0.mk (below_step Z86 hb)))));clear HI0 BK150 HK HB;obtain ⟨HO156,HI0,BK150,HK,HB⟩ := n_;clear hb ho13) | ((with_reducible refine gate_dst (N := 16) rfl ?_);refine Kd.R_lit Kd.string _ 9 ?hg (N := 16) ?hd (xs := ([(⟨#[97]⟩ : ByteArray),(⟨#[98]⟩ : ByteArray),(⟨#[99,50]⟩ : ByteArray),(⟨#[100]⟩ : ByteArray)] : List ByteArray)) (inner := [.string (⟨#[97]⟩ : ByteArray),.string (⟨#[98]⟩ : ByteArray),.string (⟨#[99,50]⟩ : ByteArray),.string (⟨#[100]⟩ : ByteArray)]) (ok := fun _ => True) (okp := fun _ => True) ?hr ?hp (fun _ hk => hk) trivial (Below.refl _ _) (Nat.le_refl _) Z332 ?_;(case hd => rfl);(case hg => rfl);(case hr => exact Z231);(case hp => exact (Reps.one (show Kd.M Kd.string _ _ _ (⟨#[97]⟩ : ByteArray) [.string (⟨#[97]⟩ : ByteArray)] from rfl) (Reps.one (show Kd.M Kd.string _ _ _ (⟨#[98]⟩ : ByteArray) [.string (⟨#[98]⟩ : ByteArray)] from rfl) (Reps.one (show Kd.M Kd.string _ _ _ (⟨#[99,50]⟩ : ByteArray) [.string (⟨#[99,50]⟩ : ByteArray)] from rfl) (Reps.one (show Kd.M Kd.string _ _ _ (⟨#[100]⟩ : ByteArray) [.string (⟨#[100]⟩ : ByteArray)] from rfl) (Reps.none _ _))))));intro v158 w14 ho15 hb hg_ hnew_;clear hg_ hnew_;(first | rw [← Ny157.out] at ho15 | (simp only [Int.reduceToNat] at ho15;rw [← Ny157.out] at ho15));have n_ := jA (Kd.R_elder' Z206 (Kd.R_base ho15) hb) (jA (Kd.R_lower (Kd.R_new' ho15 (Kd.R_lt Z206)) (keep_size (w := w) (g := g) (row := none) Z274)) (jA (IsS53.below Z84 hb) (jA (blk_below (g := gb150) (o := .cells #[.slice none 0 0,.string (⟨#[]⟩ : ByteArray),.slice none 0 0,.slice none 0 0] 28 (0,0)) Z320 hb) (jA (KeepBut.trans Z274 (KeepBut.of_below hb g none) (.inl rfl)) (Aside0.mk (below_step Z86 hb))))));clear HO156 HI0 BK150 HK HB;obtain ⟨HO156,HO159,HI0,BK150,HK,HB⟩ := n_;clear hb ho15;obtain ⟨Ao17,co17,eo17⟩ := Kd.R_slice HO159.out;subst eo17;have q16 : ((ji3) : Int) ≤ ((y157.length : Int) : Int) := of_decide_eq_true Z229;obtain ⟨i016,hi016,_,hsz16,_⟩ := info_parts info9;have hroom16 : y157.length ≤ co17 := (Kd.R_reads' HO159.out).2.1;have hC16 : Kd.C Kd.string _ Ao17 y157.length y157 := (Kd.R_reads' HO159.out).2.2;have hcut16 := cut_to (P := Try.prog) 24 9 .i64 Try.underlying24 hi016 Ao17 y157.length co17 (ji3) (of_decide_eq_true Z229) q16 hroom16;have hr16 := Kd.C_take (m := ((ji3) : Int).toNat) hC16 Z331;have hy16 : y160.length = ((ji3) : Int).toNat := (by rw [Ny160.out,List.length_take];omega);rw [← Ny160.out] at hr16;rw [← hy16] at hcut16;have HR163 := Aside0.mk hr16;have HC163 := Aside0.mk (show y160.length ≤ co17 from Z331);clear hr16 hC16 hroom16 hi016 hsz16;have KY16 := Aside0.mk hy16;clear hy16;have KL16 := Aside0.mk (show ((ji3) : Int).toNat ≤ y157.length from Z331);replace q16 := eq_true q16) | ((with_reducible refine gate_builtin (b := .append) (xs := #[.tmp 15,.tmp 18]) rfl ?_);at_builtin;refine Kd.R_append_rows Kd.string w.heap.size rfl (.tmp 15) (.tmp 18) 24 9 (.string ⟨#[]⟩) 16 rfl Try.underlying24 info9 rfl Z330 Z331 v155 y154 y160 _ _ _ (fun k_ => some k_ ≠ (.slice Ao17 y157.length co17 : Value).ownBlock) (fun _ => False) rfl rfl ?aO ?aR (fun _ _ h => h) (fun _ h => h.elim) ?aF (Below.refl _ _) ?aS ?aL ?_;(case aR => repeat (first | exact Z94 | (with_reducible refine Kd.C_alloc ?_ _) | (with_reducible refine Kd.C_drewN ?_ _) | (with_reducible refine Kd.C_drew ?_)));(case aF => exact (fun k_ hk => Kd.fresh' (Kd.R_lt Z185) k_ hk));(case aO => exact (by (with_reducible repeat (first | apply Kd.R_alloc | apply Kd.R_drewN | apply Kd.R_drew));exact Kd.R_mono HO156.out (fun _ hk => hk.2)));(case aS => exact (keep_size (w := w) (g := g) (row := none) Z274));(case aL => have := LMc6.out;omega);intro v165 w18 ho hb hg hat;rw [← Ny164.out] at ho;have n_ := jA (IsS53.grown (by repeat (first | (with_reducible first | exact HI0.out | exact IsS53.far HI0.out NB0_150.out _ | apply IsS53.alloc | apply IsS53.drewN | apply IsS53.drew | apply IsS53.set_1 | apply IsS53.set_2 | refine IsS53.far ?_ NB0_150.out _) | exact HI0.out)) hg (IsS53.own_ne HI0.out HO156.out Z330)) (jA (blk_grown (g := gb150) (o := .cells #[.slice none 0 0,.string (⟨#[]⟩ : ByteArray),.slice none 0 0,.slice none 0 0] 28 (0,0)) Z320 hg (Kd.R_ne HO156.out BK150.out Z330)) (jA (Kd.R_after (ok := (fun _ => True)) Z185 hg hat) (jA (below_weaken Z86 HL.out hb) (jA (KeepBut.trans Z274 (KeepBut.of_grown hg g) (Kd.R_base2 HO156.out)) (jA ((show Kd.C Kd.string w18 Ao17 y160.length y160 from by rw [Ny160.out];exact Kd.C_take (m := ((ji3) : Int).toNat) ((Kd.R_reads' (Kd.R_after (ok := (fun _ => True)) Z185 hg hat)).2.2) KL16.out)) (Aside0.mk (ho)))))));clear HI0 BK150 HO159 HB HK HR163 HO156;obtain ⟨HI0,BK150,HO159,HB,HK,HR163,HO166⟩ := n_;clear ho hb hg hat;obtain ⟨Ao19,co19,eo19⟩ := Kd.R_slice HO166.out;subst eo19) | ((with_reducible refine gate_dst (N := 4) rfl ?_);refine bE 4 #[.slice none 0 0,.string (⟨#[]⟩ : ByteArray),.slice none 0 0,.slice none 0 0] 28 (h := ?_);intro gb167 hg w20 hbox hb;have n_ := jA (Kd.R_below Z185 hb) (jA (Kd.R_below Z193 hb) (jA (IsS53.below Z84 hb) (jA (blk_below (g := gb150) (o := .cells #[.slice none 0 0,.string (⟨#[]⟩ : ByteArray),.slice none 0 0,.slice none 0 0] 28 (0,0)) Z320 hb) (jA (Kd.C_below Z94 hb) (jA (KeepBut.trans Z274 (KeepBut.of_below hb g none) (.inl rfl)) (jA (below_step Z86 hb) (jA (hbox) (jA ((Z66 : w.heap.size ≤ gb167)) (jA ((Nat.le_trans HW0.out (Z66 : w.heap.size ≤ gb167) : w0.heap.size ≤ gb167)) (jA ((by rw [hg];exact Nat.ne_of_lt (blk_lt (g := gb150) (o := .cells #[.slice none 0 0,.string (⟨#[]⟩ : ByteArray),.slice none 0 0,.slice none 0 0] 28 (0,0)) Z320) : gb150 ≠ gb167)) (jA ((by rw [hg];exact Nat.ne_of_gt (blk_lt (g := gb150) (o := .cells #[.slice none 0 0,.string (⟨#[]⟩ : ByteArray),.slice none 0 0,.slice none 0 0] 28 (0,0)) Z320) : gb167 ≠ gb150)) (jA ((by rw [hg];exact Nat.ne_of_lt (IsS53.lt (show IsS53 w0 _ g s0_0 t152 t153 from Z84)) : g ≠ gb167)) (Aside0.mk ((by rw [hg];exact Nat.ne_of_gt (IsS53.lt (show IsS53 w0 _ g s0_0 t152 t153 from Z84)) : gb167 ≠ g)))))))))))))));clear HO159 HO166 HI0 BK150 HR163 HK HB;obtain ⟨HO159,HO166,HI0,BK150,HR163,HK,HB,BK167,GW167,GE167,NB150_167,NB167_150,NB0_167,NB167_0⟩ := n_;clear hb hbox hg;have hnb21 := NB167_150.out;have hnc21 := NB150_167.out;have hnb22 := NB167_0.out;have hnc22 := NB0_167.out;obtain ⟨hcz23_0,hcz23_1,hcz23_2,hcz23_3,hfz23_0,hfz23_1,hfz23_2,hfz23_3⟩ := cells4 BK167.out) | ((with_reducible refine gate_callee (f := 37) rfl ?_);refine goesL_ (some 22) rfl rfl Try.func37 Z256 rfl #[.pointer (some ⟨g,0,none⟩),.int .i64 9] rfl Z159 ?_;(with_reducible refine (spec_l1Below.calls g s0_0 t152 t153 9 t168 t169 t170 w0 _ ?side1 ?side2 A7.out).mono ?_);(case side1 => exact Z259);(case side2 => exact Z260);rintro e w24 ⟨rfl,hi,hb,hk⟩;refine ⟨_,rfl,?_⟩;have n_ := jA (KeepBut.blk hk (g' := gb150) (o := .cells #[.slice none 0 0,.string (⟨#[]⟩ : ByteArray),.slice none 0 0,.slice none 0 0] 28 (0,0)) (by refine bP ?_;refine blk_far ?_ NB150_167.out _;refine bP ?_;refine blk_far ?_ NB150_167.out _;refine bP ?_;refine blk_far ?_ NB150_167.out _;refine bP ?_;refine blk_far ?_ NB150_167.out _;refine bP ?_;exact BK150.out) NB150_0.out Z332) (jA (Kd.R_mono (Kd.R_keep (IsS53.apart (show IsS53 w0 _ g s0_0 t152 t153 from Z259) (by (with_reducible repeat (first | apply Kd.R_alloc | apply Kd.R_drewN | apply Kd.R_drew));exact (Kd.R_mono (Kd.R_far (p := ⟨gb167,3,none⟩) (Kd.R_far (p := ⟨gb167,2,none⟩) (Kd.R_far (p := ⟨gb167,1,none⟩) (Kd.R_far (p := ⟨gb167,0,none⟩) (Kd.R_types HO159.out BK167.out Z330) (fun _ hk => hk.2) (.slice Ao19 y164.length co19)) (fun _ hk => hk.2) (.string (⟨#[121]⟩ : ByteArray))) (fun _ hk => hk.2) (.slice none 0 0)) (fun _ hk => hk.2) (.slice none 0 0)) (fun _ h_ => h_.1))) Z330) hk (fun _ h => h.2)) (fun _ h => h.1)) (jA (Kd.R_mono (Kd.R_keep (IsS53.apart (show IsS53 w0 _ g s0_0 t152 t153 from Z259) (by (with_reducible repeat (first | apply Kd.R_alloc | apply Kd.R_drewN | apply Kd.R_drew));exact (Kd.R_mono (Kd.R_far (p := ⟨gb167,3,none⟩) (Kd.R_far (p := ⟨gb167,2,none⟩) (Kd.R_far (p := ⟨gb167,1,none⟩) (Kd.R_far (p := ⟨gb167,0,none⟩) (Kd.R_types HO166.out BK167.out Z330) (fun _ hk => hk.2) (.slice Ao19 y164.length co19)) (fun _ hk => hk.2) (.string (⟨#[121]⟩ : ByteArray))) (fun _ hk => hk.2) (.slice none 0 0)) (fun _ hk => hk.2) (.slice none 0 0)) (fun _ h_ => h_.1))) Z330) hk (fun _ h => h.2)) (fun _ h => h.1)) (jA (KeepBut.blk hk (g' := gb167) (o := .cells #[.slice Ao19 y164.length co19,.string (⟨#[121]⟩ : ByteArray),.slice none 0 0,.slice none 0 0] 28 (0,0)) (by refine bP ?_;refine blk_put (cs := #[.slice Ao19 y164.length co19,.string (⟨#[121]⟩ : ByteArray),.slice none 0 0,.slice none 0 0]) ?_ 3 _ rfl;refine bP ?_;refine blk_put (cs := #[.slice Ao19 y164.length co19,.string (⟨#[121]⟩ : ByteArray),.slice none 0 0,.slice none 0 0]) ?_ 2 _ rfl;refine bP ?_;refine blk_put (cs := #[.slice Ao19 y164.length co19,.string (⟨#[]⟩ : ByteArray),.slice none 0 0,.slice none 0 0]) ?_ 1 _ rfl;refine bP ?_;refine blk_put (cs := #[.slice none 0 0,.string (⟨#[]⟩ : ByteArray),.slice none 0 0,.slice none 0 0]) ?_ 0 _ rfl;refine bP ?_;exact BK167.out) NB167_0.out Z332) (jA (KeepBut.trans Z264 hk (.inl rfl)) (jA (hb) (Aside0.mk (hi)))))));clear BK150 HO159 HO166 BK167 HK HB HI0;obtain ⟨BK150,HO159,HO166,BK167,HK,HB,HI0⟩ := n_;(try clear hb);(try clear hb2);(try clear hk);(try clear hi)) | ((with_reducible refine gate_callee (f := 54) rfl ?_);refine goesL_ (some 25) rfl rfl Try.func54 Z256 rfl #[.pointer (some ⟨g,0,none⟩),.int .i64 10] rfl Z159 ?_;(with_reducible refine (spec_l1Once.calls g s0_0 t169 t170 10 t171 t172 t173 w0 _ ?side1 ?side2 A8.out).mono ?_);(case side1 => exact Z259);(case side2 => exact Z260);rintro e w25 ⟨rfl,hi,hb,hk⟩;refine ⟨_,rfl,?_⟩;have n_ := jA (KeepBut.blk hk (g' := gb150) (o := .cells #[.slice none 0 0,.string (⟨#[]⟩ : ByteArray),.slice none 0 0,.slice none 0 0] 28 (0,0)) Z320 NB150_0.out Z332) (jA (Kd.R_mono (Kd.R_keep (IsS53.apart (show IsS53 w0 _ g s0_0 t169 t170 from Z259) Z185 Z330) hk (fun _ h => h.2)) (fun _ h => h.1)) (jA (Kd.R_mono (Kd.R_keep (IsS53.apart (show IsS53 w0 _ g s0_0 t169 t170 from Z259) Z193 Z330) hk (fun _ h => h.2)) (fun _ h => h.1)) (jA (KeepBut.blk hk (g' := gb167) (o := .cells #[.slice Ao19 y164.length co19,.string (⟨#[121]⟩ : ByteArray),.slice none 0 0,.slice none 0 0] 28 (0,0)) Z321 NB167_0.out Z332) (jA (KeepBut.trans Z264 hk (.inl rfl)) (jA (hb) (Aside0.mk (hi)))))));clear BK150 HO159 HO166 BK167 HK HB HI0;obtain ⟨BK150,HO159,HO166,BK167,HK,HB,HI0⟩ := n_;(try clear hb);(try clear hb2);(try clear hk);(try clear hi)))
 (try simp only [Act.put,List.setIfInBounds_toArray,List.set_cons_zero,List.set_cons_succ])
 go_cut [5] (fun v5 wc => ∃ (kq : Nat) (x5_8 : Int) (x1001_8 : Int) (x1002_8 : Int),v5 = .int .i64 x5_8 ∧ Aside0 (spec_l9Right.j0 kq ji3 x5_8 s0_0 x1001_8 x1002_8 y164 (⟨#[121]⟩ : ByteArray) = some (r1,r2,r3,r4,r5,r6)) ∧ Aside0 (kq ≤ k) ∧ Aside0 (Kd.R Kd.string 9 wc w.heap.size (fun _ => True) (.slice Ao19 y164.length co19) y164) ∧ Aside0 (wc.heap[gb150]? = some (.cells #[(.slice none 0 0),.string (⟨#[]⟩ : ByteArray),(.slice none 0 0),(.slice none 0 0)] 28 (0,0))) ∧ Aside0 (wc.heap[gb167]? = some (.cells #[(.slice Ao19 y164.length co19),.string (⟨#[121]⟩ : ByteArray),(.slice none 0 0),(.slice none 0 0)] 28 (0,0))) ∧ Aside0 (IsS53 w0 wc g s0_0 x1001_8 x1002_8) ∧ Aside0 (KeepBut w wc g none) ∧ Aside0 (Below w0.heap.size w0 wc))
 case first =>
  have H := HC9.out
  clear HC9
  by_cases c26 : t171 = true
  rotate_left
  ·replace c26 := Bool.eq_false_iff.mpr c26
   subst c26
   rw [if_neg Bool.false_ne_true] at H
   have H' := Aside0.mk H
   clear H
   go_wp2
   go_meet
   case rel => exact ⟨_,(wrap64 (1 + t168)),(t172),(t173),Z230,H',⟨Z240⟩,⟨Z158⟩,⟨Z320⟩,⟨Z321⟩,⟨Z259⟩,⟨Z264⟩,⟨Z260⟩⟩
  subst c26
  rw [if_pos rfl] at H
  obtain ⟨⟨t174,t175,t176⟩,A270,H⟩ := Option.bind_eq_some_iff.mp H
  try dsimp only at H
  have A27 := Aside0.mk A270
  clear A270
  have H' := Aside0.mk H
  clear H
  go_wp2_with (first | ((with_reducible refine gate_callee (f := 37) rfl ?_);refine goesL_ (some 27) rfl rfl Try.func37 Z256 rfl #[.pointer (some ⟨g,0,none⟩),.int .i64 40] rfl Z159 ?_;(with_reducible refine (spec_l1Below.calls g s0_0 t172 t173 40 t174 t175 t176 w0 _ ?side1 ?side2 A27.out).mono ?_);(case side1 => exact Z259);(case side2 => exact Z260);rintro e w28 ⟨rfl,hi,hb,hk⟩;refine ⟨_,rfl,?_⟩;have n_ := jA (KeepBut.blk hk (g' := gb150) (o := .cells #[.slice none 0 0,.string (⟨#[]⟩ : ByteArray),.slice none 0 0,.slice none 0 0] 28 (0,0)) Z320 NB150_0.out Z332) (jA (Kd.R_mono (Kd.R_keep (IsS53.apart (show IsS53 w0 _ g s0_0 t172 t173 from Z259) Z185 Z330) hk (fun _ h => h.2)) (fun _ h => h.1)) (jA (Kd.R_mono (Kd.R_keep (IsS53.apart (show IsS53 w0 _ g s0_0 t172 t173 from Z259) Z193 Z330) hk (fun _ h => h.2)) (fun _ h => h.1)) (jA (KeepBut.blk hk (g' := gb167) (o := .cells #[.slice Ao19 y164.length co19,.string (⟨#[121]⟩ : ByteArray),.slice none 0 0,.slice none 0 0] 28 (0,0)) Z321 NB167_0.out Z332) (jA (KeepBut.trans Z264 hk (.inl rfl)) (jA (hb) (Aside0.mk (hi)))))));clear BK150 HO159 HO166 BK167 HK HB HI0;obtain ⟨BK150,HO159,HO166,BK167,HK,HB,HI0⟩ := n_;(try clear hb);(try clear hb2);(try clear hk);(try clear hi)))
  go_meet
  case rel => exact ⟨_,(wrap64 (1 + t174)),(t175),(t176),Z230,H',⟨Z240⟩,⟨Z158⟩,⟨Z320⟩,⟨Z321⟩,⟨Z259⟩,⟨Z264⟩,⟨Z260⟩⟩
 case rest =>
  clear HC9
  try clear q1
  try clear c2
  try clear p2
  try clear c3
  try clear c4
  try clear c4b0
  try clear c4b1
  try clear c5
  try clear c5b0
  try clear c5b1
  try clear c6
  try clear p6
  try clear q16
  try clear c21
  try clear c22
  try clear c26
  try clear q16
  obtain ⟨kq,x5_8,x1001_8,x1002_8,rfl,HA,HJ8,HO_168000,BK150,BK167,HI0,HK,HB⟩ := hcut
  cases kq with
  | zero => exact absurd HA.out (by simp [spec_l9Right.j0])
  | succ kj8 =>
   have H := HA.out
   clear HA
   simp only [spec_l9Right.j0] at H
   obtain ⟨⟨t177,t178,t179⟩,A290,H⟩ := Option.bind_eq_some_iff.mp H
   try dsimp only at H
   have A29 := Aside0.mk A290
   clear A290
   have H' := Aside0.mk H
   clear H
   go_wp2_with (first | ((with_reducible refine gate_callee (f := 54) rfl ?_);refine goesL_ (some 30) rfl rfl Try.func54 Z256 rfl #[.pointer (some ⟨g,0,none⟩),.int .i64 12] rfl Z159 ?_;(with_reducible refine (spec_l1Once.calls g s0_0 x1001_8 x1002_8 12 t177 t178 t179 w0 _ ?side1 ?side2 A29.out).mono ?_);(case side1 => exact Z259);(case side2 => exact Z260);rintro e w30 ⟨rfl,hi,hb,hk⟩;refine ⟨_,rfl,?_⟩;have n_ := jA (Kd.R_mono (Kd.R_keep (IsS53.apart (show IsS53 w0 _ g s0_0 x1001_8 x1002_8 from Z259) Z293 Z330) hk (fun _ h => h.2)) (fun _ h => h.1)) (jA (KeepBut.blk hk (g' := gb150) (o := .cells #[.slice none 0 0,.string (⟨#[]⟩ : ByteArray),.slice none 0 0,.slice none 0 0] 28 (0,0)) Z320 NB150_0.out Z332) (jA (KeepBut.blk hk (g' := gb167) (o := .cells #[.slice Ao19 y164.length co19,.string (⟨#[121]⟩ : ByteArray),.slice none 0 0,.slice none 0 0] 28 (0,0)) Z321 NB167_0.out Z332) (jA (KeepBut.trans Z264 hk (.inl rfl)) (jA (hb) (Aside0.mk (hi))))));clear HO_168000 BK150 BK167 HK HB HI0;obtain ⟨HO_168000,BK150,BK167,HK,HB,HI0⟩ := n_;(try clear hb);(try clear hb2);(try clear hk);(try clear hi)))
   go_loopg [7] kj8 (fun kq v7 w' => ∃ (x7_2 : Int) (x1001_2 : Int) (x1002_2 : Int) (x168002_2 : List (List Int)) (x168003_2 : List Int) (u168002 : Value) (u168003 : Value),v7 = .int .i64 x7_2 ∧ Aside0 (spec_l9Right.l0 kq ji3 x5_8 t177 x7_2 s0_0 x1001_2 x1002_2 y164 (⟨#[121]⟩ : ByteArray) x168002_2 x168003_2 = some (r1,r2,r3,r4,r5,r6)) ∧ Aside0 (kq ≤ kj8) ∧ Aside0 (Kd.R Kd.string 9 w' w.heap.size (fun _ => True) (.slice Ao19 y164.length co19) y164) ∧ Aside0 (Kd.S (Kd.slice 3 (Kd.int .i64)) 26 w' w.heap.size (fun k_ => some k_ ≠ (u168003 : Value).ownBlock) u168002 x168002_2) ∧ Aside0 (Kd.R (Kd.int .i64) 3 w' w.heap.size (fun _ => True) u168003 x168003_2) ∧ Aside0 (w'.heap[gb150]? = some (.cells #[(.slice none 0 0),.string (⟨#[]⟩ : ByteArray),(.slice none 0 0),(.slice none 0 0)] 28 (0,0))) ∧ Aside0 (w'.heap[gb167]? = some (.cells #[(.slice Ao19 y164.length co19),.string (⟨#[121]⟩ : ByteArray),u168002,u168003] 28 (0,0))) ∧ Aside0 (IsS53 w0 w' g s0_0 x1001_2 x1002_2) ∧ Aside0 (KeepBut w w' g none) ∧ Aside0 (Below w0.heap.size w0 w'))
   case atStart => exact ⟨(0),(t178),(t179),(([] : List (List Int))),(([] : List Int)),(.slice none 0 0),(.slice none 0 0),Z230,H',⟨Nat.le_refl _⟩,⟨Z293⟩,⟨Z156⟩,⟨by first | exact Kd.R_nil _ _ _ _ _ | exact Kd.N_nil _ _ _ _ _ | exact Kd.V_nil _ _ _ _ _ | exact Kd.Q_nil _ _ _ _ _ | exact Kd.S_nil _ _ _ _ _⟩,⟨Z320⟩,⟨Z321⟩,⟨Z259⟩,⟨Z264⟩,⟨Z260⟩⟩
   case round =>
    clear H'
    try clear q1
    try clear c2
    try clear p2
    try clear c3
    try clear c4
    try clear c4b0
    try clear c4b1
    try clear c5
    try clear c5b0
    try clear c5b1
    try clear c6
    try clear p6
    try clear q16
    try clear c21
    try clear c22
    try clear c26
    try clear p2
    try clear p6
    try clear q1
    try clear q16
    obtain ⟨x7_2,x1001_2,x1002_2,x168002_2,x168003_2,u168002,u168003,rfl,HA,HK2,HO_168000,HO_168002,HO_168003,BK150,BK167,HI0,HK,HB⟩ := hrel
    cases gk with
    | zero => exact absurd HA.out (by simp [spec_l9Right.l0])
    | succ k2 =>
     have H := HA.out
     clear HA
     simp only [spec_l9Right.l0] at H
     by_cases c31 : x7_2 < x5_8
     rotate_left
     ·rw [if_neg c31] at H
      have c31b0 : decide (x7_2 < x5_8) = false := decide_eq_false c31
      clear c31
      simp only [Option.some.injEq,Prod.mk.injEq] at H
      obtain ⟨rfl,rfl,rfl,rfl,rfl,rfl⟩ := H
      have hnb95 := NB167_150.out
      have hnc95 := NB150_167.out
      have hnb96 := NB167_0.out
      have hnc96 := NB0_167.out
      obtain ⟨hcz97_0,hcz97_1,hcz97_2,hcz97_3,hfz97_0,hfz97_1,hfz97_2,hfz97_3⟩ := cells4 BK167.out
      have hnb98 := NB150_0.out
      have hnc98 := NB0_150.out
      obtain ⟨hcz99_0,hcz99_1,hcz99_2,hcz99_3,hfz99_0,hfz99_1,hfz99_2,hfz99_3⟩ := cells4 BK150.out
      obtain ⟨Ao100,co100,eo100⟩ := Kd.S_slice HO_168002.out
      subst eo100
      obtain ⟨Ao101,co101,eo101⟩ := Kd.R_slice HO_168003.out
      subst eo101
      go_wp2
      refine bodyPost_ret (results_cell_row rfl _ _ gb150 28 #[.slice Ao19 y164.length co19,.string (⟨#[121]⟩ : ByteArray),.slice Ao100 x168002_2.length co100,.slice Ao101 x168003_2.length co101] (0,0) _ rfl (by refine bP ?_;refine blk_put (cs := #[.slice Ao19 y164.length co19,.string (⟨#[121]⟩ : ByteArray),.slice Ao100 x168002_2.length co100,.slice none 0 0]) ?_ 3 _ rfl;refine bP ?_;refine blk_put (cs := #[.slice Ao19 y164.length co19,.string (⟨#[121]⟩ : ByteArray),.slice none 0 0,.slice none 0 0]) ?_ 2 _ rfl;refine bP ?_;refine blk_put (cs := #[.slice Ao19 y164.length co19,.string (⟨#[]⟩ : ByteArray),.slice none 0 0,.slice none 0 0]) ?_ 1 _ rfl;refine bP ?_;refine blk_put (cs := #[.slice none 0 0,.string (⟨#[]⟩ : ByteArray),.slice none 0 0,.slice none 0 0]) ?_ 0 _ rfl;refine bP ?_;exact BK150.out) Try.underlying28 rfl Z256) rfl ?_
      exact ⟨_,_,_,by first | rfl | (simp [errW_none,errW_some] <;> rfl) | (simp only [← hji3];first | rfl | (simp [errW_none,errW_some] <;> rfl)) | (simp [*,errW_none,errW_some] <;> rfl),by (with_reducible repeat (first | apply Kd.R_alloc | apply Kd.R_drewN | apply Kd.R_drew));exact Kd.R_mono (Kd.R_far (p := ⟨gb150,3,none⟩) (Kd.R_far (p := ⟨gb150,2,none⟩) (Kd.R_far (p := ⟨gb150,1,none⟩) (Kd.R_far (p := ⟨gb150,0,none⟩) (Kd.R_types HO_168000.out BK150.out Z330) (fun _ hk => hk.2) (.slice Ao19 y164.length co19)) (fun _ hk => hk.2) (.string (⟨#[121]⟩ : ByteArray))) (fun _ hk => hk.2) (.slice Ao100 x168002_2.length co100)) (fun _ hk => hk.2) (.slice Ao101 x168003_2.length co101)) (fun _ hk => trivial),by (with_reducible repeat (first | apply Kd.S_alloc | apply Kd.S_drewN | apply Kd.S_drew));exact Kd.S_mono (Kd.S_far (p := ⟨gb150,3,none⟩) (Kd.S_far (p := ⟨gb150,2,none⟩) (Kd.S_far (p := ⟨gb150,1,none⟩) (Kd.S_far (p := ⟨gb150,0,none⟩) (Kd.S_types HO_168002.out BK150.out Z330) (fun _ hk => hk.2) (.slice Ao19 y164.length co19)) (fun _ hk => hk.2) (.string (⟨#[121]⟩ : ByteArray))) (fun _ hk => hk.2) (.slice Ao100 x168002_2.length co100)) (fun _ hk => hk.2) (.slice Ao101 x168003_2.length co101)) (fun _ hk => hk.1),by (with_reducible repeat (first | apply Kd.R_alloc | apply Kd.R_drewN | apply Kd.R_drew));exact Kd.R_mono (Kd.R_far (p := ⟨gb150,3,none⟩) (Kd.R_far (p := ⟨gb150,2,none⟩) (Kd.R_far (p := ⟨gb150,1,none⟩) (Kd.R_far (p := ⟨gb150,0,none⟩) (Kd.R_types HO_168003.out BK150.out Z330) (fun _ hk => hk.2) (.slice Ao19 y164.length co19)) (fun _ hk => hk.2) (.string (⟨#[121]⟩ : ByteArray))) (fun _ hk => hk.2) (.slice Ao100 x168002_2.length co100)) (fun _ hk => hk.2) (.slice Ao101 x168003_2.length co101)) (fun _ hk => trivial),Z259,Z260,Z264⟩
     rw [if_pos c31] at H
     have c31b0 : decide (x7_2 < x5_8) = true := decide_eq_true c31
     clear c31
     obtain ⟨y180,hyy⟩ : ∃ y_ : List Int,y_ = (([] : List Int)) := ⟨_,rfl⟩
     replace H : (spec_l9Right.l1 k2 ji3 x5_8 t177 x7_2 y180 0 s0_0 x1001_2 x1002_2 y164 (⟨#[121]⟩ : ByteArray) x168002_2 x168003_2) = some (r1,r2,r3,r4,r5,r6) := zR
     have Ny180 := Aside0.mk hyy
     clear hyy
     have H' := Aside0.mk H
     clear H
     go_wp2_with (first | ((with_reducible refine gate_dst (N := 36) rfl ?_);refine Kd.R_lit (Kd.int .i64) _ 3 ?hg (N := 36) ?hd (xs := ([] : List Int)) (inner := []) (ok := fun _ => True) (okp := fun _ => True) ?hr ?hp (fun _ hk => hk) trivial (Below.refl _ _) (Nat.le_refl _) Z332 ?_;(case hd => rfl);(case hg => rfl);(case hr => exact Z231);(case hp => exact Z252);intro v181 w32 ho33 hb hg_ hnew_;clear hg_ hnew_;(first | rw [← Ny180.out] at ho33 | (simp only [Int.reduceToNat] at ho33;rw [← Ny180.out] at ho33));have n_ := jA (Kd.R_below Z293 hb) (jA (Kd.S_elder' Z295 (Kd.R_base ho33) hb) (jA (Kd.R_elder' Z294 (Kd.R_base ho33) hb) (jA (Kd.R_lower (Kd.R_new' ho33 (Kd.R_lt Z294)) (keep_size (w := w) (g := g) (row := none) Z264)) (jA (blk_below (g := gb150) (o := .cells #[.slice none 0 0,.string (⟨#[]⟩ : ByteArray),.slice none 0 0,.slice none 0 0] 28 (0,0)) Z320 hb) (jA (blk_below (g := gb167) (o := .cells #[.slice Ao19 y164.length co19,.string (⟨#[121]⟩ : ByteArray),u168002,u168003] 28 (0,0)) Z321 hb) (jA (IsS53.below Z259 hb) (jA (KeepBut.trans Z264 (KeepBut.of_below hb g none) (.inl rfl)) (Aside0.mk (below_step Z260 hb)))))))));clear HO_168000 HO_168002 HO_168003 BK150 BK167 HI0 HK HB;obtain ⟨HO_168000,HO_168002,HO_168003,HO182,BK150,BK167,HI0,HK,HB⟩ := n_;clear hb ho33))
     go_loopg [8,9] k2 (fun kq v8 v9 w' => ∃ (x8_3 : List Int) (x9_3 : Int) (x1001_3 : Int) (x1002_3 : Int),v9 = .int .i64 x9_3 ∧ Aside0 (spec_l9Right.l1 kq ji3 x5_8 t177 x7_2 x8_3 x9_3 s0_0 x1001_3 x1002_3 y164 (⟨#[121]⟩ : ByteArray) x168002_2 x168003_2 = some (r1,r2,r3,r4,r5,r6)) ∧ Aside0 (kq ≤ k2) ∧ Aside0 (Kd.R (Kd.int .i64) 3 w' w.heap.size (fun k_ => some k_ ≠ (u168003 : Value).ownBlock) v8 x8_3) ∧ Aside0 (Kd.R Kd.string 9 w' w.heap.size (fun _ => True) (.slice Ao19 y164.length co19) y164) ∧ Aside0 (Kd.S (Kd.slice 3 (Kd.int .i64)) 26 w' w.heap.size (fun k_ => some k_ ≠ (v8 : Value).ownBlock ∧ some k_ ≠ (u168003 : Value).ownBlock) u168002 x168002_2) ∧ Aside0 (Kd.R (Kd.int .i64) 3 w' w.heap.size (fun k_ => some k_ ≠ (v8 : Value).ownBlock) u168003 x168003_2) ∧ Aside0 (w'.heap[gb150]? = some (.cells #[(.slice none 0 0),.string (⟨#[]⟩ : ByteArray),(.slice none 0 0),(.slice none 0 0)] 28 (0,0))) ∧ Aside0 (w'.heap[gb167]? = some (.cells #[(.slice Ao19 y164.length co19),.string (⟨#[121]⟩ : ByteArray),u168002,u168003] 28 (0,0))) ∧ Aside0 (IsS53 w0 w' g s0_0 x1001_3 x1002_3) ∧ Aside0 (KeepBut w w' g none) ∧ Aside0 (Below w0.heap.size w0 w'))
     case atStart => exact ⟨(y180),(0),(x1001_2),(x1002_2),Z230,H',⟨Nat.le_refl _⟩,⟨by (with_reducible repeat (first | apply Kd.R_alloc | apply Kd.R_drewN | apply Kd.R_drew));exact Kd.R_mono HO182.out (fun _ hk => hk.2)⟩,⟨Z293⟩,⟨Z287⟩,⟨Z157⟩,⟨Z320⟩,⟨Z321⟩,⟨Z259⟩,⟨Z264⟩,⟨Z260⟩⟩
     case round =>
      clear H'
      try clear q1
      try clear c2
      try clear p2
      try clear c3
      try clear c4
      try clear c4b0
      try clear c4b1
      try clear c5
      try clear c5b0
      try clear c5b1
      try clear c6
      try clear p6
      try clear q16
      try clear c21
      try clear c22
      try clear c26
      try clear c31
      try clear c31b0
      try clear p2
      try clear p6
      try clear q1
      try clear q16
      obtain ⟨x8_3,x9_3,x1001_3,x1002_3,rfl,HA,HK3,HO_8,HO_168000,HO_168002,HO_168003,BK150,BK167,HI0,HK,HB⟩ := hrel
      cases gk with
      | zero => exact absurd HA.out (by simp [spec_l9Right.l1])
      | succ k3 =>
       have H := HA.out
       clear HA
       simp only [spec_l9Right.l1] at H
       by_cases c34 : x9_3 < ji3
       ·rw [if_pos c34] at H
        have c34b0 : decide (x9_3 < ji3) = true := decide_eq_true c34
        clear c34
        obtain ⟨⟨t183,t184,t185⟩,A350,H⟩ := Option.bind_eq_some_iff.mp H
        try dsimp only at H
        have A35 := Aside0.mk A350
        clear A350
        by_cases c36 : t177 = true
        ·subst c36
         rw [if_pos rfl] at H
         obtain ⟨c37,H⟩ := ifp H
         have LMc37 := Aside0.mk c37
         clear c37
         obtain ⟨y186,hyy⟩ : ∃ y_ : List Int,y_ = (x8_3 ++ [t183]) := ⟨_,rfl⟩
         replace H : (spec_l9Right.l1 k3 ji3 x5_8 true x7_2 y186 (wrap64 (x9_3 + 1)) s0_0 t184 t185 y164 (⟨#[121]⟩ : ByteArray) x168002_2 x168003_2) = some (r1,r2,r3,r4,r5,r6) := zR
         have Ny186 := Aside0.mk hyy
         clear hyy
         have H' := Aside0.mk H
         clear H
         go_wp2_with (first | ((with_reducible refine gate_callee (f := 55) rfl ?_);refine goesL_ (some 43) rfl rfl Try.func55 Z256 rfl #[.pointer (some ⟨g,0,none⟩)] rfl Z159 ?_;(with_reducible refine (spec_l6Small.calls g s0_0 x1001_3 x1002_3 t183 t184 t185 w0 _ ?side1 ?side2 A35.out).mono ?_);(case side1 => exact Z259);(case side2 => exact Z260);rintro e w38 ⟨rfl,hi,hb,hk⟩;refine ⟨_,rfl,?_⟩;have n_ := Z1;clear HO_8 HO_168000 HO_168002 HO_168003 BK150 BK167 HK HB HI0;obtain ⟨HO_8,HO_168000,HO_168002,HO_168003,BK150,BK167,HK,HB,HI0⟩ := n_;(try clear hb);(try clear hb2);(try clear hk);(try clear hi)) | ((with_reducible refine gate_builtin (b := .append) (xs := #[.tmp 50,.tmp 52]) rfl ?_);at_builtin;refine Kd.R_append (Kd.int .i64) w.heap.size rfl (.tmp 50) (.tmp 52) 26 3 (.int .i64 0) 8 rfl Try.underlying26 info3 rfl Z330 Z331 u8 x8_3 t183 [.int .i64 t183] (fun k_ => some k_ ≠ (u168003 : Value).ownBlock) (fun _ => False) rfl rfl ?aP (fun _ hk => hk.elim) ?aF ?aO (Below.refl _ _) ?aS ?aL ?_;(case aP => exact rfl);(case aF => exact Z127);(case aO => exact Z169);(case aS => exact Z52);(case aL => have := LMc37.out;omega);intro v187 w39 ho hb hg hat;rw [← Ny186.out] at ho;have n_ := Z2;clear HO_168000 HO_168002 HO_168003 BK150 BK167 HI0 HB HK HO_8;obtain ⟨HO_168000,HO_168002,HO_168003,BK150,BK167,HI0,HB,HK,HO188⟩ := n_;clear ho hb hg hat))
         go_roundg k3
         case measure => have := HJ8.out;have := HK2.out;have := HK3.out;omega
         case rel => exact ⟨(y186),(wrap64 (x9_3 + 1)),(t184),(t185),Z230,H',⟨Z225⟩,⟨by (with_reducible repeat (first | apply Kd.R_alloc | apply Kd.R_drewN | apply Kd.R_drew));exact HO188.out⟩,⟨Z293⟩,⟨Z287⟩,⟨Z157⟩,⟨Z320⟩,⟨Z321⟩,⟨Z259⟩,⟨Z264⟩,⟨Z260⟩⟩
        replace c36 := Bool.eq_false_iff.mpr c36
        subst c36
        rw [if_neg Bool.false_ne_true] at H
        obtain ⟨⟨t189,t190,t191⟩,A400,H⟩ := Option.bind_eq_some_iff.mp H
        try dsimp only at H
        have A40 := Aside0.mk A400
        clear A400
        obtain ⟨c41,H⟩ := ifp H
        have LMc41 := Aside0.mk c41
        clear c41
        obtain ⟨y192,hyy⟩ : ∃ y_ : List Int,y_ = (x8_3 ++ [wrap64 (500 * (wrap64 (t189 - 3)))]) := ⟨_,rfl⟩
        replace H : (spec_l9Right.l1 k3 ji3 x5_8 false x7_2 y192 (wrap64 (x9_3 + 1)) s0_0 t190 t191 y164 (⟨#[121]⟩ : ByteArray) x168002_2 x168003_2) = some (r1,r2,r3,r4,r5,r6) := zR
        have Ny192 := Aside0.mk hyy
        clear hyy
        have H' := Aside0.mk H
        clear H
        go_wp2_with (first | ((with_reducible refine gate_callee (f := 55) rfl ?_);refine goesL_ (some 43) rfl rfl Try.func55 Z256 rfl #[.pointer (some ⟨g,0,none⟩)] rfl Z159 ?_;(with_reducible refine (spec_l6Small.calls g s0_0 x1001_3 x1002_3 t183 t184 t185 w0 _ ?side1 ?side2 A35.out).mono ?_);(case side1 => exact Z259);(case side2 => exact Z260);rintro e w42 ⟨rfl,hi,hb,hk⟩;refine ⟨_,rfl,?_⟩;have n_ := Z1;clear HO_8 HO_168000 HO_168002 HO_168003 BK150 BK167 HK HB HI0;obtain ⟨HO_8,HO_168000,HO_168002,HO_168003,BK150,BK167,HK,HB,HI0⟩ := n_;(try clear hb);(try clear hb2);(try clear hk);(try clear hi)) | ((with_reducible refine gate_callee (f := 37) rfl ?_);refine goesL_ (some 47) rfl rfl Try.func37 Z256 rfl #[.pointer (some ⟨g,0,none⟩),.int .i64 7] rfl Z159 ?_;(with_reducible refine (spec_l1Below.calls g s0_0 t184 t185 7 t189 t190 t191 w0 _ ?side1 ?side2 A40.out).mono ?_);(case side1 => exact Z259);(case side2 => exact Z260);rintro e w43 ⟨rfl,hi,hb,hk⟩;refine ⟨_,rfl,?_⟩;have n_ := jA (Kd.R_mono (Kd.R_keep (IsS53.apart (show IsS53 w0 _ g s0_0 t184 t185 from Z259) Z310 Z330) hk (fun _ h => h.2)) (fun _ h => h.1)) (jA (Kd.R_mono (Kd.R_keep (IsS53.apart (show IsS53 w0 _ g s0_0 t184 t185 from Z259) Z293 Z330) hk (fun _ h => h.2)) (fun _ h => h.1)) (jA (Kd.S_mono (Kd.S_keep (IsS53.apartS (show IsS53 w0 _ g s0_0 t184 t185 from Z259) Z295 Z330) hk (fun _ h => h.2)) (fun _ h => h.1)) (jA (Kd.R_mono (Kd.R_keep (IsS53.apart (show IsS53 w0 _ g s0_0 t184 t185 from Z259) Z294 Z330) hk (fun _ h => h.2)) (fun _ h => h.1)) (jA (KeepBut.blk hk (g' := gb150) (o := .cells #[.slice none 0 0,.string (⟨#[]⟩ : ByteArray),.slice none 0 0,.slice none 0 0] 28 (0,0)) Z320 NB150_0.out Z332) (jA (KeepBut.blk hk (g' := gb167) (o := .cells #[.slice Ao19 y164.length co19,.string (⟨#[121]⟩ : ByteArray),u168002,u168003] 28 (0,0)) Z321 NB167_0.out Z332) (jA (KeepBut.trans Z264 hk (.inl rfl)) (jA (hb) (Aside0.mk (hi)))))))));clear HO_8 HO_168000 HO_168002 HO_168003 BK150 BK167 HK HB HI0;obtain ⟨HO_8,HO_168000,HO_168002,HO_168003,BK150,BK167,HK,HB,HI0⟩ := n_;(try clear hb);(try clear hb2);(try clear hk);(try clear hi)) | ((with_reducible refine gate_builtin (b := .append) (xs := #[.tmp 50,.tmp 52]) rfl ?_);at_builtin;refine Kd.R_append (Kd.int .i64) w.heap.size rfl (.tmp 50) (.tmp 52) 26 3 (.int .i64 0) 8 rfl Try.underlying26 info3 rfl Z330 Z331 u8 x8_3 (wrap64 (500 * (wrap64 (t189 - 3)))) [.int .i64 (wrap64 (500 * (wrap64 (t189 - 3))))] (fun k_ => some k_ ≠ (u168003 : Value).ownBlock) (fun _ => False) rfl rfl ?aP (fun _ hk => hk.elim) ?aF ?aO (Below.refl _ _) ?aS ?aL ?_;(case aP => exact rfl);(case aF => exact Z127);(case aO => exact Z169);(case aS => exact Z52);(case aL => have := LMc41.out;omega);intro v193 w44 ho hb hg hat;rw [← Ny192.out] at ho;have n_ := Z2;clear HO_168000 HO_168002 HO_168003 BK150 BK167 HI0 HB HK HO_8;obtain ⟨HO_168000,HO_168002,HO_168003,BK150,BK167,HI0,HB,HK,HO194⟩ := n_;clear ho hb hg hat))
        go_roundg k3
        case measure => have := HJ8.out;have := HK2.out;have := HK3.out;omega
        case rel => exact ⟨(y192),(wrap64 (x9_3 + 1)),(t190),(t191),Z230,H',⟨Z225⟩,⟨by (with_reducible repeat (first | apply Kd.R_alloc | apply Kd.R_drewN | apply Kd.R_drew));exact HO194.out⟩,⟨Z293⟩,⟨Z287⟩,⟨Z157⟩,⟨Z320⟩,⟨Z321⟩,⟨Z259⟩,⟨Z264⟩,⟨Z260⟩⟩
       rw [if_neg c34] at H
       have c34b0 : decide (x9_3 < ji3) = false := decide_eq_false c34
       clear c34
       obtain ⟨c45,H⟩ := ifp H
       have LMc45 := Aside0.mk c45
       clear c45
       obtain ⟨y195,hyy⟩ : ∃ y_ : List (List Int),y_ = (x168002_2 ++ [x8_3]) := ⟨_,rfl⟩
       replace H : ((spec_l6Small.f s0_0 x1001_3 x1002_3).bind fun bt198 => (if t177 = true then (if x168003_2.length < 17592186044416 then (spec_l9Right.l0 k3 ji3 x5_8 t177 (wrap64 (x7_2 + 1)) s0_0 bt198.2.1 bt198.2.2 y164 (⟨#[121]⟩ : ByteArray) y195 (x168003_2 ++ [bt198.1])) else (none)) else ((spec_l1Once.f s0_0 bt198.2.1 bt198.2.2 4).bind fun bt204 => (if bt204.1 = true then (if x168003_2.length < 17592186044416 then (spec_l9Right.l0 k3 ji3 x5_8 t177 (wrap64 (x7_2 + 1)) s0_0 bt204.2.1 bt204.2.2 y164 (⟨#[121]⟩ : ByteArray) y195 (x168003_2 ++ [bt198.1])) else (none)) else (if 0 < (x8_3.length : Int) then ((spec_l1Below.f s0_0 bt204.2.1 bt204.2.2 5).bind fun bt211 => (if x168003_2.length < 17592186044416 then (spec_l9Right.l0 k3 ji3 x5_8 t177 (wrap64 (x7_2 + 1)) s0_0 bt211.2.1 bt211.2.2 y164 (⟨#[121]⟩ : ByteArray) y195 (x168003_2 ++ [wrap64 ((wrap64 ((rd x8_3 0) * 2)) + (wrap64 (100 * bt211.1)))])) else (none))) else (none)))))) = some (r1,r2,r3,r4,r5,r6) := zR
       have Ny195 := Aside0.mk hyy
       clear hyy
       obtain ⟨⟨t198,t199,t200⟩,A460,H⟩ := Option.bind_eq_some_iff.mp H
       try dsimp only at H
       have A46 := Aside0.mk A460
       clear A460
       by_cases c47 : t177 = true
       ·subst c47
        rw [if_pos rfl] at H
        obtain ⟨c48,H⟩ := ifp H
        have LMc48 := Aside0.mk c48
        clear c48
        obtain ⟨y201,hyy⟩ : ∃ y_ : List Int,y_ = (x168003_2 ++ [t198]) := ⟨_,rfl⟩
        replace H : (spec_l9Right.l0 k3 ji3 x5_8 true (wrap64 (x7_2 + 1)) s0_0 t199 t200 y164 (⟨#[121]⟩ : ByteArray) y195 y201) = some (r1,r2,r3,r4,r5,r6) := zR
        have Ny201 := Aside0.mk hyy
        clear hyy
        have H' := Aside0.mk H
        clear H
        have hnb49 := NB167_150.out
        have hnc49 := NB150_167.out
        have hnb50 := NB167_0.out
        have hnc50 := NB0_167.out
        obtain ⟨hcz51_0,hcz51_1,hcz51_2,hcz51_3,hfz51_0,hfz51_1,hfz51_2,hfz51_3⟩ := cells4 BK167.out
        obtain ⟨Ao53,co53,eo53⟩ := Kd.R_slice HO_8.out
        subst eo53
        go_wp2_with (first | ((with_reducible refine gate_builtin (b := .append) (xs := #[.tmp 55,.tmp 57]) rfl ?_);at_builtin;refine Kd.S_append (Kd.slice 3 (Kd.int .i64)) w.heap.size rfl (.tmp 55) (.tmp 57) 25 26 (.slice none 0 0) 24 rfl Try.underlying25 info26 rfl Z330 Z331 u168002 x168002_2 x8_3 [.slice Ao53 x8_3.length co53] (fun k_ => some k_ ≠ (u168003 : Value).ownBlock) (fun k_ => some k_ = (.slice Ao53 x8_3.length co53 : Value).ownBlock) rfl rfl ?aP (fun k_ hk_ => ((Kd.R_mono (ok' := fun k_ => ((fun k_ => some k_ ≠ (u168003 : Value).ownBlock)) k_ ∧ some k_ ≠ (u168002 : Value).ownBlock) (Kd.R_apart' (HO_8.out) (Kd.S_typed HO_168002.out) Z330) (fun k_ hk => ⟨hk.1,hk.2⟩))).1 k_ hk_.symm) ?aF ?aO (Below.refl _ _) ?aS ?aL ?_;(case aP => exact Z49);(case aF => exact Z127);(case aO => exact Z122);(case aS => exact Z52);(case aL => have := LMc45.out;omega);intro v196 w52 ho hb hg hat;rw [← Ny195.out] at ho;have n_ := Z3;clear HO_168000 HO_168003 BK150 BK167 HI0 HB HK HO_168002 HO_8;obtain ⟨HO_168000,HO_168003,BK150,BK167,HI0,HB,HK,HO197⟩ := n_;clear ho hb hg hat;obtain ⟨Ao54,co54,eo54⟩ := Kd.S_slice HO197.out;subst eo54;obtain ⟨hcz55_0,hcz55_1,hcz55_2,hcz55_3,hfz55_0,hfz55_1,hfz55_2,hfz55_3⟩ := cells4 BK167.out) | ((with_reducible refine gate_callee (f := 55) rfl ?_);refine goesL_ (some 61) rfl rfl Try.func55 Z256 rfl #[.pointer (some ⟨g,0,none⟩)] rfl Z159 ?_;(with_reducible refine (spec_l6Small.calls g s0_0 x1001_3 x1002_3 t198 t199 t200 w0 _ ?side1 ?side2 A46.out).mono ?_);(case side1 => exact Z259);(case side2 => exact Z260);rintro e w56 ⟨rfl,hi,hb,hk⟩;refine ⟨_,rfl,?_⟩;have n_ := jA (Kd.R_mono (Kd.R_keep (IsS53.apart (show IsS53 w0 _ g s0_0 x1001_3 x1002_3 from Z259) (by (with_reducible repeat (first | apply Kd.R_alloc | apply Kd.R_drewN | apply Kd.R_drew));exact (Kd.R_mono (Kd.R_far (p := ⟨gb167,2,none⟩) (Kd.R_types HO_168000.out BK167.out Z330) (fun _ hk => hk.2) (.slice Ao54 y195.length co54)) (fun _ h_ => h_.1))) Z330) hk (fun _ h => h.2)) (fun _ h => h.1)) (jA (Kd.R_mono (Kd.R_keep (IsS53.apart (show IsS53 w0 _ g s0_0 x1001_3 x1002_3 from Z259) (by (with_reducible repeat (first | apply Kd.R_alloc | apply Kd.R_drewN | apply Kd.R_drew));exact (Kd.R_mono (Kd.R_far (p := ⟨gb167,2,none⟩) (Kd.R_types HO_168003.out BK167.out Z330) (fun _ hk => hk.2) (.slice Ao54 y195.length co54)) (fun _ h_ => h_.1))) Z330) hk (fun _ h => h.2)) (fun _ h => h.1)) (jA (KeepBut.blk hk (g' := gb150) (o := .cells #[.slice none 0 0,.string (⟨#[]⟩ : ByteArray),.slice none 0 0,.slice none 0 0] 28 (0,0)) Z217 NB150_0.out Z332) (jA (KeepBut.blk hk (g' := gb167) (o := .cells #[.slice Ao19 y164.length co19,.string (⟨#[121]⟩ : ByteArray),.slice Ao54 y195.length co54,u168003] 28 (0,0)) Z128 NB167_0.out Z332) (jA (Kd.S_mono (Kd.S_keep (IsS53.apartS (show IsS53 w0 _ g s0_0 x1001_3 x1002_3 from Z259) (by (with_reducible repeat (first | apply Kd.S_alloc | apply Kd.S_drewN | apply Kd.S_drew));exact (Kd.S_mono (Kd.S_far (p := ⟨gb167,2,none⟩) (Kd.S_types HO197.out BK167.out Z330) (fun _ hk => hk.2) (.slice Ao54 y195.length co54)) (fun _ h_ => h_.1))) Z330) hk (fun _ h => h.2)) (fun _ h => h.1)) (jA (KeepBut.trans Z264 hk (.inl rfl)) (jA (hb) (Aside0.mk (hi))))))));clear HO_168000 HO_168003 BK150 BK167 HO197 HK HB HI0;obtain ⟨HO_168000,HO_168003,BK150,BK167,HO197,HK,HB,HI0⟩ := n_;(try clear hb);(try clear hb2);(try clear hk);(try clear hi);obtain ⟨hcz57_0,hcz57_1,hcz57_2,hcz57_3,hfz57_0,hfz57_1,hfz57_2,hfz57_3⟩ := cells4 BK167.out) | ((with_reducible refine gate_builtin (b := .append) (xs := #[.tmp 78,.tmp 80]) rfl ?_);at_builtin;refine Kd.R_append (Kd.int .i64) w.heap.size rfl (.tmp 78) (.tmp 80) 26 3 (.int .i64 0) 8 rfl Try.underlying26 info3 rfl Z330 Z331 u168003 x168003_2 t198 [.int .i64 t198] (fun _ => True) (fun _ => False) rfl rfl ?aP (fun _ hk => hk.elim) ?aF ?aO (Below.refl _ _) ?aS ?aL ?_;(case aP => exact rfl);(case aF => exact Z250);(case aO => exact Z143);(case aS => exact Z52);(case aL => have := LMc48.out;omega);intro v202 w58 ho hb hg hat;rw [← Ny201.out] at ho;have n_ := jA (Kd.R_over' Z293 (Kd.R_typed Z294) Z330 hg) (jA (blk_grown (g := gb150) (o := .cells #[.slice none 0 0,.string (⟨#[]⟩ : ByteArray),.slice none 0 0,.slice none 0 0] 28 (0,0)) Z320 hg (Kd.R_ne HO_168003.out BK150.out Z330)) (jA (blk_grown (g := gb167) (o := .cells #[.slice Ao19 y164.length co19,.string (⟨#[121]⟩ : ByteArray),.slice Ao54 y195.length co54,u168003] 28 (0,0)) Z321 hg (Kd.R_ne HO_168003.out BK167.out Z330)) (jA (IsS53.grown Z258 hg (IsS53.own_ne HI0.out HO_168003.out Z330)) (jA (Kd.S_after (ok := (fun _ => True)) Z149 hg hat) (jA (below_weaken Z260 HL.out hb) (jA (KeepBut.trans Z264 (KeepBut.of_grown hg g) (Kd.R_base2 HO_168003.out)) (Aside0.mk (ho))))))));clear HO_168000 BK150 BK167 HI0 HO197 HB HK HO_168003;obtain ⟨HO_168000,BK150,BK167,HI0,HO197,HB,HK,HO203⟩ := n_;clear ho hb hg hat;obtain ⟨Ao59,co59,eo59⟩ := Kd.R_slice HO203.out;subst eo59;obtain ⟨hcz60_0,hcz60_1,hcz60_2,hcz60_3,hfz60_0,hfz60_1,hfz60_2,hfz60_3⟩ := cells4 BK167.out))
        go_roundg k3
        case measure => have := HJ8.out;have := HK2.out;have := HK3.out;omega
        case rel => exact ⟨(wrap64 (x7_2 + 1)),(t199),(t200),(y195),(y201),(.slice Ao54 y195.length co54),(.slice Ao59 y201.length co59),Z230,H',⟨Z225⟩,⟨by (with_reducible repeat (first | apply Kd.R_alloc | apply Kd.R_drewN | apply Kd.R_drew));exact Kd.R_mono (Kd.R_far (p := ⟨gb167,3,none⟩) (Kd.R_types HO_168000.out BK167.out Z330) (fun _ hk => hk.2) (.slice Ao59 y201.length co59)) (fun _ hk => trivial)⟩,⟨by (with_reducible repeat (first | apply Kd.S_alloc | apply Kd.S_drewN | apply Kd.S_drew));exact Kd.S_mono (Kd.S_far (p := ⟨gb167,3,none⟩) (Kd.S_types HO197.out BK167.out Z330) (fun _ hk => hk.2) (.slice Ao59 y201.length co59)) (fun _ hk => hk.1.2)⟩,⟨by (with_reducible repeat (first | apply Kd.R_alloc | apply Kd.R_drewN | apply Kd.R_drew));exact Kd.R_mono (Kd.R_far (p := ⟨gb167,3,none⟩) (Kd.R_types HO203.out BK167.out Z330) (fun _ hk => hk.2) (.slice Ao59 y201.length co59)) (fun _ hk => trivial)⟩,⟨Z217⟩,⟨by refine bP ?_;refine blk_put (cs := #[.slice Ao19 y164.length co19,.string (⟨#[121]⟩ : ByteArray),.slice Ao54 y195.length co54,u168003]) ?_ 3 _ rfl;refine bP ?_;exact BK167.out⟩,⟨Z259⟩,⟨Z264⟩,⟨Z260⟩⟩
       replace c47 := Bool.eq_false_iff.mpr c47
       subst c47
       rw [if_neg Bool.false_ne_true] at H
       obtain ⟨⟨t204,t205,t206⟩,A610,H⟩ := Option.bind_eq_some_iff.mp H
       try dsimp only at H
       have A61 := Aside0.mk A610
       clear A610
       by_cases c62 : t204 = true
       ·subst c62
        rw [if_pos rfl] at H
        obtain ⟨c63,H⟩ := ifp H
        have LMc63 := Aside0.mk c63
        clear c63
        obtain ⟨y207,hyy⟩ : ∃ y_ : List Int,y_ = (x168003_2 ++ [t198]) := ⟨_,rfl⟩
        replace H : (spec_l9Right.l0 k3 ji3 x5_8 false (wrap64 (x7_2 + 1)) s0_0 t205 t206 y164 (⟨#[121]⟩ : ByteArray) y195 y207) = some (r1,r2,r3,r4,r5,r6) := zR
        have Ny207 := Aside0.mk hyy
        clear hyy
        have H' := Aside0.mk H
        clear H
        have hnb64 := NB167_150.out
        have hnc64 := NB150_167.out
        have hnb65 := NB167_0.out
        have hnc65 := NB0_167.out
        obtain ⟨hcz66_0,hcz66_1,hcz66_2,hcz66_3,hfz66_0,hfz66_1,hfz66_2,hfz66_3⟩ := cells4 BK167.out
        obtain ⟨Ao68,co68,eo68⟩ := Kd.R_slice HO_8.out
        subst eo68
        go_wp2_with (first | ((with_reducible refine gate_builtin (b := .append) (xs := #[.tmp 55,.tmp 57]) rfl ?_);at_builtin;refine Kd.S_append (Kd.slice 3 (Kd.int .i64)) w.heap.size rfl (.tmp 55) (.tmp 57) 25 26 (.slice none 0 0) 24 rfl Try.underlying25 info26 rfl Z330 Z331 u168002 x168002_2 x8_3 [.slice Ao68 x8_3.length co68] (fun k_ => some k_ ≠ (u168003 : Value).ownBlock) (fun k_ => some k_ = (.slice Ao68 x8_3.length co68 : Value).ownBlock) rfl rfl ?aP (fun k_ hk_ => ((Kd.R_mono (ok' := fun k_ => ((fun k_ => some k_ ≠ (u168003 : Value).ownBlock)) k_ ∧ some k_ ≠ (u168002 : Value).ownBlock) (Kd.R_apart' (HO_8.out) (Kd.S_typed HO_168002.out) Z330) (fun k_ hk => ⟨hk.1,hk.2⟩))).1 k_ hk_.symm) ?aF ?aO (Below.refl _ _) ?aS ?aL ?_;(case aP => exact Z49);(case aF => exact Z127);(case aO => exact Z122);(case aS => exact Z52);(case aL => have := LMc45.out;omega);intro v196 w67 ho hb hg hat;rw [← Ny195.out] at ho;have n_ := Z3;clear HO_168000 HO_168003 BK150 BK167 HI0 HB HK HO_168002 HO_8;obtain ⟨HO_168000,HO_168003,BK150,BK167,HI0,HB,HK,HO197⟩ := n_;clear ho hb hg hat;obtain ⟨Ao69,co69,eo69⟩ := Kd.S_slice HO197.out;subst eo69;obtain ⟨hcz70_0,hcz70_1,hcz70_2,hcz70_3,hfz70_0,hfz70_1,hfz70_2,hfz70_3⟩ := cells4 BK167.out) | ((with_reducible refine gate_callee (f := 55) rfl ?_);refine goesL_ (some 61) rfl rfl Try.func55 Z256 rfl #[.pointer (some ⟨g,0,none⟩)] rfl Z159 ?_;(with_reducible refine (spec_l6Small.calls g s0_0 x1001_3 x1002_3 t198 t199 t200 w0 _ ?side1 ?side2 A46.out).mono ?_);(case side1 => exact Z259);(case side2 => exact Z260);rintro e w71 ⟨rfl,hi,hb,hk⟩;refine ⟨_,rfl,?_⟩;have n_ := jA (Kd.R_mono (Kd.R_keep (IsS53.apart (show IsS53 w0 _ g s0_0 x1001_3 x1002_3 from Z259) (by (with_reducible repeat (first | apply Kd.R_alloc | apply Kd.R_drewN | apply Kd.R_drew));exact (Kd.R_mono (Kd.R_far (p := ⟨gb167,2,none⟩) (Kd.R_types HO_168000.out BK167.out Z330) (fun _ hk => hk.2) (.slice Ao69 y195.length co69)) (fun _ h_ => h_.1))) Z330) hk (fun _ h => h.2)) (fun _ h => h.1)) (jA (Kd.R_mono (Kd.R_keep (IsS53.apart (show IsS53 w0 _ g s0_0 x1001_3 x1002_3 from Z259) (by (with_reducible repeat (first | apply Kd.R_alloc | apply Kd.R_drewN | apply Kd.R_drew));exact (Kd.R_mono (Kd.R_far (p := ⟨gb167,2,none⟩) (Kd.R_types HO_168003.out BK167.out Z330) (fun _ hk => hk.2) (.slice Ao69 y195.length co69)) (fun _ h_ => h_.1))) Z330) hk (fun _ h => h.2)) (fun _ h => h.1)) (jA (KeepBut.blk hk (g' := gb150) (o := .cells #[.slice none 0 0,.string (⟨#[]⟩ : ByteArray),.slice none 0 0,.slice none 0 0] 28 (0,0)) Z217 NB150_0.out Z332) (jA (KeepBut.blk hk (g' := gb167) (o := .cells #[.slice Ao19 y164.length co19,.string (⟨#[121]⟩ : ByteArray),.slice Ao69 y195.length co69,u168003] 28 (0,0)) Z128 NB167_0.out Z332) (jA (Kd.S_mono (Kd.S_keep (IsS53.apartS (show IsS53 w0 _ g s0_0 x1001_3 x1002_3 from Z259) (by (with_reducible repeat (first | apply Kd.S_alloc | apply Kd.S_drewN | apply Kd.S_drew));exact (Kd.S_mono (Kd.S_far (p := ⟨gb167,2,none⟩) (Kd.S_types HO197.out BK167.out Z330) (fun _ hk => hk.2) (.slice Ao69 y195.length co69)) (fun _ h_ => h_.1))) Z330) hk (fun _ h => h.2)) (fun _ h => h.1)) (jA (KeepBut.trans Z264 hk (.inl rfl)) (jA (hb) (Aside0.mk (hi))))))));clear HO_168000 HO_168003 BK150 BK167 HO197 HK HB HI0;obtain ⟨HO_168000,HO_168003,BK150,BK167,HO197,HK,HB,HI0⟩ := n_;(try clear hb);(try clear hb2);(try clear hk);(try clear hi)) | (go_at_call 54;(with_reducible refine (spec_l1Once.calls g s0_0 t199 t200 4 true t205 t206 w0 _ ?side1 ?side2 A61.out).mono ?_);(case side1 => exact Z259);(case side2 => exact Z260);rintro e w72 ⟨rfl,hi,hb,hk⟩;have n_ := jA (Kd.R_mono (Kd.R_keep (IsS53.apart (show IsS53 w0 _ g s0_0 t199 t200 from Z259) Z293 Z330) hk (fun _ h => h.2)) (fun _ h => h.1)) (jA (Kd.R_mono (Kd.R_keep (IsS53.apart (show IsS53 w0 _ g s0_0 t199 t200 from Z259) Z294 Z330) hk (fun _ h => h.2)) (fun _ h => h.1)) (jA (KeepBut.blk hk (g' := gb150) (o := .cells #[.slice none 0 0,.string (⟨#[]⟩ : ByteArray),.slice none 0 0,.slice none 0 0] 28 (0,0)) Z320 NB150_0.out Z332) (jA (KeepBut.blk hk (g' := gb167) (o := .cells #[.slice Ao19 y164.length co19,.string (⟨#[121]⟩ : ByteArray),.slice Ao69 y195.length co69,u168003] 28 (0,0)) Z321 NB167_0.out Z332) (jA (Kd.S_mono (Kd.S_keep (IsS53.apartS (show IsS53 w0 _ g s0_0 t199 t200 from Z259) Z191 Z330) hk (fun _ h => h.2)) (fun _ h => h.1)) (jA (KeepBut.trans Z264 hk (.inl rfl)) (jA (hb) (Aside0.mk (hi))))))));clear HO_168000 HO_168003 BK150 BK167 HO197 HK HB HI0;obtain ⟨HO_168000,HO_168003,BK150,BK167,HO197,HK,HB,HI0⟩ := n_;(try clear hb);(try clear hb2);(try clear hk);(try clear hi);obtain ⟨hcz73_0,hcz73_1,hcz73_2,hcz73_3,hfz73_0,hfz73_1,hfz73_2,hfz73_3⟩ := cells4 BK167.out) | ((with_reducible refine gate_builtin (b := .append) (xs := #[.tmp 78,.tmp 80]) rfl ?_);at_builtin;refine Kd.R_append (Kd.int .i64) w.heap.size rfl (.tmp 78) (.tmp 80) 26 3 (.int .i64 0) 8 rfl Try.underlying26 info3 rfl Z330 Z331 u168003 x168003_2 t198 [.int .i64 t198] (fun _ => True) (fun _ => False) rfl rfl ?aP (fun _ hk => hk.elim) ?aF ?aO (Below.refl _ _) ?aS ?aL ?_;(case aP => exact rfl);(case aF => exact Z250);(case aO => exact Z143);(case aS => exact Z52);(case aL => have := LMc63.out;omega);intro v208 w74 ho hb hg hat;rw [← Ny207.out] at ho;have n_ := jA (Kd.R_over' Z293 (Kd.R_typed Z294) Z330 hg) (jA (blk_grown (g := gb150) (o := .cells #[.slice none 0 0,.string (⟨#[]⟩ : ByteArray),.slice none 0 0,.slice none 0 0] 28 (0,0)) Z320 hg (Kd.R_ne HO_168003.out BK150.out Z330)) (jA (blk_grown (g := gb167) (o := .cells #[.slice Ao19 y164.length co19,.string (⟨#[121]⟩ : ByteArray),.slice Ao69 y195.length co69,u168003] 28 (0,0)) Z321 hg (Kd.R_ne HO_168003.out BK167.out Z330)) (jA (IsS53.grown Z258 hg (IsS53.own_ne HI0.out HO_168003.out Z330)) (jA (Kd.S_after (ok := (fun _ => True)) Z149 hg hat) (jA (below_weaken Z260 HL.out hb) (jA (KeepBut.trans Z264 (KeepBut.of_grown hg g) (Kd.R_base2 HO_168003.out)) (Aside0.mk (ho))))))));clear HO_168000 BK150 BK167 HI0 HO197 HB HK HO_168003;obtain ⟨HO_168000,BK150,BK167,HI0,HO197,HB,HK,HO209⟩ := n_;clear ho hb hg hat;obtain ⟨Ao75,co75,eo75⟩ := Kd.R_slice HO209.out;subst eo75;obtain ⟨hcz76_0,hcz76_1,hcz76_2,hcz76_3,hfz76_0,hfz76_1,hfz76_2,hfz76_3⟩ := cells4 BK167.out))
        go_roundg k3
        case measure => have := HJ8.out;have := HK2.out;have := HK3.out;omega
        case rel => exact ⟨(wrap64 (x7_2 + 1)),(t205),(t206),(y195),(y207),(.slice Ao69 y195.length co69),(.slice Ao75 y207.length co75),Z230,H',⟨Z225⟩,⟨by (with_reducible repeat (first | apply Kd.R_alloc | apply Kd.R_drewN | apply Kd.R_drew));exact Kd.R_mono (Kd.R_far (p := ⟨gb167,3,none⟩) (Kd.R_types HO_168000.out BK167.out Z330) (fun _ hk => hk.2) (.slice Ao75 y207.length co75)) (fun _ hk => trivial)⟩,⟨by (with_reducible repeat (first | apply Kd.S_alloc | apply Kd.S_drewN | apply Kd.S_drew));exact Kd.S_mono (Kd.S_far (p := ⟨gb167,3,none⟩) (Kd.S_types HO197.out BK167.out Z330) (fun _ hk => hk.2) (.slice Ao75 y207.length co75)) (fun _ hk => hk.1.2)⟩,⟨by (with_reducible repeat (first | apply Kd.R_alloc | apply Kd.R_drewN | apply Kd.R_drew));exact Kd.R_mono (Kd.R_far (p := ⟨gb167,3,none⟩) (Kd.R_types HO209.out BK167.out Z330) (fun _ hk => hk.2) (.slice Ao75 y207.length co75)) (fun _ hk => trivial)⟩,⟨Z217⟩,⟨by refine bP ?_;refine blk_put (cs := #[.slice Ao19 y164.length co19,.string (⟨#[121]⟩ : ByteArray),.slice Ao69 y195.length co69,u168003]) ?_ 3 _ rfl;refine bP ?_;exact BK167.out⟩,⟨Z259⟩,⟨Z264⟩,⟨Z260⟩⟩
       replace c62 := Bool.eq_false_iff.mpr c62
       subst c62
       rw [if_neg Bool.false_ne_true] at H
       obtain ⟨c77,H⟩ := ifp H
       have c77b0 : decide (0 < (x8_3.length : Int)) = true := decide_eq_true c77
       have c77b1 : decide (0 < x8_3.length) = true := decide_eq_true Z331
       clear c77
       obtain ⟨⟨t211,t212,t213⟩,A780,H⟩ := Option.bind_eq_some_iff.mp H
       try dsimp only at H
       have A78 := Aside0.mk A780
       clear A780
       obtain ⟨c79,H⟩ := ifp H
       have LMc79 := Aside0.mk c79
       clear c79
       obtain ⟨y214,hyy⟩ : ∃ y_ : List Int,y_ = (x168003_2 ++ [wrap64 ((wrap64 ((rd x8_3 0) * 2)) + (wrap64 (100 * t211)))]) := ⟨_,rfl⟩
       replace H : (spec_l9Right.l0 k3 ji3 x5_8 false (wrap64 (x7_2 + 1)) s0_0 t212 t213 y164 (⟨#[121]⟩ : ByteArray) y195 y214) = some (r1,r2,r3,r4,r5,r6) := zR
       have Ny214 := Aside0.mk hyy
       clear hyy
       have H' := Aside0.mk H
       clear H
       have hnb80 := NB167_150.out
       have hnc80 := NB150_167.out
       have hnb81 := NB167_0.out
       have hnc81 := NB0_167.out
       obtain ⟨hcz82_0,hcz82_1,hcz82_2,hcz82_3,hfz82_0,hfz82_1,hfz82_2,hfz82_3⟩ := cells4 BK167.out
       obtain ⟨Ao84,co84,eo84⟩ := Kd.R_slice HO_8.out
       subst eo84
       try go_wp2_with (first | ((with_reducible refine gate_builtin (b := .append) (xs := #[.tmp 55,.tmp 57]) rfl ?_);at_builtin;refine Kd.S_append (Kd.slice 3 (Kd.int .i64)) w.heap.size rfl (.tmp 55) (.tmp 57) 25 26 (.slice none 0 0) 24 rfl Try.underlying25 info26 rfl Z330 Z331 u168002 x168002_2 x8_3 [.slice Ao84 x8_3.length co84] (fun k_ => some k_ ≠ (u168003 : Value).ownBlock) (fun k_ => some k_ = (.slice Ao84 x8_3.length co84 : Value).ownBlock) rfl rfl ?aP (fun k_ hk_ => ((Kd.R_mono (ok' := fun k_ => ((fun k_ => some k_ ≠ (u168003 : Value).ownBlock)) k_ ∧ some k_ ≠ (u168002 : Value).ownBlock) (Kd.R_apart' (HO_8.out) (Kd.S_typed HO_168002.out) Z330) (fun k_ hk => ⟨hk.1,hk.2⟩))).1 k_ hk_.symm) ?aF ?aO (Below.refl _ _) ?aS ?aL ?_;(case aP => exact Z49);(case aF => exact Z127);(case aO => exact Z122);(case aS => exact Z52);(case aL => have := LMc45.out;omega);intro v196 w83 ho hb hg hat;rw [← Ny195.out] at ho;have n0_ := Aside0.mk (Kd.R_over' Z293 (Kd.S_typed Z295) Z330 hg);have nh_ := Aside0.mk (Kd.R_over' Z310 (Kd.S_typed Z295) Z330 hg);have n1_ := Aside0.mk (Kd.R_over' Z294 (Kd.S_typed Z295) Z330 hg);have n2_ := Aside0.mk (blk_grown (g := gb150) (o := .cells #[.slice none 0 0,.string (⟨#[]⟩ : ByteArray),.slice none 0 0,.slice none 0 0] 28 (0,0)) Z320 hg (Kd.S_ne HO_168002.out BK150.out Z330));have n3_ := Aside0.mk (blk_grown (g := gb167) (o := .cells #[.slice Ao19 y164.length co19,.string (⟨#[121]⟩ : ByteArray),u168002,u168003] 28 (0,0)) Z321 hg (Kd.S_ne HO_168002.out BK167.out Z330));have n4_ := Aside0.mk (IsS53.grown Z258 hg (IsS53.own_neS HI0.out HO_168002.out Z330));have n5_ := Aside0.mk (below_weaken Z260 HL.out hb);have n6_ := Aside0.mk (KeepBut.trans Z264 (KeepBut.of_grown hg g) (Kd.S_base2 HO_168002.out));have n7_ := Aside0.mk (ho);clear HO_168000;clear HO_168003;clear BK150;clear BK167;clear HI0;clear HB;clear HK;clear HO_168002;clear HO_8;have HO_168000 := n0_;(try clear HO_8);have HO_8 := nh_;clear nh_;have HO_168003 := n1_;have BK150 := n2_;have BK167 := n3_;have HI0 := n4_;have HB := n5_;have HK := n6_;have HO197 := n7_;clear n0_ n1_ n2_ n3_ n4_ n5_ n6_ n7_;clear ho hb hg hat;obtain ⟨Ao85,co85,eo85⟩ := Kd.S_slice HO197.out;subst eo85;obtain ⟨hcz86_0,hcz86_1,hcz86_2,hcz86_3,hfz86_0,hfz86_1,hfz86_2,hfz86_3⟩ := cells4 BK167.out) | ((with_reducible refine gate_callee (f := 55) rfl ?_);refine goesL_ (some 61) rfl rfl Try.func55 Z256 rfl #[.pointer (some ⟨g,0,none⟩)] rfl Z159 ?_;(with_reducible refine (spec_l6Small.calls g s0_0 x1001_3 x1002_3 t198 t199 t200 w0 _ ?side1 ?side2 A46.out).mono ?_);(case side1 => exact Z259);(case side2 => exact Z260);rintro e w87 ⟨rfl,hi,hb,hk⟩;refine ⟨_,rfl,?_⟩;have n0_ := Aside0.mk (Kd.R_mono (Kd.R_keep (IsS53.apart (show IsS53 w0 _ g s0_0 x1001_3 x1002_3 from Z259) (by (with_reducible repeat (first | apply Kd.R_alloc | apply Kd.R_drewN | apply Kd.R_drew));exact (Kd.R_mono (Kd.R_far (p := ⟨gb167,2,none⟩) (Kd.R_types HO_168000.out BK167.out Z330) (fun _ hk => hk.2) (.slice Ao85 y195.length co85)) (fun _ h_ => h_.1))) Z330) hk (fun _ h => h.2)) (fun _ h => h.1));have nh_ := Aside0.mk (Kd.R_mono (Kd.R_keep (IsS53.apart (show IsS53 w0 _ g s0_0 x1001_3 x1002_3 from Z259) (by (with_reducible repeat (first | apply Kd.R_alloc | apply Kd.R_drewN | apply Kd.R_drew));exact (Kd.R_mono (Kd.R_far (p := ⟨gb167,2,none⟩) (Kd.R_types HO_8.out BK167.out Z330) (fun _ hk => hk.2) (.slice Ao85 y195.length co85)) (fun _ h_ => h_.1))) Z330) hk (fun _ h => h.2)) (fun _ h => h.1));have n1_ := Aside0.mk (Kd.R_mono (Kd.R_keep (IsS53.apart (show IsS53 w0 _ g s0_0 x1001_3 x1002_3 from Z259) (by (with_reducible repeat (first | apply Kd.R_alloc | apply Kd.R_drewN | apply Kd.R_drew));exact (Kd.R_mono (Kd.R_far (p := ⟨gb167,2,none⟩) (Kd.R_types HO_168003.out BK167.out Z330) (fun _ hk => hk.2) (.slice Ao85 y195.length co85)) (fun _ h_ => h_.1))) Z330) hk (fun _ h => h.2)) (fun _ h => h.1));have n2_ := Aside0.mk (KeepBut.blk hk (g' := gb150) (o := .cells #[.slice none 0 0,.string (⟨#[]⟩ : ByteArray),.slice none 0 0,.slice none 0 0] 28 (0,0)) Z217 NB150_0.out Z332);have n3_ := Aside0.mk (KeepBut.blk hk (g' := gb167) (o := .cells #[.slice Ao19 y164.length co19,.string (⟨#[121]⟩ : ByteArray),.slice Ao85 y195.length co85,u168003] 28 (0,0)) Z128 NB167_0.out Z332);have n4_ := Aside0.mk (Kd.S_mono (Kd.S_keep (IsS53.apartS (show IsS53 w0 _ g s0_0 x1001_3 x1002_3 from Z259) (by (with_reducible repeat (first | apply Kd.S_alloc | apply Kd.S_drewN | apply Kd.S_drew));exact (Kd.S_mono (Kd.S_far (p := ⟨gb167,2,none⟩) (Kd.S_types HO197.out BK167.out Z330) (fun _ hk => hk.2) (.slice Ao85 y195.length co85)) (fun _ h_ => h_.1))) Z330) hk (fun _ h => h.2)) (fun _ h => h.1));have n5_ := Aside0.mk (KeepBut.trans Z264 hk (.inl rfl));have n6_ := Aside0.mk (hb);have n7_ := Aside0.mk (hi);clear HO_168000;clear HO_168003;clear BK150;clear BK167;clear HO197;clear HK;clear HB;clear HI0;have HO_168000 := n0_;(try clear HO_8);have HO_8 := nh_;clear nh_;have HO_168003 := n1_;have BK150 := n2_;have BK167 := n3_;have HO197 := n4_;have HK := n5_;have HB := n6_;have HI0 := n7_;clear n0_ n1_ n2_ n3_ n4_ n5_ n6_ n7_;(try clear hb);(try clear hb2);(try clear hk);(try clear hi)) | (go_at_call 54;(with_reducible refine (spec_l1Once.calls g s0_0 t199 t200 4 false t205 t206 w0 _ ?side1 ?side2 A61.out).mono ?_);(case side1 => exact Z259);(case side2 => exact Z260);rintro e w88 ⟨rfl,hi,hb,hk⟩;have n0_ := Aside0.mk (Kd.R_mono (Kd.R_keep (IsS53.apart (show IsS53 w0 _ g s0_0 t199 t200 from Z259) Z293 Z330) hk (fun _ h => h.2)) (fun _ h => h.1));have nh_ := Aside0.mk (Kd.R_mono (Kd.R_keep (IsS53.apart (show IsS53 w0 _ g s0_0 t199 t200 from Z259) Z310 Z330) hk (fun _ h => h.2)) (fun _ h => h.1));have n1_ := Aside0.mk (Kd.R_mono (Kd.R_keep (IsS53.apart (show IsS53 w0 _ g s0_0 t199 t200 from Z259) Z294 Z330) hk (fun _ h => h.2)) (fun _ h => h.1));have n2_ := Aside0.mk (KeepBut.blk hk (g' := gb150) (o := .cells #[.slice none 0 0,.string (⟨#[]⟩ : ByteArray),.slice none 0 0,.slice none 0 0] 28 (0,0)) Z320 NB150_0.out Z332);have n3_ := Aside0.mk (KeepBut.blk hk (g' := gb167) (o := .cells #[.slice Ao19 y164.length co19,.string (⟨#[121]⟩ : ByteArray),.slice Ao85 y195.length co85,u168003] 28 (0,0)) Z321 NB167_0.out Z332);have n4_ := Aside0.mk (Kd.S_mono (Kd.S_keep (IsS53.apartS (show IsS53 w0 _ g s0_0 t199 t200 from Z259) Z191 Z330) hk (fun _ h => h.2)) (fun _ h => h.1));have n5_ := Aside0.mk (KeepBut.trans Z264 hk (.inl rfl));have n6_ := Aside0.mk (hb);have n7_ := Aside0.mk (hi);clear HO_168000;clear HO_168003;clear BK150;clear BK167;clear HO197;clear HK;clear HB;clear HI0;have HO_168000 := n0_;(try clear HO_8);have HO_8 := nh_;clear nh_;have HO_168003 := n1_;have BK150 := n2_;have BK167 := n3_;have HO197 := n4_;have HK := n5_;have HB := n6_;have HI0 := n7_;clear n0_ n1_ n2_ n3_ n4_ n5_ n6_ n7_;(try clear hb);(try clear hb2);(try clear hk);(try clear hi)))
       have n0_ := Aside0.mk (Kd.R_drew HO_168000.out);have nh_ := Aside0.mk (Kd.R_drew HO_8.out)
       have n1_ := Aside0.mk (Kd.R_drew HO_168003.out)
       have n2_ := Aside0.mk (Kd.S_drew HO197.out)
       have n3_ := Aside0.mk (blk_drew BK150.out)
       have n4_ := Aside0.mk (blk_drew BK167.out)
       have n5_ := Aside0.mk (IsS53.drew HI0.out)
       have n6_ := Aside0.mk (keep_drew HK.out)
       have n7_ := Aside0.mk (below_drew1 HB.out)
       clear HO_168000
       clear HO_168003
       clear HO197
       clear BK150
       clear BK167
       clear HI0
       clear HK
       clear HB
       have HO_168000 := n0_;(try clear HO_8);have HO_8 := nh_;clear nh_
       have HO_168003 := n1_
       have HO197 := n2_
       have BK150 := n3_
       have BK167 := n4_
       have HI0 := n5_
       have HK := n6_
       have HB := n7_
       clear n0_ n1_ n2_ n3_ n4_ n5_ n6_ n7_
       have p210 : 0 ≤ (0 : Int) := Z331
       have q210 : 0 < (x8_3.length : Int) := of_decide_eq_true Z229
       obtain ⟨ad210,e210,hx210_0⟩ := Kd.at_int (Kd.R_reads' HO_8.out).2.2 0 p210 q210
       cases e210
       have qi210 : (0 < x8_3.length) = True := eq_true Z331
       (try rw [show ((0 : Int)).toNat = 0 from rfl] at hx210_0)
       (try rw [Addr.add_zero'] at hx210_0)
       replace p210 := eq_true p210
       replace q210 := eq_true q210
       refine start_ (n := 9) (S := fun w' => w'.cell? ad210 = some (.int .i64 (rd x8_3 0))) (ds := []) (qM 9 0) Z256 rfl (by kernel_rfl) (hx210_0) (fun hHeld => ?_);refine with_tabW spec_l9Right.tab21 spec_l9Right.bits21 (fun HT_ HW_ => ?_)
       generalize w88.drew = w89 at HO_8 HO_168000 HO_168003 HO197 BK150 BK167 HI0 HK HB hx210_0 hHeld ⊢
       refine rP 0 69 9 1 HT_ (h := ?_)
       refine rP 1 70 9 3 HT_ (h := ?_)
       refine rP 4 73 9 19 HT_ (h := ?_)
       refine take_ (i := 2) (N := some 71) (v := ?_) (a' := ?_) (qM 9 23) rfl rfl (take_ofW HT_.out HW_.out Z256) (fun _ _ _ h => h) (Or.inl ⟨Z257,?_⟩) hHeld ?_ ?_
       rotate_left
       ·intro w' s0
        go_simp
        with_reducible rfl
       rotate_left
       ·simp only [Act.put,List.setIfInBounds_toArray,List.set_cons_zero,List.set_cons_succ,i64_w,i32_w]
        rfl
       refine rP 3 72 9 31 HT_ (h := ?_)
       refine rO 5 74 9 63 HT_ (h := fun K hK => ?_)
       refine goes_ Try.func37 Z256 rfl #[.pointer (some ⟨g,0,none⟩),.int .i64 5] Z257 rfl rfl Z159 ?_
       with_reducible refine (spec_l1Below.calls g s0_0 t205 t206 5 t211 t212 t213 w0 _ ?side1 ?side2 A78.out).mono ?_
       (case side1 => exact Z259)
       (case side2 => exact Z260)
       rintro e w90 ⟨rfl,hi,hb,hk⟩
       have HS0_ := keep_cell hk (hHeld) (by first | (rw [add_block];exact Kd.own_blk (IsS53.own_ne HI0.out HO_8.out Z330)) | (show (Addr.add _ _).block ≠ _;rw [add_block];exact Kd.own_blk (IsS53.own_ne HI0.out HO_8.out Z330)) | exact Kd.own_blk (IsS53.own_ne HI0.out HO_8.out Z330))
       refine ⟨_,rfl,?_⟩
       have n_ := jA (Kd.R_mono (Kd.R_keep (IsS53.apart (show IsS53 w0 _ g s0_0 t205 t206 from Z259) Z293 Z330) hk (fun _ h => h.2)) (fun _ h => h.1)) (jA (Kd.R_mono (Kd.R_keep (IsS53.apart (show IsS53 w0 _ g s0_0 t205 t206 from Z259) Z294 Z330) hk (fun _ h => h.2)) (fun _ h => h.1)) (jA (KeepBut.blk hk (g' := gb150) (o := .cells #[.slice none 0 0,.string (⟨#[]⟩ : ByteArray),.slice none 0 0,.slice none 0 0] 28 (0,0)) Z320 NB150_0.out Z332) (jA (KeepBut.blk hk (g' := gb167) (o := .cells #[.slice Ao19 y164.length co19,.string (⟨#[121]⟩ : ByteArray),.slice Ao85 y195.length co85,u168003] 28 (0,0)) Z321 NB167_0.out Z332) (jA (Kd.S_mono (Kd.S_keep (IsS53.apartS (show IsS53 w0 _ g s0_0 t205 t206 from Z259) Z191 Z330) hk (fun _ h => h.2)) (fun _ h => h.1)) (jA (KeepBut.trans Z264 hk (.inl rfl)) (jA (hb) (Aside0.mk (hi))))))))
       clear HO_168000 HO_168003 BK150 BK167 HO197 HK HB HI0
       obtain ⟨HO_168000,HO_168003,BK150,BK167,HO197,HK,HB,HI0⟩ := n_
       (try clear hb)
       (try clear hb2)
       (try clear hk)
       (try clear hi)
       refine hK.out _ _ (HS0_) (fun hHeld => ?_)
       clear hK K
       refine rN (h := ?_)
       refine rP 6 75 9 127 HT_ (h := ?_)
       refine rP 7 76 9 255 HT_ (h := ?_)
       refine rP 8 11 9 511 HT_ (h := ?_)
       refine done_ (done_of HT_.out Z256) ?_
       obtain ⟨hcz91_0,hcz91_1,hcz91_2,hcz91_3,hfz91_0,hfz91_1,hfz91_2,hfz91_3⟩ := cells4 BK167.out
       try go_wp2_with (first | ((with_reducible refine gate_builtin (b := .append) (xs := #[.tmp 78,.tmp 80]) rfl ?_);at_builtin;refine Kd.R_append (Kd.int .i64) w.heap.size rfl (.tmp 78) (.tmp 80) 26 3 (.int .i64 0) 8 rfl Try.underlying26 info3 rfl Z330 Z331 u168003 x168003_2 (wrap64 ((wrap64 ((rd x8_3 0) * 2)) + (wrap64 (100 * t211)))) [.int .i64 (wrap64 ((wrap64 ((rd x8_3 0) * 2)) + (wrap64 (100 * t211))))] (fun _ => True) (fun _ => False) rfl rfl ?aP (fun _ hk => hk.elim) ?aF ?aO (Below.refl _ _) ?aS ?aL ?_;(case aP => exact rfl);(case aF => exact Z250);(case aO => exact Z143);(case aS => exact Z52);(case aL => have := LMc79.out;omega);intro v215 w92 ho hb hg hat;rw [← Ny214.out] at ho;have n_ := jA (Kd.R_over' Z293 (Kd.R_typed Z294) Z330 hg) (jA (blk_grown (g := gb150) (o := .cells #[.slice none 0 0,.string (⟨#[]⟩ : ByteArray),.slice none 0 0,.slice none 0 0] 28 (0,0)) Z320 hg (Kd.R_ne HO_168003.out BK150.out Z330)) (jA (blk_grown (g := gb167) (o := .cells #[.slice Ao19 y164.length co19,.string (⟨#[121]⟩ : ByteArray),.slice Ao85 y195.length co85,u168003] 28 (0,0)) Z321 hg (Kd.R_ne HO_168003.out BK167.out Z330)) (jA (IsS53.grown Z258 hg (IsS53.own_ne HI0.out HO_168003.out Z330)) (jA (Kd.S_after (ok := (fun _ => True)) Z149 hg hat) (jA (below_weaken Z260 HL.out hb) (jA (KeepBut.trans Z264 (KeepBut.of_grown hg g) (Kd.R_base2 HO_168003.out)) (Aside0.mk (ho))))))));clear HO_168000 BK150 BK167 HI0 HO197 HB HK HO_168003;obtain ⟨HO_168000,BK150,BK167,HI0,HO197,HB,HK,HO216⟩ := n_;clear ho hb hg hat;obtain ⟨Ao93,co93,eo93⟩ := Kd.R_slice HO216.out;subst eo93;obtain ⟨hcz94_0,hcz94_1,hcz94_2,hcz94_3,hfz94_0,hfz94_1,hfz94_2,hfz94_3⟩ := cells4 BK167.out))
       go_roundg k3
       case measure => have := HJ8.out;have := HK2.out;have := HK3.out;omega
       case rel => exact ⟨(wrap64 (x7_2 + 1)),(t212),(t213),(y195),(y214),(.slice Ao85 y195.length co85),(.slice Ao93 y214.length co93),Z230,H',⟨Z225⟩,⟨by (with_reducible repeat (first | apply Kd.R_alloc | apply Kd.R_drewN | apply Kd.R_drew));exact Kd.R_mono (Kd.R_far (p := ⟨gb167,3,none⟩) (Kd.R_types HO_168000.out BK167.out Z330) (fun _ hk => hk.2) (.slice Ao93 y214.length co93)) (fun _ hk => trivial)⟩,⟨by (with_reducible repeat (first | apply Kd.S_alloc | apply Kd.S_drewN | apply Kd.S_drew));exact Kd.S_mono (Kd.S_far (p := ⟨gb167,3,none⟩) (Kd.S_types HO197.out BK167.out Z330) (fun _ hk => hk.2) (.slice Ao93 y214.length co93)) (fun _ hk => hk.1.2)⟩,⟨by (with_reducible repeat (first | apply Kd.R_alloc | apply Kd.R_drewN | apply Kd.R_drew));exact Kd.R_mono (Kd.R_far (p := ⟨gb167,3,none⟩) (Kd.R_types HO216.out BK167.out Z330) (fun _ hk => hk.2) (.slice Ao93 y214.length co93)) (fun _ hk => trivial)⟩,⟨Z217⟩,⟨by refine bP ?_;refine blk_put (cs := #[.slice Ao19 y164.length co19,.string (⟨#[121]⟩ : ByteArray),.slice Ao85 y195.length co85,u168003]) ?_ 3 _ rfl;refine bP ?_;exact BK167.out⟩,⟨Z259⟩,⟨Z264⟩,⟨Z260⟩⟩

/-! ### spec_l1Pick: function 38 -/
def spec_l1Pick.f (s0_0 : List Int) (s0_1 : Int) (s0_2 : Int) (l1 : List ByteArray) : Option (ByteArray × Int × Int) := (spec_l1Below.f s0_0 s0_1 s0_2 (l1.length : Int)).bind fun bt217 => (if 0 ≤ bt217.1 then (if bt217.1 < (l1.length : Int) then (some (rdOf ByteArray.empty l1 bt217.1,bt217.2.1,bt217.2.2)) else (none)) else (none))
set_option maxHeartbeats 8000000 in
set_option maxRecDepth 100000 in
theorem spec_l1Pick.calls (g : Nat) (s0_0 : List Int) (s0_1 : Int) (s0_2 : Int) (A1 : Option Addr) (c1 : Nat) (l1 : List ByteArray) (r1 : ByteArray) (r2 : Int) (r3 : Int) (w0 w : World) (hI : IsS53 w0 w g s0_0 s0_1 s0_2) (hB : Below w0.heap.size w0 w) (hr1 : Kd.C Kd.string w A1 l1.length l1) (hc1 : l1.length ≤ c1) (hf1 : ∀ ad,A1 = some ad → 0 < l1.length → ad.block ≠ g) (h : spec_l1Pick.f s0_0 s0_1 s0_2 l1 = some (r1,r2,r3)) :
  Calls Try.prog 38 #[.pointer (some ⟨g,0,none⟩),.slice A1 l1.length c1] w fun e w' => e = .returned (.string r1) ∧ IsS53 w0 w' g s0_0 r2 r3 ∧ Below w0.heap.size w0 w' ∧ KeepBut w w' g none := by
 have HR1 := Aside0.mk hr1
 have HC1 := Aside0.mk hc1
 clear hr1 hc1
 have HI0 := Aside0.mk hI
 have HK := Aside0.mk (KeepBut.refl w g none)
 have HL := Aside0.mk hB.size
 clear hI
 have HW0 := Aside0.mk hB.size
 have HB := Aside0.mk hB
 clear hB
 have H := h
 clear h
 unfold spec_l1Pick.f at H
 obtain ⟨⟨t217,t218,t219⟩,A30,H⟩ := Option.bind_eq_some_iff.mp H
 try dsimp only at H
 have A3 := Aside0.mk A30
 clear A30
 obtain ⟨c4,H⟩ := ifp H
 have c4b0 : decide (0 ≤ t217) = true := decide_eq_true c4
 clear c4
 obtain ⟨c5,H⟩ := ifp H
 have c5b0 : decide (t217 < (l1.length : Int)) = true := decide_eq_true c5
 clear c5
 simp only [Option.some.injEq,Prod.mk.injEq] at H
 obtain ⟨rfl,rfl,rfl⟩ := H
 go_enter Try.func38,Try.ntmps38
 go_wp2_with (first | ((with_reducible refine gate_callee (f := 37) rfl ?_);refine goesL_ (some 9) rfl rfl Try.func37 Z256 rfl #[.pointer (some ⟨g,0,none⟩),.int .i64 (l1.length : Int)] rfl Z159 ?_;(with_reducible refine (spec_l1Below.calls g s0_0 s0_1 s0_2 (l1.length : Int) t217 t218 t219 w0 _ ?side1 ?side2 A3.out).mono ?_);(case side1 => exact Z277);(case side2 => exact Z276);rintro e wq1 ⟨rfl,hi,hb,hk⟩;refine ⟨_,rfl,?_⟩;have n_ := Z76;clear HK HB HI0;obtain ⟨HK,HB,HI0⟩ := n_;(try clear hb);(try clear hb2);(try clear hk);(try clear hi);have pq2 : 0 ≤ (t217 : Int) := of_decide_eq_true Z229;have qq2 : t217 < (l1.length : Int) := of_decide_eq_true Z229;obtain ⟨adq2,eq2,hxq2_0⟩ := Kd.at_string HR1.out t217 pq2 qq2;cases eq2;replace hxq2_0 := keep_cell HK.out hxq2_0 Z170;replace pq2 := eq_true pq2;replace qq2 := eq_true qq2))
 go_ret
 exact ⟨Z212,Z277,Z276,Z288⟩

end Go.Proofs.Ytlflcgdcegohjab.QFnGrid
