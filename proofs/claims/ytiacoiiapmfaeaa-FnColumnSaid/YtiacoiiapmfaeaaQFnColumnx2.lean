/- The machine side of FnColumn: what each Go function that it reaches comes to. Conditions: none. -/
import Derived.Test.YtiacoiiapmfaeaaQFnColumnx0
import Derived.Test.YtiacoiiapmfaeaaQFnColumnx1
namespace Go.Proofs.Ytiacoiiapmfaeaa.QFnColumn
open Go.RowKit Go.Proofs.YtiacoiiapmfaeaaW.PrintWords Go.Proofs.YtiacoiiapmfaeaaW.PrintLast Go.Proofs.YtiacoiiapmfaeaaW.PrintMore
attribute [local go_sem] max2_int min2_int max_two min_two max_three min_three max_four min_four   -- for this text's walks alone
set_option linter.unusedVariables false
set_option linter.unusedSimpArgs false

/-! ### spec_l9Right: function 75 -/
mutual
def spec_l9Right.j0 : Nat → Int → Int → List Int → Int → Int → List ByteArray → ByteArray → Option (List ByteArray × ByteArray × (List (List Int)) × List Int × Int × Int)
 | 0,_,_,_,_,_,_,_ => none
 | k + 1,x3,x5,x1000,x1001,x1002,x163000,x163001 => (spec_l1Once.f x1000 x1001 x1002 12).bind fun bt172 => (spec_l9Right.l0 k x3 x5 bt172.1 0 x1000 bt172.2.1 bt172.2.2 x163000 x163001 ([] : List (List Int)) ([] : List Int))
def spec_l9Right.l0 : Nat → Int → Int → Bool → Int → List Int → Int → Int → List ByteArray → ByteArray → List (List Int) → List Int → Option (List ByteArray × ByteArray × (List (List Int)) × List Int × Int × Int)
 | 0,_,_,_,_,_,_,_,_,_,_,_ => none
 | k + 1,x3,x5,x6,x7,x1000,x1001,x1002,x163000,x163001,x163002,x163003 => if x7 < x5 then (spec_l9Right.l1 k x3 x5 x6 x7 (([] : List Int)) 0 x1000 x1001 x1002 x163000 x163001 x163002 x163003) else (some (x163000,x163001,x163002,x163003,x1001,x1002))
def spec_l9Right.l1 : Nat → Int → Int → Bool → Int → List Int → Int → List Int → Int → Int → List ByteArray → ByteArray → List (List Int) → List Int → Option (List ByteArray × ByteArray × (List (List Int)) × List Int × Int × Int)
 | 0,_,_,_,_,_,_,_,_,_,_,_,_,_ => none
 | k + 1,x3,x5,x6,x7,x8,x9,x1000,x1001,x1002,x163000,x163001,x163002,x163003 => if x9 < x3 then ((spec_l6Small.f x1000 x1001 x1002).bind fun bt178 => (if x6 = true then (if x8.length < 17592186044416 then (spec_l9Right.l1 k x3 x5 x6 x7 (x8 ++ [bt178.1]) (wrap64 (x9 + 1)) x1000 bt178.2.1 bt178.2.2 x163000 x163001 x163002 x163003) else (none)) else ((spec_l1Below.f x1000 bt178.2.1 bt178.2.2 7).bind fun bt184 => (if x8.length < 17592186044416 then (spec_l9Right.l1 k x3 x5 x6 x7 (x8 ++ [wrap64 (500 * (wrap64 (bt184.1 - 3)))]) (wrap64 (x9 + 1)) x1000 bt184.2.1 bt184.2.2 x163000 x163001 x163002 x163003) else (none))))) else (if x163002.length < 5864062014805 then ((some (x163002 ++ [x8] : List (List Int))).bind fun y190 => ((spec_l6Small.f x1000 x1001 x1002).bind fun bt193 => (if x6 = true then (if x163003.length < 17592186044416 then (spec_l9Right.l0 k x3 x5 x6 (wrap64 (x7 + 1)) x1000 bt193.2.1 bt193.2.2 x163000 x163001 y190 (x163003 ++ [bt193.1])) else (none)) else ((spec_l1Once.f x1000 bt193.2.1 bt193.2.2 4).bind fun bt199 => (if bt199.1 = true then (if x163003.length < 17592186044416 then (spec_l9Right.l0 k x3 x5 x6 (wrap64 (x7 + 1)) x1000 bt199.2.1 bt199.2.2 x163000 x163001 y190 (x163003 ++ [bt193.1])) else (none)) else (if 0 < (x8.length : Int) then ((spec_l1Below.f x1000 bt199.2.1 bt199.2.2 5).bind fun bt206 => (if x163003.length < 17592186044416 then (spec_l9Right.l0 k x3 x5 x6 (wrap64 (x7 + 1)) x1000 bt206.2.1 bt206.2.2 x163000 x163001 y190 (x163003 ++ [wrap64 ((wrap64 ((rd x8 0) * 2)) + (wrap64 (100 * bt206.1)))])) else (none))) else (none))))))) else (none))
end
def spec_l9Right.f (k : Nat) (s0_0 : List Int) (s0_1 : Int) (s0_2 : Int) : Option (List ByteArray × ByteArray × (List (List Int)) × List Int × Int × Int) := (spec_l1Below.f s0_0 s0_1 s0_2 3).bind fun bt146 => ((some (([] : List ByteArray) : List ByteArray)).bind fun y149 => ((some (([(⟨#[97]⟩ : ByteArray),(⟨#[98]⟩ : ByteArray),(⟨#[99,50]⟩ : ByteArray),(⟨#[100]⟩ : ByteArray)] : List ByteArray) : List ByteArray)).bind fun y152 => (if 0 ≤ (wrap64 (1 + bt146.1)) then (if (wrap64 (1 + bt146.1)) ≤ (y152.length : Int) then ((some (y152.take ((wrap64 (1 + bt146.1)) : Int).toNat : List ByteArray)).bind fun y155 => (if y149.length + y155.length < 8796093022208 then ((some (y149 ++ y155 : List ByteArray)).bind fun y159 => ((spec_l1Below.f s0_0 bt146.2.1 bt146.2.2 9).bind fun bt163 => ((spec_l1Once.f s0_0 bt163.2.1 bt163.2.2 10).bind fun bt166 => (if bt166.1 = true then ((spec_l1Below.f s0_0 bt166.2.1 bt166.2.2 40).bind fun bt169 => (spec_l9Right.j0 k (wrap64 (1 + bt146.1)) (wrap64 (1 + bt169.1)) s0_0 bt169.2.1 bt169.2.2 y159 (⟨#[121]⟩ : ByteArray))) else (spec_l9Right.j0 k (wrap64 (1 + bt146.1)) (wrap64 (1 + bt163.1)) s0_0 bt166.2.1 bt166.2.2 y159 (⟨#[121]⟩ : ByteArray)))))) else (none))) else (none)) else (none))))
theorem spec_l9Right.mono_l : ∀ k,(∀ y0 y1 y2 y3 y4 y5 y6,LeO (spec_l9Right.j0 k y0 y1 y2 y3 y4 y5 y6) (spec_l9Right.j0 (k + 1) y0 y1 y2 y3 y4 y5 y6)) ∧ (∀ y0 y1 y2 y3 y4 y5 y6 y7 y8 y9 y10,LeO (spec_l9Right.l0 k y0 y1 y2 y3 y4 y5 y6 y7 y8 y9 y10) (spec_l9Right.l0 (k + 1) y0 y1 y2 y3 y4 y5 y6 y7 y8 y9 y10)) ∧ (∀ y0 y1 y2 y3 y4 y5 y6 y7 y8 y9 y10 y11 y12,LeO (spec_l9Right.l1 k y0 y1 y2 y3 y4 y5 y6 y7 y8 y9 y10 y11 y12) (spec_l9Right.l1 (k + 1) y0 y1 y2 y3 y4 y5 y6 y7 y8 y9 y10 y11 y12))
 | 0 => ⟨fun _ _ _ _ _ _ _ r h => by simp [spec_l9Right.j0] at h,fun _ _ _ _ _ _ _ _ _ _ _ r h => by simp [spec_l9Right.l0] at h,fun _ _ _ _ _ _ _ _ _ _ _ _ _ r h => by simp [spec_l9Right.l1] at h⟩
 | k + 1 => by
  obtain ⟨ih0,ih1,ih2⟩ := spec_l9Right.mono_l k
  refine ⟨?_,?_,?_⟩
  ·intro y0 y1 y2 y3 y4 y5 y6
   unfold spec_l9Right.j0
   repeat' first
   | (with_reducible exact ih0 _ _ _ _ _ _ _)
   | (with_reducible exact ih1 _ _ _ _ _ _ _ _ _ _ _)
   | (with_reducible exact ih2 _ _ _ _ _ _ _ _ _ _ _ _ _)
   | (with_reducible exact LeO.refl _)
   | (with_reducible exact LeO.none _)
   | (with_reducible refine LeO.ite ?_ ?_)
   | (with_reducible refine LeO.bind ?_ (fun _ => ?_))
   | exact ih0 _ _ _ _ _ _ _
   | exact ih1 _ _ _ _ _ _ _ _ _ _ _
   | exact ih2 _ _ _ _ _ _ _ _ _ _ _ _ _
   | exact LeO.none _
   | refine LeO.ite ?_ ?_
   | refine LeO.bind ?_ (fun _ => ?_)
  ·intro y0 y1 y2 y3 y4 y5 y6 y7 y8 y9 y10
   unfold spec_l9Right.l0
   repeat' first
   | (with_reducible exact ih0 _ _ _ _ _ _ _)
   | (with_reducible exact ih1 _ _ _ _ _ _ _ _ _ _ _)
   | (with_reducible exact ih2 _ _ _ _ _ _ _ _ _ _ _ _ _)
   | (with_reducible exact LeO.refl _)
   | (with_reducible exact LeO.none _)
   | (with_reducible refine LeO.ite ?_ ?_)
   | (with_reducible refine LeO.bind ?_ (fun _ => ?_))
   | exact ih0 _ _ _ _ _ _ _
   | exact ih1 _ _ _ _ _ _ _ _ _ _ _
   | exact ih2 _ _ _ _ _ _ _ _ _ _ _ _ _
   | exact LeO.none _
   | refine LeO.ite ?_ ?_
   | refine LeO.bind ?_ (fun _ => ?_)
  ·intro y0 y1 y2 y3 y4 y5 y6 y7 y8 y9 y10 y11 y12
   unfold spec_l9Right.l1
   repeat' first
   | (with_reducible exact ih0 _ _ _ _ _ _ _)
   | (with_reducible exact ih1 _ _ _ _ _ _ _ _ _ _ _)
   | (with_reducible exact ih2 _ _ _ _ _ _ _ _ _ _ _ _ _)
   | (with_reducible exact LeO.refl _)
   | (with_reducible exact LeO.none _)
   | (with_reducible refine LeO.ite ?_ ?_)
   | (with_reducible refine LeO.bind ?_ (fun _ => ?_))
   | exact ih0 _ _ _ _ _ _ _
   | exact ih1 _ _ _ _ _ _ _ _ _ _ _
   | exact ih2 _ _ _ _ _ _ _ _ _ _ _ _ _
   | exact LeO.none _
   | refine LeO.ite ?_ ?_
   | refine LeO.bind ?_ (fun _ => ?_)
theorem spec_l9Right.mono : ∀ a0 a1 a2 k,LeO (spec_l9Right.f k a0 a1 a2) (spec_l9Right.f (k + 1) a0 a1 a2) := by
 intro a0 a1 a2 k
 obtain ⟨ih0,ih1,ih2⟩ := spec_l9Right.mono_l k
 unfold spec_l9Right.f
 repeat' first
   | (with_reducible exact ih0 _ _ _ _ _ _ _)
   | (with_reducible exact ih1 _ _ _ _ _ _ _ _ _ _ _)
   | (with_reducible exact ih2 _ _ _ _ _ _ _ _ _ _ _ _ _)
   | (with_reducible exact LeO.refl _)
   | (with_reducible exact LeO.none _)
   | (with_reducible refine LeO.ite ?_ ?_)
   | (with_reducible refine LeO.bind ?_ (fun _ => ?_))
   | exact ih0 _ _ _ _ _ _ _
   | exact ih1 _ _ _ _ _ _ _ _ _ _ _
   | exact ih2 _ _ _ _ _ _ _ _ _ _ _ _ _
   | exact LeO.none _
   | refine LeO.ite ?_ ?_
   | refine LeO.bind ?_ (fun _ => ?_)
def spec_l9Right.T21 : Bool × List (List Nat × List Nat) := (true,[([],[]),([0],[0]),([1],[1]),([2],[2]),([],[]),([4],[4]),([5],[5]),([3,6],[3,6]),([7,5,0,1,2,3,4,5,6,7],[7])])
def spec_l9Right.B21 : List Nat := [0,1,3,7,0,16,48,127,255]
theorem spec_l9Right.tab21 : rtab .any (opsOf Try.f75 21) = spec_l9Right.T21 := by kernel_rfl
theorem spec_l9Right.bits21 : waitsOk spec_l9Right.T21.2 spec_l9Right.B21 = true := by kernel_rfl
set_option maxHeartbeats 8000000 in
set_option maxRecDepth 100000 in
theorem spec_l9Right.calls (k : Nat) (g : Nat) (s0_0 : List Int) (s0_1 : Int) (s0_2 : Int) (r1 : List ByteArray) (r2 : ByteArray) (r3 : List (List Int)) (r4 : List Int) (r5 : Int) (r6 : Int) (w0 w : World) (hI : IsS100 w0 w g s0_0 s0_1 s0_2) (hB : Below w0.heap.size w0 w) (h : spec_l9Right.f k s0_0 s0_1 s0_2 = some (r1,r2,r3,r4,r5,r6)) :
  Calls Try.prog 75 #[.pointer (some ⟨g,0,none⟩)] w fun e w' => ∃ v0_ v2_ v3_ : Value,e = .returned (.agg #[v0_,.string r2,v2_,v3_]) ∧ Kd.R Kd.string 9 w' w.heap.size (fun _ => True) v0_ r1 ∧ Kd.S (Kd.slice 3 (Kd.int .i64)) 34 w' w.heap.size (fun k_ => some k_ ≠ (v3_ : Value).ownBlock) v2_ r3 ∧ Kd.R (Kd.int .i64) 3 w' w.heap.size (fun _ => True) v3_ r4 ∧ IsS100 w0 w' g s0_0 r5 r6 ∧ Below w0.heap.size w0 w' ∧ KeepBut w w' g none := by
 have hu36 := Try.underlying36
 have HI0 := Aside0.mk hI
 have HK := Aside0.mk (KeepBut.refl w g none)
 have HL := Aside0.mk hB.size
 clear hI
 have HW0 := Aside0.mk hB.size
 have HB := Aside0.mk hB
 clear hB
 have H := h
 clear h
 unfold spec_l9Right.f at H
 obtain ⟨⟨t146,t147,t148⟩,A20,H⟩ := Option.bind_eq_some_iff.mp H
 try dsimp only at H
 have A2 := Aside0.mk A20
 clear A20
 obtain ⟨y149,hy149⟩ : ∃ y_ : List ByteArray,y_ = (([] : List ByteArray)) := ⟨_,rfl⟩
 replace H : ((some (([(⟨#[97]⟩ : ByteArray),(⟨#[98]⟩ : ByteArray),(⟨#[99,50]⟩ : ByteArray),(⟨#[100]⟩ : ByteArray)] : List ByteArray) : List ByteArray)).bind fun y152 => (if 0 ≤ (wrap64 (1 + t146)) then (if (wrap64 (1 + t146)) ≤ (y152.length : Int) then ((some (y152.take ((wrap64 (1 + t146)) : Int).toNat : List ByteArray)).bind fun y155 => (if y149.length + y155.length < 8796093022208 then ((some (y149 ++ y155 : List ByteArray)).bind fun y159 => ((spec_l1Below.f s0_0 t147 t148 9).bind fun bt163 => ((spec_l1Once.f s0_0 bt163.2.1 bt163.2.2 10).bind fun bt166 => (if bt166.1 = true then ((spec_l1Below.f s0_0 bt166.2.1 bt166.2.2 40).bind fun bt169 => (spec_l9Right.j0 k (wrap64 (1 + t146)) (wrap64 (1 + bt169.1)) s0_0 bt169.2.1 bt169.2.2 y159 (⟨#[121]⟩ : ByteArray))) else (spec_l9Right.j0 k (wrap64 (1 + t146)) (wrap64 (1 + bt163.1)) s0_0 bt166.2.1 bt166.2.2 y159 (⟨#[121]⟩ : ByteArray)))))) else (none))) else (none)) else (none))) = some (r1,r2,r3,r4,r5,r6) := by first | (rw [hy149];with_reducible exact H) | (have H2_ := (Option.bind_some _ _).symm.trans H;rw [hy149];with_reducible exact H2_) | (have H2_ := (Option.bind_some _ _).symm.trans H;with_reducible exact H2_) | with_reducible exact H | (rw [hy149];exact H) | exact H
 have Ny149 := Aside0.mk hy149
 clear hy149
 obtain ⟨y152,hy152⟩ : ∃ y_ : List ByteArray,y_ = (([(⟨#[97]⟩ : ByteArray),(⟨#[98]⟩ : ByteArray),(⟨#[99,50]⟩ : ByteArray),(⟨#[100]⟩ : ByteArray)] : List ByteArray)) := ⟨_,rfl⟩
 replace H : (if 0 ≤ (wrap64 (1 + t146)) then (if (wrap64 (1 + t146)) ≤ (y152.length : Int) then ((some (y152.take ((wrap64 (1 + t146)) : Int).toNat : List ByteArray)).bind fun y155 => (if y149.length + y155.length < 8796093022208 then ((some (y149 ++ y155 : List ByteArray)).bind fun y159 => ((spec_l1Below.f s0_0 t147 t148 9).bind fun bt163 => ((spec_l1Once.f s0_0 bt163.2.1 bt163.2.2 10).bind fun bt166 => (if bt166.1 = true then ((spec_l1Below.f s0_0 bt166.2.1 bt166.2.2 40).bind fun bt169 => (spec_l9Right.j0 k (wrap64 (1 + t146)) (wrap64 (1 + bt169.1)) s0_0 bt169.2.1 bt169.2.2 y159 (⟨#[121]⟩ : ByteArray))) else (spec_l9Right.j0 k (wrap64 (1 + t146)) (wrap64 (1 + bt163.1)) s0_0 bt166.2.1 bt166.2.2 y159 (⟨#[121]⟩ : ByteArray)))))) else (none))) else (none)) else (none)) = some (r1,r2,r3,r4,r5,r6) := by first | (rw [hy152];with_reducible exact H) | (have H2_ := (Option.bind_some _ _).symm.trans H;rw [hy152];with_reducible exact H2_) | (have H2_ := (Option.bind_some _ _).symm.trans H;with_reducible exact H2_) | with_reducible exact H | (rw [hy152];exact H) | exact H
 have Ny152 := Aside0.mk hy152
 clear hy152
 obtain ⟨ji3,hji3⟩ : ∃ j_ : Int,(wrap64 (1 + t146)) = j_ := ⟨_,rfl⟩
 replace H : (if 0 ≤ (ji3) then (if (ji3) ≤ (y152.length : Int) then ((some (y152.take ((ji3) : Int).toNat : List ByteArray)).bind fun y155 => (if y149.length + y155.length < 8796093022208 then ((some (y149 ++ y155 : List ByteArray)).bind fun y159 => ((spec_l1Below.f s0_0 t147 t148 9).bind fun bt163 => ((spec_l1Once.f s0_0 bt163.2.1 bt163.2.2 10).bind fun bt166 => (if bt166.1 = true then ((spec_l1Below.f s0_0 bt166.2.1 bt166.2.2 40).bind fun bt169 => (spec_l9Right.j0 k ji3 (wrap64 (1 + bt169.1)) s0_0 bt169.2.1 bt169.2.2 y159 (⟨#[121]⟩ : ByteArray))) else (spec_l9Right.j0 k ji3 (wrap64 (1 + bt163.1)) s0_0 bt166.2.1 bt166.2.2 y159 (⟨#[121]⟩ : ByteArray)))))) else (none))) else (none)) else (none)) = some (r1,r2,r3,r4,r5,r6) := by first | (rw [hji3] at H;exact H) | (simp only [hji3] at H ⊢;exact H)
 (try rw [hji3] at A2)
 have hji3w : (IntKind.i64.wrap (1 + t146)) = ji3 := (i64_w _).trans hji3
 by_cases c4 : 0 ≤ (ji3)
 ·rw [if_pos c4] at H
  have c4b0 := eq_true c4
  have c4b1 : decide (0 ≤ (ji3)) = true := decide_eq_true c4
  clear c4
  by_cases c5 : (ji3) ≤ (y152.length : Int)
  ·rw [if_pos c5] at H
   have c5b0 := eq_true c5
   have c5b1 : decide ((ji3) ≤ (y152.length : Int)) = true := decide_eq_true c5
   clear c5
   obtain ⟨y155,hy155⟩ : ∃ y_ : List ByteArray,y_ = (y152.take ((ji3) : Int).toNat) := ⟨_,rfl⟩
   replace H : (if y149.length + y155.length < 8796093022208 then ((some (y149 ++ y155 : List ByteArray)).bind fun y159 => ((spec_l1Below.f s0_0 t147 t148 9).bind fun bt163 => ((spec_l1Once.f s0_0 bt163.2.1 bt163.2.2 10).bind fun bt166 => (if bt166.1 = true then ((spec_l1Below.f s0_0 bt166.2.1 bt166.2.2 40).bind fun bt169 => (spec_l9Right.j0 k ji3 (wrap64 (1 + bt169.1)) s0_0 bt169.2.1 bt169.2.2 y159 (⟨#[121]⟩ : ByteArray))) else (spec_l9Right.j0 k ji3 (wrap64 (1 + bt163.1)) s0_0 bt166.2.1 bt166.2.2 y159 (⟨#[121]⟩ : ByteArray)))))) else (none)) = some (r1,r2,r3,r4,r5,r6) := by first | (rw [hy155];with_reducible exact H) | (have H2_ := (Option.bind_some _ _).symm.trans H;rw [hy155];with_reducible exact H2_) | (have H2_ := (Option.bind_some _ _).symm.trans H;with_reducible exact H2_) | with_reducible exact H | (rw [hy155];exact H) | exact H
   have Ny155 := Aside0.mk hy155
   clear hy155
   by_cases c6 : y149.length + y155.length < 8796093022208
   ·rw [if_pos c6] at H
    have LMc6 := Aside0.mk c6
    clear c6
    obtain ⟨y159,hy159⟩ : ∃ y_ : List ByteArray,y_ = (y149 ++ y155) := ⟨_,rfl⟩
    replace H : ((spec_l1Below.f s0_0 t147 t148 9).bind fun bt163 => ((spec_l1Once.f s0_0 bt163.2.1 bt163.2.2 10).bind fun bt166 => (if bt166.1 = true then ((spec_l1Below.f s0_0 bt166.2.1 bt166.2.2 40).bind fun bt169 => (spec_l9Right.j0 k ji3 (wrap64 (1 + bt169.1)) s0_0 bt169.2.1 bt169.2.2 y159 (⟨#[121]⟩ : ByteArray))) else (spec_l9Right.j0 k ji3 (wrap64 (1 + bt163.1)) s0_0 bt166.2.1 bt166.2.2 y159 (⟨#[121]⟩ : ByteArray))))) = some (r1,r2,r3,r4,r5,r6) := by first | (rw [hy159];with_reducible exact H) | (have H2_ := (Option.bind_some _ _).symm.trans H;rw [hy159];with_reducible exact H2_) | (have H2_ := (Option.bind_some _ _).symm.trans H;with_reducible exact H2_) | with_reducible exact H | (rw [hy159];exact H) | exact H
    have Ny159 := Aside0.mk hy159
    clear hy159
    obtain ⟨⟨t163,t164,t165⟩,A70,H⟩ := Option.bind_eq_some_iff.mp H
    try dsimp only at H
    have A7 := Aside0.mk A70
    clear A70
    obtain ⟨⟨t166,t167,t168⟩,A80,H⟩ := Option.bind_eq_some_iff.mp H
    try dsimp only at H
    have A8 := Aside0.mk A80
    clear A80
    have HC9 := Aside0.mk H
    clear H
    go_enter Try.func75,Try.ntmps75
    go_upto_if 25 with (first | ((with_reducible refine gate_dst (N := 2) rfl ?_);refine bE 2 #[.slice none 0 0,.string (⟨#[]⟩ : ByteArray),.slice none 0 0,.slice none 0 0] 36 (h := ?_);intro gb145 hg w10 hbox hb;have n_ := jA (IsS100.below Z118 hb) (jA (KeepBut.trans Z152 (KeepBut.of_below hb g none) (.inl rfl)) (jA (below_step Z119 hb) (jA (hbox) (jA ((Z115 : w.heap.size ≤ gb145)) (jA ((Nat.le_trans HW0.out (Z115 : w.heap.size ≤ gb145) : w0.heap.size ≤ gb145)) (jA ((by rw [hg];exact Nat.ne_of_lt (IsS100.lt (show IsS100 w0 _ g s0_0 s0_1 s0_2 from Z118)) : g ≠ gb145)) (Aside0.mk ((by rw [hg];exact Nat.ne_of_gt (IsS100.lt (show IsS100 w0 _ g s0_0 s0_1 s0_2 from Z118)) : gb145 ≠ g)))))))));clear HI0 HK HB;obtain ⟨HI0,HK,HB,BK145,GW145,GE145,NB0_145,NB145_0⟩ := n_;clear hb hbox hg) | ((with_reducible refine gate_callee (f := 76) rfl ?_);refine goesL_ (some 13) rfl rfl Try.func76 Z102 rfl #[.pointer (some ⟨g,0,none⟩),.int .i64 3] rfl Z60 ?_;(with_reducible refine (spec_l1Below.calls g s0_0 s0_1 s0_2 3 t146 t147 t148 w0 _ ?side1 ?side2 A2.out).mono ?_);(case side1 => exact Z34);(case side2 => exact Z36);rintro e w11 ⟨rfl,hi,hb,hk⟩;refine ⟨_,rfl,?_⟩;have n_ := jA (KeepBut.blk hk (g' := gb145) (o := .cells #[.slice none 0 0,.string (⟨#[]⟩ : ByteArray),.slice none 0 0,.slice none 0 0] 36 (0,0)) Z143 NB145_0.out Z150) (jA (KeepBut.trans Z117 hk (.inl rfl)) (jA (hb) (Aside0.mk (hi))));clear BK145 HK HB HI0;obtain ⟨BK145,HK,HB,HI0⟩ := n_;(try clear hb);(try clear hb2);(try clear hk);(try clear hi)) | ((with_reducible refine gate_dst (N := 15) rfl ?_);refine Kd.R_lit Kd.string _ 9 ?hg (N := 15) ?hd (xs := ([] : List ByteArray)) (inner := []) (ok := fun _ => True) (okp := fun _ => True) ?hr ?hp (fun _ hk => hk) trivial (Below.refl _ _) (Nat.le_refl _) Z150 ?_;(case hd => rfl);(case hg => rfl);(case hr => exact Z87);(case hp => exact Z100);intro v150 w12 ho13 hb hg_ hnew_;clear hg_ hnew_;(first | rw [← Ny149.out] at ho13 | (simp only [Int.reduceToNat] at ho13;rw [← Ny149.out] at ho13));have n_ := jA (Kd.R_lower ho13 (keep_size (w := w) (g := g) (row := none) Z117)) (jA (IsS100.below Z34 hb) (jA (blk_below (g := gb145) (o := .cells #[.slice none 0 0,.string (⟨#[]⟩ : ByteArray),.slice none 0 0,.slice none 0 0] 36 (0,0)) Z143 hb) (jA (KeepBut.trans Z117 (KeepBut.of_below hb g none) (.inl rfl)) (Aside0.mk (below_step Z36 hb)))));clear HI0 BK145 HK HB;obtain ⟨HO151,HI0,BK145,HK,HB⟩ := n_;clear hb ho13) | ((with_reducible refine gate_dst (N := 16) rfl ?_);refine Kd.R_lit Kd.string _ 9 ?hg (N := 16) ?hd (xs := ([(⟨#[97]⟩ : ByteArray),(⟨#[98]⟩ : ByteArray),(⟨#[99,50]⟩ : ByteArray),(⟨#[100]⟩ : ByteArray)] : List ByteArray)) (inner := [.string (⟨#[97]⟩ : ByteArray),.string (⟨#[98]⟩ : ByteArray),.string (⟨#[99,50]⟩ : ByteArray),.string (⟨#[100]⟩ : ByteArray)]) (ok := fun _ => True) (okp := fun _ => True) ?hr ?hp (fun _ hk => hk) trivial (Below.refl _ _) (Nat.le_refl _) Z150 ?_;(case hd => rfl);(case hg => rfl);(case hr => exact Z87);(case hp => exact (Reps.one (show Kd.M Kd.string _ _ _ (⟨#[97]⟩ : ByteArray) [.string (⟨#[97]⟩ : ByteArray)] from rfl) (Reps.one (show Kd.M Kd.string _ _ _ (⟨#[98]⟩ : ByteArray) [.string (⟨#[98]⟩ : ByteArray)] from rfl) (Reps.one (show Kd.M Kd.string _ _ _ (⟨#[99,50]⟩ : ByteArray) [.string (⟨#[99,50]⟩ : ByteArray)] from rfl) (Reps.one (show Kd.M Kd.string _ _ _ (⟨#[100]⟩ : ByteArray) [.string (⟨#[100]⟩ : ByteArray)] from rfl) (Reps.none _ _))))));intro v153 w14 ho15 hb hg_ hnew_;clear hg_ hnew_;(first | rw [← Ny152.out] at ho15 | (simp only [Int.reduceToNat] at ho15;rw [← Ny152.out] at ho15));have n_ := jA (Kd.R_elder' Z75 (Kd.R_base ho15) hb) (jA (Kd.R_lower (Kd.R_new' ho15 (Kd.R_lt Z75)) (keep_size (w := w) (g := g) (row := none) Z117)) (jA (IsS100.below Z34 hb) (jA (blk_below (g := gb145) (o := .cells #[.slice none 0 0,.string (⟨#[]⟩ : ByteArray),.slice none 0 0,.slice none 0 0] 36 (0,0)) Z143 hb) (jA (KeepBut.trans Z117 (KeepBut.of_below hb g none) (.inl rfl)) (Aside0.mk (below_step Z36 hb))))));clear HO151 HI0 BK145 HK HB;obtain ⟨HO151,HO154,HI0,BK145,HK,HB⟩ := n_;clear hb ho15;obtain ⟨Ao17,co17,eo17⟩ := Kd.R_slice HO154.out;subst eo17;have q16 : ((ji3) : Int) ≤ ((y152.length : Int) : Int) := of_decide_eq_true Z85;obtain ⟨i016,hi016,_,hsz16,_⟩ := info_parts info9;have hroom16 : y152.length ≤ co17 := (Kd.R_reads' HO154.out).2.1;have hC16 : Kd.C Kd.string _ Ao17 y152.length y152 := (Kd.R_reads' HO154.out).2.2;have hcut16 := cut_to (P := Try.prog) 33 9 .i64 Try.underlying33 hi016 Ao17 y152.length co17 (ji3) (of_decide_eq_true Z85) q16 hroom16;have hr16 := Kd.C_take (m := ((ji3) : Int).toNat) hC16 Z149;have hy16 : y155.length = ((ji3) : Int).toNat := (by rw [Ny155.out,List.length_take];omega);rw [← Ny155.out] at hr16;rw [← hy16] at hcut16;have HR158 := Aside0.mk hr16;have HC158 := Aside0.mk (show y155.length ≤ co17 from Z149);clear hr16 hC16 hroom16 hi016 hsz16;have KY16 := Aside0.mk hy16;clear hy16;have KL16 := Aside0.mk (show ((ji3) : Int).toNat ≤ y152.length from Z149);replace q16 := eq_true q16) | ((with_reducible refine gate_builtin (b := .append) (xs := #[.tmp 15,.tmp 18]) rfl ?_);at_builtin;refine Kd.R_append_rows Kd.string w.heap.size rfl (.tmp 15) (.tmp 18) 33 9 (.string ⟨#[]⟩) 16 rfl Try.underlying33 info9 rfl Z154 Z149 v150 y149 y155 _ _ _ (fun k_ => some k_ ≠ (.slice Ao17 y152.length co17 : Value).ownBlock) (fun _ => False) rfl rfl ?aO ?aR (fun _ _ h => h) (fun _ h => h.elim) ?aF (Below.refl _ _) ?aS ?aL ?_;(case aR => repeat (first | exact Z38 | (with_reducible refine Kd.C_alloc ?_ _) | (with_reducible refine Kd.C_drewN ?_ _) | (with_reducible refine Kd.C_drew ?_)));(case aF => exact (fun k_ hk => Kd.fresh' (Kd.R_lt Z69) k_ hk));(case aO => exact (by (with_reducible repeat (first | apply Kd.R_alloc | apply Kd.R_drewN | apply Kd.R_drew));exact Kd.R_mono HO151.out (fun _ hk => hk.2)));(case aS => exact (keep_size (w := w) (g := g) (row := none) Z117));(case aL => have := LMc6.out;omega);intro v160 w18 ho hb hg hat;rw [← Ny159.out] at ho;have n_ := jA (IsS100.grown Z34 hg (IsS100.own_ne HI0.out HO151.out Z154)) (jA (blk_grown (g := gb145) (o := .cells #[.slice none 0 0,.string (⟨#[]⟩ : ByteArray),.slice none 0 0,.slice none 0 0] 36 (0,0)) Z143 hg (Kd.R_ne HO151.out BK145.out Z154)) (jA (Kd.R_after (ok := (fun _ => True)) Z69 hg hat) (jA (below_weaken Z36 HL.out hb) (jA (KeepBut.trans Z117 (KeepBut.of_grown hg g) (Kd.R_base2 HO151.out)) (jA ((show Kd.C Kd.string w18 Ao17 y155.length y155 from by rw [Ny155.out];exact Kd.C_take (m := ((ji3) : Int).toNat) ((Kd.R_reads' (Kd.R_after (ok := (fun _ => True)) Z69 hg hat)).2.2) KL16.out)) (Aside0.mk (ho)))))));clear HI0 BK145 HO154 HB HK HR158 HO151;obtain ⟨HI0,BK145,HO154,HB,HK,HR158,HO161⟩ := n_;clear ho hb hg hat;obtain ⟨Ao19,co19,eo19⟩ := Kd.R_slice HO161.out;subst eo19) | ((with_reducible refine gate_dst (N := 4) rfl ?_);refine bE 4 #[.slice none 0 0,.string (⟨#[]⟩ : ByteArray),.slice none 0 0,.slice none 0 0] 36 (h := ?_);intro gb162 hg w20 hbox hb;have n_ := jA (Kd.R_below Z69 hb) (jA (Kd.R_below Z72 hb) (jA (IsS100.below Z34 hb) (jA (blk_below (g := gb145) (o := .cells #[.slice none 0 0,.string (⟨#[]⟩ : ByteArray),.slice none 0 0,.slice none 0 0] 36 (0,0)) Z143 hb) (jA (Kd.C_below Z38 hb) (jA (KeepBut.trans Z117 (KeepBut.of_below hb g none) (.inl rfl)) (jA (below_step Z36 hb) (jA (hbox) (jA ((Z29 : w.heap.size ≤ gb162)) (jA ((Nat.le_trans HW0.out (Z29 : w.heap.size ≤ gb162) : w0.heap.size ≤ gb162)) (jA ((by rw [hg];exact Nat.ne_of_lt (blk_lt (g := gb145) (o := .cells #[.slice none 0 0,.string (⟨#[]⟩ : ByteArray),.slice none 0 0,.slice none 0 0] 36 (0,0)) Z143) : gb145 ≠ gb162)) (jA ((by rw [hg];exact Nat.ne_of_gt (blk_lt (g := gb145) (o := .cells #[.slice none 0 0,.string (⟨#[]⟩ : ByteArray),.slice none 0 0,.slice none 0 0] 36 (0,0)) Z143) : gb162 ≠ gb145)) (jA ((by rw [hg];exact Nat.ne_of_lt (IsS100.lt (show IsS100 w0 _ g s0_0 t147 t148 from Z34)) : g ≠ gb162)) (Aside0.mk ((by rw [hg];exact Nat.ne_of_gt (IsS100.lt (show IsS100 w0 _ g s0_0 t147 t148 from Z34)) : gb162 ≠ g)))))))))))))));clear HO154 HO161 HI0 BK145 HR158 HK HB;obtain ⟨HO154,HO161,HI0,BK145,HR158,HK,HB,BK162,GW162,GE162,NB145_162,NB162_145,NB0_162,NB162_0⟩ := n_;clear hb hbox hg;have hnb21 := NB162_145.out;have hnc21 := NB145_162.out;have hnb22 := NB162_0.out;have hnc22 := NB0_162.out;obtain ⟨hcz23_0,hcz23_1,hcz23_2,hcz23_3,hfz23_0,hfz23_1,hfz23_2,hfz23_3⟩ := cells4 BK162.out) | ((with_reducible refine gate_callee (f := 76) rfl ?_);refine goesL_ (some 22) rfl rfl Try.func76 Z102 rfl #[.pointer (some ⟨g,0,none⟩),.int .i64 9] rfl Z60 ?_;(with_reducible refine (spec_l1Below.calls g s0_0 t147 t148 9 t163 t164 t165 w0 _ ?side1 ?side2 A7.out).mono ?_);(case side1 => exact Z108);(case side2 => exact Z110);rintro e w24 ⟨rfl,hi,hb,hk⟩;refine ⟨_,rfl,?_⟩;have n_ := jA (KeepBut.blk hk (g' := gb145) (o := .cells #[.slice none 0 0,.string (⟨#[]⟩ : ByteArray),.slice none 0 0,.slice none 0 0] 36 (0,0)) (by refine bP ?_;refine blk_far ?_ NB145_162.out _;refine bP ?_;refine blk_far ?_ NB145_162.out _;refine bP ?_;refine blk_far ?_ NB145_162.out _;refine bP ?_;refine blk_far ?_ NB145_162.out _;refine bP ?_;exact BK145.out) NB145_0.out Z150) (jA (Kd.R_mono (Kd.R_keep (IsS100.apart (show IsS100 w0 _ g s0_0 t147 t148 from Z108) (by (with_reducible repeat (first | apply Kd.R_alloc | apply Kd.R_drewN | apply Kd.R_drew));exact (Kd.R_mono (Kd.R_far (p := ⟨gb162,3,none⟩) (Kd.R_far (p := ⟨gb162,2,none⟩) (Kd.R_far (p := ⟨gb162,1,none⟩) (Kd.R_far (p := ⟨gb162,0,none⟩) (Kd.R_types HO154.out BK162.out Z154) (fun _ hk => hk.2) (.slice Ao19 y159.length co19)) (fun _ hk => hk.2) (.string (⟨#[121]⟩ : ByteArray))) (fun _ hk => hk.2) (.slice none 0 0)) (fun _ hk => hk.2) (.slice none 0 0)) (fun _ h_ => h_.1))) Z154) hk (fun _ h => h.2)) (fun _ h => h.1)) (jA (Kd.R_mono (Kd.R_keep (IsS100.apart (show IsS100 w0 _ g s0_0 t147 t148 from Z108) (by (with_reducible repeat (first | apply Kd.R_alloc | apply Kd.R_drewN | apply Kd.R_drew));exact (Kd.R_mono (Kd.R_far (p := ⟨gb162,3,none⟩) (Kd.R_far (p := ⟨gb162,2,none⟩) (Kd.R_far (p := ⟨gb162,1,none⟩) (Kd.R_far (p := ⟨gb162,0,none⟩) (Kd.R_types HO161.out BK162.out Z154) (fun _ hk => hk.2) (.slice Ao19 y159.length co19)) (fun _ hk => hk.2) (.string (⟨#[121]⟩ : ByteArray))) (fun _ hk => hk.2) (.slice none 0 0)) (fun _ hk => hk.2) (.slice none 0 0)) (fun _ h_ => h_.1))) Z154) hk (fun _ h => h.2)) (fun _ h => h.1)) (jA (KeepBut.blk hk (g' := gb162) (o := .cells #[.slice Ao19 y159.length co19,.string (⟨#[121]⟩ : ByteArray),.slice none 0 0,.slice none 0 0] 36 (0,0)) (by refine bP ?_;refine blk_put (cs := #[.slice Ao19 y159.length co19,.string (⟨#[121]⟩ : ByteArray),.slice none 0 0,.slice none 0 0]) ?_ 3 _ rfl;refine bP ?_;refine blk_put (cs := #[.slice Ao19 y159.length co19,.string (⟨#[121]⟩ : ByteArray),.slice none 0 0,.slice none 0 0]) ?_ 2 _ rfl;refine bP ?_;refine blk_put (cs := #[.slice Ao19 y159.length co19,.string (⟨#[]⟩ : ByteArray),.slice none 0 0,.slice none 0 0]) ?_ 1 _ rfl;refine bP ?_;refine blk_put (cs := #[.slice none 0 0,.string (⟨#[]⟩ : ByteArray),.slice none 0 0,.slice none 0 0]) ?_ 0 _ rfl;refine bP ?_;exact BK162.out) NB162_0.out Z150) (jA (KeepBut.trans Z113 hk (.inl rfl)) (jA (hb) (Aside0.mk (hi)))))));clear BK145 HO154 HO161 BK162 HK HB HI0;obtain ⟨BK145,HO154,HO161,BK162,HK,HB,HI0⟩ := n_;(try clear hb);(try clear hb2);(try clear hk);(try clear hi)) | ((with_reducible refine gate_callee (f := 90) rfl ?_);refine goesL_ (some 25) rfl rfl Try.func90 Z102 rfl #[.pointer (some ⟨g,0,none⟩),.int .i64 10] rfl Z60 ?_;(with_reducible refine (spec_l1Once.calls g s0_0 t164 t165 10 t166 t167 t168 w0 _ ?side1 ?side2 A8.out).mono ?_);(case side1 => exact Z108);(case side2 => exact Z110);rintro e w25 ⟨rfl,hi,hb,hk⟩;refine ⟨_,rfl,?_⟩;have n_ := jA (KeepBut.blk hk (g' := gb145) (o := .cells #[.slice none 0 0,.string (⟨#[]⟩ : ByteArray),.slice none 0 0,.slice none 0 0] 36 (0,0)) Z143 NB145_0.out Z150) (jA (Kd.R_mono (Kd.R_keep (IsS100.apart (show IsS100 w0 _ g s0_0 t164 t165 from Z108) Z69 Z154) hk (fun _ h => h.2)) (fun _ h => h.1)) (jA (Kd.R_mono (Kd.R_keep (IsS100.apart (show IsS100 w0 _ g s0_0 t164 t165 from Z108) Z72 Z154) hk (fun _ h => h.2)) (fun _ h => h.1)) (jA (KeepBut.blk hk (g' := gb162) (o := .cells #[.slice Ao19 y159.length co19,.string (⟨#[121]⟩ : ByteArray),.slice none 0 0,.slice none 0 0] 36 (0,0)) Z145 NB162_0.out Z150) (jA (KeepBut.trans Z113 hk (.inl rfl)) (jA (hb) (Aside0.mk (hi)))))));clear BK145 HO154 HO161 BK162 HK HB HI0;obtain ⟨BK145,HO154,HO161,BK162,HK,HB,HI0⟩ := n_;(try clear hb);(try clear hb2);(try clear hk);(try clear hi)))
    (try simp only [Act.put,List.setIfInBounds_toArray,List.set_cons_zero,List.set_cons_succ])
    go_cut [5] (fun v5 wc => ∃ (kq : Nat) (x5_8 : Int) (x1001_8 : Int) (x1002_8 : Int),v5 = .int .i64 x5_8 ∧ Aside0 (spec_l9Right.j0 kq ji3 x5_8 s0_0 x1001_8 x1002_8 y159 (⟨#[121]⟩ : ByteArray) = some (r1,r2,r3,r4,r5,r6)) ∧ Aside0 (kq ≤ k) ∧ Aside0 (Kd.R Kd.string 9 wc w.heap.size (fun _ => True) (.slice Ao19 y159.length co19) y159) ∧ Aside0 (wc.heap[gb145]? = some (.cells #[(.slice none 0 0),.string (⟨#[]⟩ : ByteArray),(.slice none 0 0),(.slice none 0 0)] 36 (0,0))) ∧ Aside0 (wc.heap[gb162]? = some (.cells #[(.slice Ao19 y159.length co19),.string (⟨#[121]⟩ : ByteArray),(.slice none 0 0),(.slice none 0 0)] 36 (0,0))) ∧ Aside0 (IsS100 w0 wc g s0_0 x1001_8 x1002_8) ∧ Aside0 (KeepBut w wc g none) ∧ Aside0 (Below w0.heap.size w0 wc))
    case first =>
     have H := HC9.out
     clear HC9
     by_cases c26 : t166 = true
     ·subst c26
      rw [if_pos rfl] at H
      obtain ⟨⟨t169,t170,t171⟩,A270,H⟩ := Option.bind_eq_some_iff.mp H
      try dsimp only at H
      have A27 := Aside0.mk A270
      clear A270
      have H' := Aside0.mk H
      clear H
      go_wp2_with (first | ((with_reducible refine gate_callee (f := 76) rfl ?_);refine goesL_ (some 27) rfl rfl Try.func76 Z102 rfl #[.pointer (some ⟨g,0,none⟩),.int .i64 40] rfl Z60 ?_;(with_reducible refine (spec_l1Below.calls g s0_0 t167 t168 40 t169 t170 t171 w0 _ ?side1 ?side2 A27.out).mono ?_);(case side1 => exact Z108);(case side2 => exact Z110);rintro e w28 ⟨rfl,hi,hb,hk⟩;refine ⟨_,rfl,?_⟩;have n_ := jA (KeepBut.blk hk (g' := gb145) (o := .cells #[.slice none 0 0,.string (⟨#[]⟩ : ByteArray),.slice none 0 0,.slice none 0 0] 36 (0,0)) Z143 NB145_0.out Z150) (jA (Kd.R_mono (Kd.R_keep (IsS100.apart (show IsS100 w0 _ g s0_0 t167 t168 from Z108) Z69 Z154) hk (fun _ h => h.2)) (fun _ h => h.1)) (jA (Kd.R_mono (Kd.R_keep (IsS100.apart (show IsS100 w0 _ g s0_0 t167 t168 from Z108) Z72 Z154) hk (fun _ h => h.2)) (fun _ h => h.1)) (jA (KeepBut.blk hk (g' := gb162) (o := .cells #[.slice Ao19 y159.length co19,.string (⟨#[121]⟩ : ByteArray),.slice none 0 0,.slice none 0 0] 36 (0,0)) Z145 NB162_0.out Z150) (jA (KeepBut.trans Z113 hk (.inl rfl)) (jA (hb) (Aside0.mk (hi)))))));clear BK145 HO154 HO161 BK162 HK HB HI0;obtain ⟨BK145,HO154,HO161,BK162,HK,HB,HI0⟩ := n_;(try clear hb);(try clear hb2);(try clear hk);(try clear hi)))
      go_meet
      case rel => exact ⟨_,(wrap64 (1 + t169)),(t170),(t171),Z86,H',⟨Z92⟩,⟨Z59⟩,⟨Z143⟩,⟨Z145⟩,⟨Z108⟩,⟨Z113⟩,⟨Z110⟩⟩
     ·replace c26 := Bool.eq_false_iff.mpr c26
      subst c26
      rw [if_neg Bool.false_ne_true] at H
      have H' := Aside0.mk H
      clear H
      go_wp2
      go_meet
      case rel => exact ⟨_,(wrap64 (1 + t163)),(t167),(t168),Z86,H',⟨Z92⟩,⟨Z59⟩,⟨Z143⟩,⟨Z145⟩,⟨Z108⟩,⟨Z113⟩,⟨Z110⟩⟩
    case rest =>
     clear HC9
     try clear q1
     try clear c2
     try clear p2
     try clear c4
     try clear c4b0
     try clear c4b1
     try clear c5
     try clear c5b0
     try clear c5b1
     try clear c6
     try clear p6
     try clear c7
     try clear c9
     try clear q16
     try clear c21
     try clear c22
     try clear c26
     try clear hcz23_0
     try clear hcz23_1
     try clear hcz23_2
     try clear hcz23_3
     try clear hfz23_0
     try clear hfz23_1
     try clear hfz23_2
     try clear hfz23_3
     try clear q16
     obtain ⟨kq,x5_8,x1001_8,x1002_8,rfl,HA,HJ8,HO_163000,BK145,BK162,HI0,HK,HB⟩ := hcut
     cases kq with
     | zero => exact absurd HA.out (by simp [spec_l9Right.j0])
     | succ kj8 =>
      have H := HA.out
      clear HA
      simp only [spec_l9Right.j0] at H
      obtain ⟨⟨t172,t173,t174⟩,A290,H⟩ := Option.bind_eq_some_iff.mp H
      try dsimp only at H
      have A29 := Aside0.mk A290
      clear A290
      have H' := Aside0.mk H
      clear H
      go_wp2_with (first | ((with_reducible refine gate_callee (f := 90) rfl ?_);refine goesL_ (some 30) rfl rfl Try.func90 Z102 rfl #[.pointer (some ⟨g,0,none⟩),.int .i64 12] rfl Z60 ?_;(with_reducible refine (spec_l1Once.calls g s0_0 x1001_8 x1002_8 12 t172 t173 t174 w0 _ ?side1 ?side2 A29.out).mono ?_);(case side1 => exact Z108);(case side2 => exact Z110);rintro e w30 ⟨rfl,hi,hb,hk⟩;refine ⟨_,rfl,?_⟩;have n_ := jA (Kd.R_mono (Kd.R_keep (IsS100.apart (show IsS100 w0 _ g s0_0 x1001_8 x1002_8 from Z108) Z127 Z154) hk (fun _ h => h.2)) (fun _ h => h.1)) (jA (KeepBut.blk hk (g' := gb145) (o := .cells #[.slice none 0 0,.string (⟨#[]⟩ : ByteArray),.slice none 0 0,.slice none 0 0] 36 (0,0)) Z143 NB145_0.out Z150) (jA (KeepBut.blk hk (g' := gb162) (o := .cells #[.slice Ao19 y159.length co19,.string (⟨#[121]⟩ : ByteArray),.slice none 0 0,.slice none 0 0] 36 (0,0)) Z145 NB162_0.out Z150) (jA (KeepBut.trans Z113 hk (.inl rfl)) (jA (hb) (Aside0.mk (hi))))));clear HO_163000 BK145 BK162 HK HB HI0;obtain ⟨HO_163000,BK145,BK162,HK,HB,HI0⟩ := n_;(try clear hb);(try clear hb2);(try clear hk);(try clear hi)))
      go_loopg [7] kj8 (fun kq v7 w' => ∃ (x7_2 : Int) (x1001_2 : Int) (x1002_2 : Int) (x163002_2 : List (List Int)) (x163003_2 : List Int) (u163002 : Value) (u163003 : Value),v7 = .int .i64 x7_2 ∧ Aside0 (spec_l9Right.l0 kq ji3 x5_8 t172 x7_2 s0_0 x1001_2 x1002_2 y159 (⟨#[121]⟩ : ByteArray) x163002_2 x163003_2 = some (r1,r2,r3,r4,r5,r6)) ∧ Aside0 (kq ≤ kj8) ∧ Aside0 (Kd.R Kd.string 9 w' w.heap.size (fun _ => True) (.slice Ao19 y159.length co19) y159) ∧ Aside0 (Kd.S (Kd.slice 3 (Kd.int .i64)) 34 w' w.heap.size (fun k_ => some k_ ≠ (u163003 : Value).ownBlock) u163002 x163002_2) ∧ Aside0 (Kd.R (Kd.int .i64) 3 w' w.heap.size (fun _ => True) u163003 x163003_2) ∧ Aside0 (w'.heap[gb145]? = some (.cells #[(.slice none 0 0),.string (⟨#[]⟩ : ByteArray),(.slice none 0 0),(.slice none 0 0)] 36 (0,0))) ∧ Aside0 (w'.heap[gb162]? = some (.cells #[(.slice Ao19 y159.length co19),.string (⟨#[121]⟩ : ByteArray),u163002,u163003] 36 (0,0))) ∧ Aside0 (IsS100 w0 w' g s0_0 x1001_2 x1002_2) ∧ Aside0 (KeepBut w w' g none) ∧ Aside0 (Below w0.heap.size w0 w'))
      case atStart => exact ⟨(0),(t173),(t174),(([] : List (List Int))),(([] : List Int)),(.slice none 0 0),(.slice none 0 0),Z86,H',⟨Nat.le_refl _⟩,⟨Z127⟩,⟨by first | exact Kd.S_nil _ _ _ _ _ | exact Kd.N_nil _ _ _ _ _ | exact Kd.V_nil _ _ _ _ _ | exact Kd.Q_nil _ _ _ _ _ | exact Kd.R_nil _ _ _ _ _⟩,⟨by first | exact Kd.R_nil _ _ _ _ _ | exact Kd.N_nil _ _ _ _ _ | exact Kd.V_nil _ _ _ _ _ | exact Kd.Q_nil _ _ _ _ _ | exact Kd.S_nil _ _ _ _ _⟩,⟨Z143⟩,⟨Z145⟩,⟨Z108⟩,⟨Z113⟩,⟨Z110⟩⟩
      case round =>
       clear H'
       try clear q1
       try clear c2
       try clear p2
       try clear c4
       try clear c4b0
       try clear c4b1
       try clear c5
       try clear c5b0
       try clear c5b1
       try clear c6
       try clear p6
       try clear c7
       try clear c9
       try clear q16
       try clear c21
       try clear c22
       try clear c26
       try clear hcz23_0
       try clear hcz23_1
       try clear hcz23_2
       try clear hcz23_3
       try clear hfz23_0
       try clear hfz23_1
       try clear hfz23_2
       try clear hfz23_3
       try clear p2
       try clear p6
       try clear q1
       try clear q16
       obtain ⟨x7_2,x1001_2,x1002_2,x163002_2,x163003_2,u163002,u163003,rfl,HA,HK2,HO_163000,HO_163002,HO_163003,BK145,BK162,HI0,HK,HB⟩ := hrel
       cases gk with
       | zero => exact absurd HA.out (by simp [spec_l9Right.l0])
       | succ k2 =>
        have H := HA.out
        clear HA
        simp only [spec_l9Right.l0] at H
        by_cases c31 : x7_2 < x5_8
        ·rw [if_pos c31] at H
         have c31b0 : decide (x7_2 < x5_8) = true := decide_eq_true c31
         clear c31
         obtain ⟨y175,hy175⟩ : ∃ y_ : List Int,y_ = (([] : List Int)) := ⟨_,rfl⟩
         replace H : (spec_l9Right.l1 k2 ji3 x5_8 t172 x7_2 y175 0 s0_0 x1001_2 x1002_2 y159 (⟨#[121]⟩ : ByteArray) x163002_2 x163003_2) = some (r1,r2,r3,r4,r5,r6) := by first | (rw [hy175];with_reducible exact H) | (have H2_ := (Option.bind_some _ _).symm.trans H;rw [hy175];with_reducible exact H2_) | (have H2_ := (Option.bind_some _ _).symm.trans H;with_reducible exact H2_) | with_reducible exact H | (rw [hy175];exact H) | exact H
         have Ny175 := Aside0.mk hy175
         clear hy175
         have H' := Aside0.mk H
         clear H
         go_wp2_with (first | ((with_reducible refine gate_dst (N := 36) rfl ?_);refine Kd.R_lit (Kd.int .i64) _ 3 ?hg (N := 36) ?hd (xs := ([] : List Int)) (inner := []) (ok := fun _ => True) (okp := fun _ => True) ?hr ?hp (fun _ hk => hk) trivial (Below.refl _ _) (Nat.le_refl _) Z150 ?_;(case hd => rfl);(case hg => rfl);(case hr => exact Z87);(case hp => exact Z100);intro v176 w32 ho33 hb hg_ hnew_;clear hg_ hnew_;(first | rw [← Ny175.out] at ho33 | (simp only [Int.reduceToNat] at ho33;rw [← Ny175.out] at ho33));have n_ := jA (Kd.R_below Z127 hb) (jA (Kd.S_elder' Z129 (Kd.R_base ho33) hb) (jA (Kd.R_elder' Z128 (Kd.R_base ho33) hb) (jA (Kd.R_lower (Kd.R_new' ho33 (Kd.R_lt Z128)) (keep_size (w := w) (g := g) (row := none) Z113)) (jA (blk_below (g := gb145) (o := .cells #[.slice none 0 0,.string (⟨#[]⟩ : ByteArray),.slice none 0 0,.slice none 0 0] 36 (0,0)) Z143 hb) (jA (blk_below (g := gb162) (o := .cells #[.slice Ao19 y159.length co19,.string (⟨#[121]⟩ : ByteArray),u163002,u163003] 36 (0,0)) Z145 hb) (jA (IsS100.below Z108 hb) (jA (KeepBut.trans Z113 (KeepBut.of_below hb g none) (.inl rfl)) (Aside0.mk (below_step Z110 hb)))))))));clear HO_163000 HO_163002 HO_163003 BK145 BK162 HI0 HK HB;obtain ⟨HO_163000,HO_163002,HO_163003,HO177,BK145,BK162,HI0,HK,HB⟩ := n_;clear hb ho33))
         go_loopg [8,9] k2 (fun kq v8 v9 w' => ∃ (x8_3 : List Int) (x9_3 : Int) (x1001_3 : Int) (x1002_3 : Int),v9 = .int .i64 x9_3 ∧ Aside0 (spec_l9Right.l1 kq ji3 x5_8 t172 x7_2 x8_3 x9_3 s0_0 x1001_3 x1002_3 y159 (⟨#[121]⟩ : ByteArray) x163002_2 x163003_2 = some (r1,r2,r3,r4,r5,r6)) ∧ Aside0 (kq ≤ k2) ∧ Aside0 (Kd.R (Kd.int .i64) 3 w' w.heap.size (fun k_ => some k_ ≠ (u163003 : Value).ownBlock) v8 x8_3) ∧ Aside0 (Kd.R Kd.string 9 w' w.heap.size (fun _ => True) (.slice Ao19 y159.length co19) y159) ∧ Aside0 (Kd.S (Kd.slice 3 (Kd.int .i64)) 34 w' w.heap.size (fun k_ => some k_ ≠ (v8 : Value).ownBlock ∧ some k_ ≠ (u163003 : Value).ownBlock) u163002 x163002_2) ∧ Aside0 (Kd.R (Kd.int .i64) 3 w' w.heap.size (fun k_ => some k_ ≠ (v8 : Value).ownBlock) u163003 x163003_2) ∧ Aside0 (w'.heap[gb145]? = some (.cells #[(.slice none 0 0),.string (⟨#[]⟩ : ByteArray),(.slice none 0 0),(.slice none 0 0)] 36 (0,0))) ∧ Aside0 (w'.heap[gb162]? = some (.cells #[(.slice Ao19 y159.length co19),.string (⟨#[121]⟩ : ByteArray),u163002,u163003] 36 (0,0))) ∧ Aside0 (IsS100 w0 w' g s0_0 x1001_3 x1002_3) ∧ Aside0 (KeepBut w w' g none) ∧ Aside0 (Below w0.heap.size w0 w'))
         case atStart => exact ⟨(y175),(0),(x1001_2),(x1002_2),Z86,H',⟨Nat.le_refl _⟩,⟨by (with_reducible repeat (first | apply Kd.R_alloc | apply Kd.R_drewN | apply Kd.R_drew));exact Kd.R_mono HO177.out (fun _ hk => hk.2)⟩,⟨Z127⟩,⟨Z125⟩,⟨Z58⟩,⟨Z143⟩,⟨Z145⟩,⟨Z108⟩,⟨Z113⟩,⟨Z110⟩⟩
         case round =>
          clear H'
          try clear q1
          try clear c2
          try clear p2
          try clear c3
          try clear c4
          try clear c4b0
          try clear c4b1
          try clear c5
          try clear c5b0
          try clear c5b1
          try clear c6
          try clear p6
          try clear c7
          try clear c9
          try clear q16
          try clear c21
          try clear c22
          try clear c26
          try clear c31
          try clear c31b0
          try clear hcz23_0
          try clear hcz23_1
          try clear hcz23_2
          try clear hcz23_3
          try clear hfz23_0
          try clear hfz23_1
          try clear hfz23_2
          try clear hfz23_3
          try clear p2
          try clear p6
          try clear q1
          try clear q16
          obtain ⟨x8_3,x9_3,x1001_3,x1002_3,rfl,HA,HK3,HO_8,HO_163000,HO_163002,HO_163003,BK145,BK162,HI0,HK,HB⟩ := hrel
          cases gk with
          | zero => exact absurd HA.out (by simp [spec_l9Right.l1])
          | succ k3 =>
           have H := HA.out
           clear HA
           simp only [spec_l9Right.l1] at H
           by_cases c34 : x9_3 < ji3
           ·rw [if_pos c34] at H
            have c34b0 : decide (x9_3 < ji3) = true := decide_eq_true c34
            clear c34
            obtain ⟨⟨t178,t179,t180⟩,A350,H⟩ := Option.bind_eq_some_iff.mp H
            try dsimp only at H
            have A35 := Aside0.mk A350
            clear A350
            by_cases c36 : t172 = true
            ·subst c36
             rw [if_pos rfl] at H
             by_cases c37 : x8_3.length < 17592186044416
             ·rw [if_pos c37] at H
              have LMc37 := Aside0.mk c37
              clear c37
              obtain ⟨y181,hy181⟩ : ∃ y_ : List Int,y_ = (x8_3 ++ [t178]) := ⟨_,rfl⟩
              replace H : (spec_l9Right.l1 k3 ji3 x5_8 true x7_2 y181 (wrap64 (x9_3 + 1)) s0_0 t179 t180 y159 (⟨#[121]⟩ : ByteArray) x163002_2 x163003_2) = some (r1,r2,r3,r4,r5,r6) := by first | (rw [hy181];with_reducible exact H) | (have H2_ := (Option.bind_some _ _).symm.trans H;rw [hy181];with_reducible exact H2_) | (have H2_ := (Option.bind_some _ _).symm.trans H;with_reducible exact H2_) | with_reducible exact H | (rw [hy181];exact H) | exact H
              have Ny181 := Aside0.mk hy181
              clear hy181
              have H' := Aside0.mk H
              clear H
              go_wp2_with (first | ((with_reducible refine gate_callee (f := 91) rfl ?_);refine goesL_ (some 43) rfl rfl Try.func91 Z102 rfl #[.pointer (some ⟨g,0,none⟩)] rfl Z60 ?_;(with_reducible refine (spec_l6Small.calls g s0_0 x1001_3 x1002_3 t178 t179 t180 w0 _ ?side1 ?side2 A35.out).mono ?_);(case side1 => exact Z108);(case side2 => exact Z110);rintro e w38 ⟨rfl,hi,hb,hk⟩;refine ⟨_,rfl,?_⟩;have n_ := Z4;clear HO_8 HO_163000 HO_163002 HO_163003 BK145 BK162 HK HB HI0;obtain ⟨HO_8,HO_163000,HO_163002,HO_163003,BK145,BK162,HK,HB,HI0⟩ := n_;(try clear hb);(try clear hb2);(try clear hk);(try clear hi)) | ((with_reducible refine gate_builtin (b := .append) (xs := #[.tmp 50,.tmp 52]) rfl ?_);at_builtin;refine Kd.R_append (Kd.int .i64) w.heap.size rfl (.tmp 50) (.tmp 52) 34 3 (.int .i64 0) 8 rfl Try.underlying34 info3 rfl Z154 Z149 u8 x8_3 t178 [.int .i64 t178] (fun k_ => some k_ ≠ (u163003 : Value).ownBlock) (fun _ => False) rfl rfl ?aP (fun _ hk => hk.elim) ?aF ?aO (Below.refl _ _) ?aS ?aL ?_;(case aP => exact rfl);(case aF => exact Z53);(case aO => exact Z62);(case aS => exact Z27);(case aL => have := LMc37.out;omega);intro v182 w39 ho hb hg hat;rw [← Ny181.out] at ho;have n_ := Z6;clear HO_163000 HO_163002 HO_163003 BK145 BK162 HI0 HB HK HO_8;obtain ⟨HO_163000,HO_163002,HO_163003,BK145,BK162,HI0,HB,HK,HO183⟩ := n_;clear ho hb hg hat))
              go_roundg k3
              case measure => have := HJ8.out;have := HK2.out;have := HK3.out;omega
              case rel => exact ⟨(y181),(wrap64 (x9_3 + 1)),(t179),(t180),Z86,H',⟨Z83⟩,⟨by (with_reducible repeat (first | apply Kd.R_alloc | apply Kd.R_drewN | apply Kd.R_drew));exact HO183.out⟩,⟨Z127⟩,⟨Z125⟩,⟨Z58⟩,⟨Z143⟩,⟨Z145⟩,⟨Z108⟩,⟨Z113⟩,⟨Z110⟩⟩
             ·rw [if_neg c37] at H
              exact absurd H Z150
            ·replace c36 := Bool.eq_false_iff.mpr c36
             subst c36
             rw [if_neg Bool.false_ne_true] at H
             obtain ⟨⟨t184,t185,t186⟩,A400,H⟩ := Option.bind_eq_some_iff.mp H
             try dsimp only at H
             have A40 := Aside0.mk A400
             clear A400
             by_cases c41 : x8_3.length < 17592186044416
             ·rw [if_pos c41] at H
              have LMc41 := Aside0.mk c41
              clear c41
              obtain ⟨y187,hy187⟩ : ∃ y_ : List Int,y_ = (x8_3 ++ [wrap64 (500 * (wrap64 (t184 - 3)))]) := ⟨_,rfl⟩
              replace H : (spec_l9Right.l1 k3 ji3 x5_8 false x7_2 y187 (wrap64 (x9_3 + 1)) s0_0 t185 t186 y159 (⟨#[121]⟩ : ByteArray) x163002_2 x163003_2) = some (r1,r2,r3,r4,r5,r6) := by first | (rw [hy187];with_reducible exact H) | (have H2_ := (Option.bind_some _ _).symm.trans H;rw [hy187];with_reducible exact H2_) | (have H2_ := (Option.bind_some _ _).symm.trans H;with_reducible exact H2_) | with_reducible exact H | (rw [hy187];exact H) | exact H
              have Ny187 := Aside0.mk hy187
              clear hy187
              have H' := Aside0.mk H
              clear H
              go_wp2_with (first | ((with_reducible refine gate_callee (f := 91) rfl ?_);refine goesL_ (some 43) rfl rfl Try.func91 Z102 rfl #[.pointer (some ⟨g,0,none⟩)] rfl Z60 ?_;(with_reducible refine (spec_l6Small.calls g s0_0 x1001_3 x1002_3 t178 t179 t180 w0 _ ?side1 ?side2 A35.out).mono ?_);(case side1 => exact Z108);(case side2 => exact Z110);rintro e w42 ⟨rfl,hi,hb,hk⟩;refine ⟨_,rfl,?_⟩;have n_ := Z4;clear HO_8 HO_163000 HO_163002 HO_163003 BK145 BK162 HK HB HI0;obtain ⟨HO_8,HO_163000,HO_163002,HO_163003,BK145,BK162,HK,HB,HI0⟩ := n_;(try clear hb);(try clear hb2);(try clear hk);(try clear hi)) | ((with_reducible refine gate_callee (f := 76) rfl ?_);refine goesL_ (some 47) rfl rfl Try.func76 Z102 rfl #[.pointer (some ⟨g,0,none⟩),.int .i64 7] rfl Z60 ?_;(with_reducible refine (spec_l1Below.calls g s0_0 t179 t180 7 t184 t185 t186 w0 _ ?side1 ?side2 A40.out).mono ?_);(case side1 => exact Z108);(case side2 => exact Z110);rintro e w43 ⟨rfl,hi,hb,hk⟩;refine ⟨_,rfl,?_⟩;have n_ := jA (Kd.R_mono (Kd.R_keep (IsS100.apart (show IsS100 w0 _ g s0_0 t179 t180 from Z108) Z141 Z154) hk (fun _ h => h.2)) (fun _ h => h.1)) (jA (Kd.R_mono (Kd.R_keep (IsS100.apart (show IsS100 w0 _ g s0_0 t179 t180 from Z108) Z127 Z154) hk (fun _ h => h.2)) (fun _ h => h.1)) (jA (Kd.S_mono (Kd.S_keep (IsS100.apartS (show IsS100 w0 _ g s0_0 t179 t180 from Z108) Z129 Z154) hk (fun _ h => h.2)) (fun _ h => h.1)) (jA (Kd.R_mono (Kd.R_keep (IsS100.apart (show IsS100 w0 _ g s0_0 t179 t180 from Z108) Z128 Z154) hk (fun _ h => h.2)) (fun _ h => h.1)) (jA (KeepBut.blk hk (g' := gb145) (o := .cells #[.slice none 0 0,.string (⟨#[]⟩ : ByteArray),.slice none 0 0,.slice none 0 0] 36 (0,0)) Z143 NB145_0.out Z150) (jA (KeepBut.blk hk (g' := gb162) (o := .cells #[.slice Ao19 y159.length co19,.string (⟨#[121]⟩ : ByteArray),u163002,u163003] 36 (0,0)) Z145 NB162_0.out Z150) (jA (KeepBut.trans Z113 hk (.inl rfl)) (jA (hb) (Aside0.mk (hi)))))))));clear HO_8 HO_163000 HO_163002 HO_163003 BK145 BK162 HK HB HI0;obtain ⟨HO_8,HO_163000,HO_163002,HO_163003,BK145,BK162,HK,HB,HI0⟩ := n_;(try clear hb);(try clear hb2);(try clear hk);(try clear hi)) | ((with_reducible refine gate_builtin (b := .append) (xs := #[.tmp 50,.tmp 52]) rfl ?_);at_builtin;refine Kd.R_append (Kd.int .i64) w.heap.size rfl (.tmp 50) (.tmp 52) 34 3 (.int .i64 0) 8 rfl Try.underlying34 info3 rfl Z154 Z149 u8 x8_3 (wrap64 (500 * (wrap64 (t184 - 3)))) [.int .i64 (wrap64 (500 * (wrap64 (t184 - 3))))] (fun k_ => some k_ ≠ (u163003 : Value).ownBlock) (fun _ => False) rfl rfl ?aP (fun _ hk => hk.elim) ?aF ?aO (Below.refl _ _) ?aS ?aL ?_;(case aP => exact rfl);(case aF => exact Z53);(case aO => exact Z62);(case aS => exact Z27);(case aL => have := LMc41.out;omega);intro v188 w44 ho hb hg hat;rw [← Ny187.out] at ho;have n_ := Z6;clear HO_163000 HO_163002 HO_163003 BK145 BK162 HI0 HB HK HO_8;obtain ⟨HO_163000,HO_163002,HO_163003,BK145,BK162,HI0,HB,HK,HO189⟩ := n_;clear ho hb hg hat))
              go_roundg k3
              case measure => have := HJ8.out;have := HK2.out;have := HK3.out;omega
              case rel => exact ⟨(y187),(wrap64 (x9_3 + 1)),(t185),(t186),Z86,H',⟨Z83⟩,⟨by (with_reducible repeat (first | apply Kd.R_alloc | apply Kd.R_drewN | apply Kd.R_drew));exact HO189.out⟩,⟨Z127⟩,⟨Z125⟩,⟨Z58⟩,⟨Z143⟩,⟨Z145⟩,⟨Z108⟩,⟨Z113⟩,⟨Z110⟩⟩
             ·rw [if_neg c41] at H
              exact absurd H Z150
           ·rw [if_neg c34] at H
            have c34b0 : decide (x9_3 < ji3) = false := decide_eq_false c34
            clear c34
            by_cases c45 : x163002_2.length < 5864062014805
            ·rw [if_pos c45] at H
             have LMc45 := Aside0.mk c45
             clear c45
             obtain ⟨y190,hy190⟩ : ∃ y_ : List (List Int),y_ = (x163002_2 ++ [x8_3]) := ⟨_,rfl⟩
             replace H : ((spec_l6Small.f s0_0 x1001_3 x1002_3).bind fun bt193 => (if t172 = true then (if x163003_2.length < 17592186044416 then (spec_l9Right.l0 k3 ji3 x5_8 t172 (wrap64 (x7_2 + 1)) s0_0 bt193.2.1 bt193.2.2 y159 (⟨#[121]⟩ : ByteArray) y190 (x163003_2 ++ [bt193.1])) else (none)) else ((spec_l1Once.f s0_0 bt193.2.1 bt193.2.2 4).bind fun bt199 => (if bt199.1 = true then (if x163003_2.length < 17592186044416 then (spec_l9Right.l0 k3 ji3 x5_8 t172 (wrap64 (x7_2 + 1)) s0_0 bt199.2.1 bt199.2.2 y159 (⟨#[121]⟩ : ByteArray) y190 (x163003_2 ++ [bt193.1])) else (none)) else (if 0 < (x8_3.length : Int) then ((spec_l1Below.f s0_0 bt199.2.1 bt199.2.2 5).bind fun bt206 => (if x163003_2.length < 17592186044416 then (spec_l9Right.l0 k3 ji3 x5_8 t172 (wrap64 (x7_2 + 1)) s0_0 bt206.2.1 bt206.2.2 y159 (⟨#[121]⟩ : ByteArray) y190 (x163003_2 ++ [wrap64 ((wrap64 ((rd x8_3 0) * 2)) + (wrap64 (100 * bt206.1)))])) else (none))) else (none)))))) = some (r1,r2,r3,r4,r5,r6) := by first | (rw [hy190];with_reducible exact H) | (have H2_ := (Option.bind_some _ _).symm.trans H;rw [hy190];with_reducible exact H2_) | (have H2_ := (Option.bind_some _ _).symm.trans H;with_reducible exact H2_) | with_reducible exact H | (rw [hy190];exact H) | exact H
             have Ny190 := Aside0.mk hy190
             clear hy190
             obtain ⟨⟨t193,t194,t195⟩,A460,H⟩ := Option.bind_eq_some_iff.mp H
             try dsimp only at H
             have A46 := Aside0.mk A460
             clear A460
             by_cases c47 : t172 = true
             ·subst c47
              rw [if_pos rfl] at H
              by_cases c48 : x163003_2.length < 17592186044416
              ·rw [if_pos c48] at H
               have LMc48 := Aside0.mk c48
               clear c48
               obtain ⟨y196,hy196⟩ : ∃ y_ : List Int,y_ = (x163003_2 ++ [t193]) := ⟨_,rfl⟩
               replace H : (spec_l9Right.l0 k3 ji3 x5_8 true (wrap64 (x7_2 + 1)) s0_0 t194 t195 y159 (⟨#[121]⟩ : ByteArray) y190 y196) = some (r1,r2,r3,r4,r5,r6) := by first | (rw [hy196];with_reducible exact H) | (have H2_ := (Option.bind_some _ _).symm.trans H;rw [hy196];with_reducible exact H2_) | (have H2_ := (Option.bind_some _ _).symm.trans H;with_reducible exact H2_) | with_reducible exact H | (rw [hy196];exact H) | exact H
               have Ny196 := Aside0.mk hy196
               clear hy196
               have H' := Aside0.mk H
               clear H
               have hnb49 := NB162_145.out
               have hnc49 := NB145_162.out
               have hnb50 := NB162_0.out
               have hnc50 := NB0_162.out
               obtain ⟨hcz51_0,hcz51_1,hcz51_2,hcz51_3,hfz51_0,hfz51_1,hfz51_2,hfz51_3⟩ := cells4 BK162.out
               obtain ⟨Ao53,co53,eo53⟩ := Kd.R_slice HO_8.out
               subst eo53
               go_wp2_with (first | ((with_reducible refine gate_builtin (b := .append) (xs := #[.tmp 55,.tmp 57]) rfl ?_);at_builtin;refine Kd.S_append (Kd.slice 3 (Kd.int .i64)) w.heap.size rfl (.tmp 55) (.tmp 57) 22 34 (.slice none 0 0) 24 rfl Try.underlying22 info34 rfl Z154 Z149 u163002 x163002_2 x8_3 [.slice Ao53 x8_3.length co53] (fun k_ => some k_ ≠ (u163003 : Value).ownBlock) (fun k_ => some k_ = (.slice Ao53 x8_3.length co53 : Value).ownBlock) rfl rfl ?aP (fun k_ hk_ => ((Kd.R_mono (ok' := fun k_ => ((fun k_ => some k_ ≠ (u163003 : Value).ownBlock)) k_ ∧ some k_ ≠ (u163002 : Value).ownBlock) (Kd.R_apart' (HO_8.out) (Kd.S_typed HO_163002.out) Z154) (fun k_ hk => ⟨hk.1,hk.2⟩))).1 k_ hk_.symm) ?aF ?aO (Below.refl _ _) ?aS ?aL ?_;(case aP => exact Z24);(case aF => exact Z53);(case aO => exact Z51);(case aS => exact Z27);(case aL => have := LMc45.out;omega);intro v191 w52 ho hb hg hat;rw [← Ny190.out] at ho;have n_ := Z7;clear HO_163000 HO_163003 BK145 BK162 HI0 HB HK HO_163002 HO_8;obtain ⟨HO_163000,HO_163003,BK145,BK162,HI0,HB,HK,HO192⟩ := n_;clear ho hb hg hat;obtain ⟨Ao54,co54,eo54⟩ := Kd.S_slice HO192.out;subst eo54;obtain ⟨hcz55_0,hcz55_1,hcz55_2,hcz55_3,hfz55_0,hfz55_1,hfz55_2,hfz55_3⟩ := cells4 BK162.out) | ((with_reducible refine gate_callee (f := 91) rfl ?_);refine goesL_ (some 61) rfl rfl Try.func91 Z102 rfl #[.pointer (some ⟨g,0,none⟩)] rfl Z60 ?_;(with_reducible refine (spec_l6Small.calls g s0_0 x1001_3 x1002_3 t193 t194 t195 w0 _ ?side1 ?side2 A46.out).mono ?_);(case side1 => exact Z108);(case side2 => exact Z110);rintro e w56 ⟨rfl,hi,hb,hk⟩;refine ⟨_,rfl,?_⟩;have n_ := jA (Kd.R_mono (Kd.R_keep (IsS100.apart (show IsS100 w0 _ g s0_0 x1001_3 x1002_3 from Z108) (by (with_reducible repeat (first | apply Kd.R_alloc | apply Kd.R_drewN | apply Kd.R_drew));exact (Kd.R_mono (Kd.R_far (p := ⟨gb162,2,none⟩) (Kd.R_types HO_163000.out BK162.out Z154) (fun _ hk => hk.2) (.slice Ao54 y190.length co54)) (fun _ h_ => h_.1))) Z154) hk (fun _ h => h.2)) (fun _ h => h.1)) (jA (Kd.R_mono (Kd.R_keep (IsS100.apart (show IsS100 w0 _ g s0_0 x1001_3 x1002_3 from Z108) (by (with_reducible repeat (first | apply Kd.R_alloc | apply Kd.R_drewN | apply Kd.R_drew));exact (Kd.R_mono (Kd.R_far (p := ⟨gb162,2,none⟩) (Kd.R_types HO_163003.out BK162.out Z154) (fun _ hk => hk.2) (.slice Ao54 y190.length co54)) (fun _ h_ => h_.1))) Z154) hk (fun _ h => h.2)) (fun _ h => h.1)) (jA (KeepBut.blk hk (g' := gb145) (o := .cells #[.slice none 0 0,.string (⟨#[]⟩ : ByteArray),.slice none 0 0,.slice none 0 0] 36 (0,0)) Z80 NB145_0.out Z150) (jA (KeepBut.blk hk (g' := gb162) (o := .cells #[.slice Ao19 y159.length co19,.string (⟨#[121]⟩ : ByteArray),.slice Ao54 y190.length co54,u163003] 36 (0,0)) Z54 NB162_0.out Z150) (jA (Kd.S_mono (Kd.S_keep (IsS100.apartS (show IsS100 w0 _ g s0_0 x1001_3 x1002_3 from Z108) (by (with_reducible repeat (first | apply Kd.S_alloc | apply Kd.S_drewN | apply Kd.S_drew));exact (Kd.S_mono (Kd.S_far (p := ⟨gb162,2,none⟩) (Kd.S_types HO192.out BK162.out Z154) (fun _ hk => hk.2) (.slice Ao54 y190.length co54)) (fun _ h_ => h_.1))) Z154) hk (fun _ h => h.2)) (fun _ h => h.1)) (jA (KeepBut.trans Z113 hk (.inl rfl)) (jA (hb) (Aside0.mk (hi))))))));clear HO_163000 HO_163003 BK145 BK162 HO192 HK HB HI0;obtain ⟨HO_163000,HO_163003,BK145,BK162,HO192,HK,HB,HI0⟩ := n_;(try clear hb);(try clear hb2);(try clear hk);(try clear hi);obtain ⟨hcz57_0,hcz57_1,hcz57_2,hcz57_3,hfz57_0,hfz57_1,hfz57_2,hfz57_3⟩ := cells4 BK162.out) | ((with_reducible refine gate_builtin (b := .append) (xs := #[.tmp 78,.tmp 80]) rfl ?_);at_builtin;refine Kd.R_append (Kd.int .i64) w.heap.size rfl (.tmp 78) (.tmp 80) 34 3 (.int .i64 0) 8 rfl Try.underlying34 info3 rfl Z154 Z149 u163003 x163003_2 t193 [.int .i64 t193] (fun _ => True) (fun _ => False) rfl rfl ?aP (fun _ hk => hk.elim) ?aF ?aO (Below.refl _ _) ?aS ?aL ?_;(case aP => exact rfl);(case aF => exact Z98);(case aO => exact Z56);(case aS => exact Z27);(case aL => have := LMc48.out;omega);intro v197 w58 ho hb hg hat;rw [← Ny196.out] at ho;have n_ := jA (Kd.R_over' Z127 (Kd.R_typed Z128) Z154 hg) (jA (blk_grown (g := gb145) (o := .cells #[.slice none 0 0,.string (⟨#[]⟩ : ByteArray),.slice none 0 0,.slice none 0 0] 36 (0,0)) Z143 hg (Kd.R_ne HO_163003.out BK145.out Z154)) (jA (blk_grown (g := gb162) (o := .cells #[.slice Ao19 y159.length co19,.string (⟨#[121]⟩ : ByteArray),.slice Ao54 y190.length co54,u163003] 36 (0,0)) Z145 hg (Kd.R_ne HO_163003.out BK162.out Z154)) (jA (IsS100.grown Z108 hg (IsS100.own_ne HI0.out HO_163003.out Z154)) (jA (Kd.S_after (ok := (fun _ => True)) Z57 hg hat) (jA (below_weaken Z110 HL.out hb) (jA (KeepBut.trans Z113 (KeepBut.of_grown hg g) (Kd.R_base2 HO_163003.out)) (Aside0.mk (ho))))))));clear HO_163000 BK145 BK162 HI0 HO192 HB HK HO_163003;obtain ⟨HO_163000,BK145,BK162,HI0,HO192,HB,HK,HO198⟩ := n_;clear ho hb hg hat;obtain ⟨Ao59,co59,eo59⟩ := Kd.R_slice HO198.out;subst eo59;obtain ⟨hcz60_0,hcz60_1,hcz60_2,hcz60_3,hfz60_0,hfz60_1,hfz60_2,hfz60_3⟩ := cells4 BK162.out))
               go_roundg k3
               case measure => have := HJ8.out;have := HK2.out;have := HK3.out;omega
               case rel => exact ⟨(wrap64 (x7_2 + 1)),(t194),(t195),(y190),(y196),(.slice Ao54 y190.length co54),(.slice Ao59 y196.length co59),Z86,H',⟨Z83⟩,⟨by (with_reducible repeat (first | apply Kd.R_alloc | apply Kd.R_drewN | apply Kd.R_drew));exact Kd.R_mono (Kd.R_far (p := ⟨gb162,3,none⟩) (Kd.R_types HO_163000.out BK162.out Z154) (fun _ hk => hk.2) (.slice Ao59 y196.length co59)) (fun _ hk => trivial)⟩,⟨by (with_reducible repeat (first | apply Kd.S_alloc | apply Kd.S_drewN | apply Kd.S_drew));exact Kd.S_mono (Kd.S_far (p := ⟨gb162,3,none⟩) (Kd.S_types HO192.out BK162.out Z154) (fun _ hk => hk.2) (.slice Ao59 y196.length co59)) (fun _ hk => hk.1.2)⟩,⟨by (with_reducible repeat (first | apply Kd.R_alloc | apply Kd.R_drewN | apply Kd.R_drew));exact Kd.R_mono (Kd.R_far (p := ⟨gb162,3,none⟩) (Kd.R_types HO198.out BK162.out Z154) (fun _ hk => hk.2) (.slice Ao59 y196.length co59)) (fun _ hk => trivial)⟩,⟨Z80⟩,⟨by refine bP ?_;refine blk_put (cs := #[.slice Ao19 y159.length co19,.string (⟨#[121]⟩ : ByteArray),.slice Ao54 y190.length co54,u163003]) ?_ 3 _ rfl;refine bP ?_;exact BK162.out⟩,⟨Z108⟩,⟨Z113⟩,⟨Z110⟩⟩
              ·rw [if_neg c48] at H
               exact absurd H Z150
             ·replace c47 := Bool.eq_false_iff.mpr c47
              subst c47
              rw [if_neg Bool.false_ne_true] at H
              obtain ⟨⟨t199,t200,t201⟩,A610,H⟩ := Option.bind_eq_some_iff.mp H
              try dsimp only at H
              have A61 := Aside0.mk A610
              clear A610
              by_cases c62 : t199 = true
              ·subst c62
               rw [if_pos rfl] at H
               by_cases c63 : x163003_2.length < 17592186044416
               ·rw [if_pos c63] at H
                have LMc63 := Aside0.mk c63
                clear c63
                obtain ⟨y202,hy202⟩ : ∃ y_ : List Int,y_ = (x163003_2 ++ [t193]) := ⟨_,rfl⟩
                replace H : (spec_l9Right.l0 k3 ji3 x5_8 false (wrap64 (x7_2 + 1)) s0_0 t200 t201 y159 (⟨#[121]⟩ : ByteArray) y190 y202) = some (r1,r2,r3,r4,r5,r6) := by first | (rw [hy202];with_reducible exact H) | (have H2_ := (Option.bind_some _ _).symm.trans H;rw [hy202];with_reducible exact H2_) | (have H2_ := (Option.bind_some _ _).symm.trans H;with_reducible exact H2_) | with_reducible exact H | (rw [hy202];exact H) | exact H
                have Ny202 := Aside0.mk hy202
                clear hy202
                have H' := Aside0.mk H
                clear H
                have hnb64 := NB162_145.out
                have hnc64 := NB145_162.out
                have hnb65 := NB162_0.out
                have hnc65 := NB0_162.out
                obtain ⟨hcz66_0,hcz66_1,hcz66_2,hcz66_3,hfz66_0,hfz66_1,hfz66_2,hfz66_3⟩ := cells4 BK162.out
                obtain ⟨Ao68,co68,eo68⟩ := Kd.R_slice HO_8.out
                subst eo68
                go_wp2_with (first | ((with_reducible refine gate_builtin (b := .append) (xs := #[.tmp 55,.tmp 57]) rfl ?_);at_builtin;refine Kd.S_append (Kd.slice 3 (Kd.int .i64)) w.heap.size rfl (.tmp 55) (.tmp 57) 22 34 (.slice none 0 0) 24 rfl Try.underlying22 info34 rfl Z154 Z149 u163002 x163002_2 x8_3 [.slice Ao68 x8_3.length co68] (fun k_ => some k_ ≠ (u163003 : Value).ownBlock) (fun k_ => some k_ = (.slice Ao68 x8_3.length co68 : Value).ownBlock) rfl rfl ?aP (fun k_ hk_ => ((Kd.R_mono (ok' := fun k_ => ((fun k_ => some k_ ≠ (u163003 : Value).ownBlock)) k_ ∧ some k_ ≠ (u163002 : Value).ownBlock) (Kd.R_apart' (HO_8.out) (Kd.S_typed HO_163002.out) Z154) (fun k_ hk => ⟨hk.1,hk.2⟩))).1 k_ hk_.symm) ?aF ?aO (Below.refl _ _) ?aS ?aL ?_;(case aP => exact Z24);(case aF => exact Z53);(case aO => exact Z51);(case aS => exact Z27);(case aL => have := LMc45.out;omega);intro v191 w67 ho hb hg hat;rw [← Ny190.out] at ho;have n_ := Z7;clear HO_163000 HO_163003 BK145 BK162 HI0 HB HK HO_163002 HO_8;obtain ⟨HO_163000,HO_163003,BK145,BK162,HI0,HB,HK,HO192⟩ := n_;clear ho hb hg hat;obtain ⟨Ao69,co69,eo69⟩ := Kd.S_slice HO192.out;subst eo69;obtain ⟨hcz70_0,hcz70_1,hcz70_2,hcz70_3,hfz70_0,hfz70_1,hfz70_2,hfz70_3⟩ := cells4 BK162.out) | ((with_reducible refine gate_callee (f := 91) rfl ?_);refine goesL_ (some 61) rfl rfl Try.func91 Z102 rfl #[.pointer (some ⟨g,0,none⟩)] rfl Z60 ?_;(with_reducible refine (spec_l6Small.calls g s0_0 x1001_3 x1002_3 t193 t194 t195 w0 _ ?side1 ?side2 A46.out).mono ?_);(case side1 => exact Z108);(case side2 => exact Z110);rintro e w71 ⟨rfl,hi,hb,hk⟩;refine ⟨_,rfl,?_⟩;have n_ := jA (Kd.R_mono (Kd.R_keep (IsS100.apart (show IsS100 w0 _ g s0_0 x1001_3 x1002_3 from Z108) (by (with_reducible repeat (first | apply Kd.R_alloc | apply Kd.R_drewN | apply Kd.R_drew));exact (Kd.R_mono (Kd.R_far (p := ⟨gb162,2,none⟩) (Kd.R_types HO_163000.out BK162.out Z154) (fun _ hk => hk.2) (.slice Ao69 y190.length co69)) (fun _ h_ => h_.1))) Z154) hk (fun _ h => h.2)) (fun _ h => h.1)) (jA (Kd.R_mono (Kd.R_keep (IsS100.apart (show IsS100 w0 _ g s0_0 x1001_3 x1002_3 from Z108) (by (with_reducible repeat (first | apply Kd.R_alloc | apply Kd.R_drewN | apply Kd.R_drew));exact (Kd.R_mono (Kd.R_far (p := ⟨gb162,2,none⟩) (Kd.R_types HO_163003.out BK162.out Z154) (fun _ hk => hk.2) (.slice Ao69 y190.length co69)) (fun _ h_ => h_.1))) Z154) hk (fun _ h => h.2)) (fun _ h => h.1)) (jA (KeepBut.blk hk (g' := gb145) (o := .cells #[.slice none 0 0,.string (⟨#[]⟩ : ByteArray),.slice none 0 0,.slice none 0 0] 36 (0,0)) Z80 NB145_0.out Z150) (jA (KeepBut.blk hk (g' := gb162) (o := .cells #[.slice Ao19 y159.length co19,.string (⟨#[121]⟩ : ByteArray),.slice Ao69 y190.length co69,u163003] 36 (0,0)) Z54 NB162_0.out Z150) (jA (Kd.S_mono (Kd.S_keep (IsS100.apartS (show IsS100 w0 _ g s0_0 x1001_3 x1002_3 from Z108) (by (with_reducible repeat (first | apply Kd.S_alloc | apply Kd.S_drewN | apply Kd.S_drew));exact (Kd.S_mono (Kd.S_far (p := ⟨gb162,2,none⟩) (Kd.S_types HO192.out BK162.out Z154) (fun _ hk => hk.2) (.slice Ao69 y190.length co69)) (fun _ h_ => h_.1))) Z154) hk (fun _ h => h.2)) (fun _ h => h.1)) (jA (KeepBut.trans Z113 hk (.inl rfl)) (jA (hb) (Aside0.mk (hi))))))));clear HO_163000 HO_163003 BK145 BK162 HO192 HK HB HI0;obtain ⟨HO_163000,HO_163003,BK145,BK162,HO192,HK,HB,HI0⟩ := n_;(try clear hb);(try clear hb2);(try clear hk);(try clear hi)) | (go_at_call 90;(with_reducible refine (spec_l1Once.calls g s0_0 t194 t195 4 true t200 t201 w0 _ ?side1 ?side2 A61.out).mono ?_);(case side1 => exact Z108);(case side2 => exact Z110);rintro e w72 ⟨rfl,hi,hb,hk⟩;have n_ := jA (Kd.R_mono (Kd.R_keep (IsS100.apart (show IsS100 w0 _ g s0_0 t194 t195 from Z108) Z127 Z154) hk (fun _ h => h.2)) (fun _ h => h.1)) (jA (Kd.R_mono (Kd.R_keep (IsS100.apart (show IsS100 w0 _ g s0_0 t194 t195 from Z108) Z128 Z154) hk (fun _ h => h.2)) (fun _ h => h.1)) (jA (KeepBut.blk hk (g' := gb145) (o := .cells #[.slice none 0 0,.string (⟨#[]⟩ : ByteArray),.slice none 0 0,.slice none 0 0] 36 (0,0)) Z143 NB145_0.out Z150) (jA (KeepBut.blk hk (g' := gb162) (o := .cells #[.slice Ao19 y159.length co19,.string (⟨#[121]⟩ : ByteArray),.slice Ao69 y190.length co69,u163003] 36 (0,0)) Z145 NB162_0.out Z150) (jA (Kd.S_mono (Kd.S_keep (IsS100.apartS (show IsS100 w0 _ g s0_0 t194 t195 from Z108) Z70 Z154) hk (fun _ h => h.2)) (fun _ h => h.1)) (jA (KeepBut.trans Z113 hk (.inl rfl)) (jA (hb) (Aside0.mk (hi))))))));clear HO_163000 HO_163003 BK145 BK162 HO192 HK HB HI0;obtain ⟨HO_163000,HO_163003,BK145,BK162,HO192,HK,HB,HI0⟩ := n_;(try clear hb);(try clear hb2);(try clear hk);(try clear hi);obtain ⟨hcz73_0,hcz73_1,hcz73_2,hcz73_3,hfz73_0,hfz73_1,hfz73_2,hfz73_3⟩ := cells4 BK162.out) | ((with_reducible refine gate_builtin (b := .append) (xs := #[.tmp 78,.tmp 80]) rfl ?_);at_builtin;refine Kd.R_append (Kd.int .i64) w.heap.size rfl (.tmp 78) (.tmp 80) 34 3 (.int .i64 0) 8 rfl Try.underlying34 info3 rfl Z154 Z149 u163003 x163003_2 t193 [.int .i64 t193] (fun _ => True) (fun _ => False) rfl rfl ?aP (fun _ hk => hk.elim) ?aF ?aO (Below.refl _ _) ?aS ?aL ?_;(case aP => exact rfl);(case aF => exact Z98);(case aO => exact Z56);(case aS => exact Z27);(case aL => have := LMc63.out;omega);intro v203 w74 ho hb hg hat;rw [← Ny202.out] at ho;have n_ := jA (Kd.R_over' Z127 (Kd.R_typed Z128) Z154 hg) (jA (blk_grown (g := gb145) (o := .cells #[.slice none 0 0,.string (⟨#[]⟩ : ByteArray),.slice none 0 0,.slice none 0 0] 36 (0,0)) Z143 hg (Kd.R_ne HO_163003.out BK145.out Z154)) (jA (blk_grown (g := gb162) (o := .cells #[.slice Ao19 y159.length co19,.string (⟨#[121]⟩ : ByteArray),.slice Ao69 y190.length co69,u163003] 36 (0,0)) Z145 hg (Kd.R_ne HO_163003.out BK162.out Z154)) (jA (IsS100.grown Z108 hg (IsS100.own_ne HI0.out HO_163003.out Z154)) (jA (Kd.S_after (ok := (fun _ => True)) Z57 hg hat) (jA (below_weaken Z110 HL.out hb) (jA (KeepBut.trans Z113 (KeepBut.of_grown hg g) (Kd.R_base2 HO_163003.out)) (Aside0.mk (ho))))))));clear HO_163000 BK145 BK162 HI0 HO192 HB HK HO_163003;obtain ⟨HO_163000,BK145,BK162,HI0,HO192,HB,HK,HO204⟩ := n_;clear ho hb hg hat;obtain ⟨Ao75,co75,eo75⟩ := Kd.R_slice HO204.out;subst eo75;obtain ⟨hcz76_0,hcz76_1,hcz76_2,hcz76_3,hfz76_0,hfz76_1,hfz76_2,hfz76_3⟩ := cells4 BK162.out))
                go_roundg k3
                case measure => have := HJ8.out;have := HK2.out;have := HK3.out;omega
                case rel => exact ⟨(wrap64 (x7_2 + 1)),(t200),(t201),(y190),(y202),(.slice Ao69 y190.length co69),(.slice Ao75 y202.length co75),Z86,H',⟨Z83⟩,⟨by (with_reducible repeat (first | apply Kd.R_alloc | apply Kd.R_drewN | apply Kd.R_drew));exact Kd.R_mono (Kd.R_far (p := ⟨gb162,3,none⟩) (Kd.R_types HO_163000.out BK162.out Z154) (fun _ hk => hk.2) (.slice Ao75 y202.length co75)) (fun _ hk => trivial)⟩,⟨by (with_reducible repeat (first | apply Kd.S_alloc | apply Kd.S_drewN | apply Kd.S_drew));exact Kd.S_mono (Kd.S_far (p := ⟨gb162,3,none⟩) (Kd.S_types HO192.out BK162.out Z154) (fun _ hk => hk.2) (.slice Ao75 y202.length co75)) (fun _ hk => hk.1.2)⟩,⟨by (with_reducible repeat (first | apply Kd.R_alloc | apply Kd.R_drewN | apply Kd.R_drew));exact Kd.R_mono (Kd.R_far (p := ⟨gb162,3,none⟩) (Kd.R_types HO204.out BK162.out Z154) (fun _ hk => hk.2) (.slice Ao75 y202.length co75)) (fun _ hk => trivial)⟩,⟨Z80⟩,⟨by refine bP ?_;refine blk_put (cs := #[.slice Ao19 y159.length co19,.string (⟨#[121]⟩ : ByteArray),.slice Ao69 y190.length co69,u163003]) ?_ 3 _ rfl;refine bP ?_;exact BK162.out⟩,⟨Z108⟩,⟨Z113⟩,⟨Z110⟩⟩
               ·rw [if_neg c63] at H
                exact absurd H Z150
              ·replace c62 := Bool.eq_false_iff.mpr c62
               subst c62
               rw [if_neg Bool.false_ne_true] at H
               by_cases c77 : 0 < (x8_3.length : Int)
               ·rw [if_pos c77] at H
                have c77b0 : decide (0 < (x8_3.length : Int)) = true := decide_eq_true c77
                have c77b1 : decide (0 < x8_3.length) = true := decide_eq_true Z149
                clear c77
                obtain ⟨⟨t206,t207,t208⟩,A780,H⟩ := Option.bind_eq_some_iff.mp H
                try dsimp only at H
                have A78 := Aside0.mk A780
                clear A780
                by_cases c79 : x163003_2.length < 17592186044416
                ·rw [if_pos c79] at H
                 have LMc79 := Aside0.mk c79
                 clear c79
                 obtain ⟨y209,hy209⟩ : ∃ y_ : List Int,y_ = (x163003_2 ++ [wrap64 ((wrap64 ((rd x8_3 0) * 2)) + (wrap64 (100 * t206)))]) := ⟨_,rfl⟩
                 replace H : (spec_l9Right.l0 k3 ji3 x5_8 false (wrap64 (x7_2 + 1)) s0_0 t207 t208 y159 (⟨#[121]⟩ : ByteArray) y190 y209) = some (r1,r2,r3,r4,r5,r6) := by first | (rw [hy209];with_reducible exact H) | (have H2_ := (Option.bind_some _ _).symm.trans H;rw [hy209];with_reducible exact H2_) | (have H2_ := (Option.bind_some _ _).symm.trans H;with_reducible exact H2_) | with_reducible exact H | (rw [hy209];exact H) | exact H
                 have Ny209 := Aside0.mk hy209
                 clear hy209
                 have H' := Aside0.mk H
                 clear H
                 have hnb80 := NB162_145.out
                 have hnc80 := NB145_162.out
                 have hnb81 := NB162_0.out
                 have hnc81 := NB0_162.out
                 obtain ⟨hcz82_0,hcz82_1,hcz82_2,hcz82_3,hfz82_0,hfz82_1,hfz82_2,hfz82_3⟩ := cells4 BK162.out
                 obtain ⟨Ao84,co84,eo84⟩ := Kd.R_slice HO_8.out
                 subst eo84
                 try go_wp2_with (first | ((with_reducible refine gate_builtin (b := .append) (xs := #[.tmp 55,.tmp 57]) rfl ?_);at_builtin;refine Kd.S_append (Kd.slice 3 (Kd.int .i64)) w.heap.size rfl (.tmp 55) (.tmp 57) 22 34 (.slice none 0 0) 24 rfl Try.underlying22 info34 rfl Z154 Z149 u163002 x163002_2 x8_3 [.slice Ao84 x8_3.length co84] (fun k_ => some k_ ≠ (u163003 : Value).ownBlock) (fun k_ => some k_ = (.slice Ao84 x8_3.length co84 : Value).ownBlock) rfl rfl ?aP (fun k_ hk_ => ((Kd.R_mono (ok' := fun k_ => ((fun k_ => some k_ ≠ (u163003 : Value).ownBlock)) k_ ∧ some k_ ≠ (u163002 : Value).ownBlock) (Kd.R_apart' (HO_8.out) (Kd.S_typed HO_163002.out) Z154) (fun k_ hk => ⟨hk.1,hk.2⟩))).1 k_ hk_.symm) ?aF ?aO (Below.refl _ _) ?aS ?aL ?_;(case aP => exact Z24);(case aF => exact Z53);(case aO => exact Z51);(case aS => exact Z27);(case aL => have := LMc45.out;omega);intro v191 w83 ho hb hg hat;rw [← Ny190.out] at ho;have n0_ := Aside0.mk (Kd.R_over' Z127 (Kd.S_typed Z129) Z154 hg);have nh_ := Aside0.mk (Kd.R_over' Z141 (Kd.S_typed Z129) Z154 hg);have n1_ := Aside0.mk (Kd.R_over' Z128 (Kd.S_typed Z129) Z154 hg);have n2_ := Aside0.mk (blk_grown (g := gb145) (o := .cells #[.slice none 0 0,.string (⟨#[]⟩ : ByteArray),.slice none 0 0,.slice none 0 0] 36 (0,0)) Z143 hg (Kd.S_ne HO_163002.out BK145.out Z154));have n3_ := Aside0.mk (blk_grown (g := gb162) (o := .cells #[.slice Ao19 y159.length co19,.string (⟨#[121]⟩ : ByteArray),u163002,u163003] 36 (0,0)) Z145 hg (Kd.S_ne HO_163002.out BK162.out Z154));have n4_ := Aside0.mk (IsS100.grown Z108 hg (IsS100.own_neS HI0.out HO_163002.out Z154));have n5_ := Aside0.mk (below_weaken Z110 HL.out hb);have n6_ := Aside0.mk (KeepBut.trans Z113 (KeepBut.of_grown hg g) (Kd.S_base2 HO_163002.out));have n7_ := Aside0.mk (ho);clear HO_163000;clear HO_163003;clear BK145;clear BK162;clear HI0;clear HB;clear HK;clear HO_163002;clear HO_8;have HO_163000 := n0_;(try clear HO_8);have HO_8 := nh_;clear nh_;have HO_163003 := n1_;have BK145 := n2_;have BK162 := n3_;have HI0 := n4_;have HB := n5_;have HK := n6_;have HO192 := n7_;clear n0_ n1_ n2_ n3_ n4_ n5_ n6_ n7_;clear ho hb hg hat;obtain ⟨Ao85,co85,eo85⟩ := Kd.S_slice HO192.out;subst eo85;obtain ⟨hcz86_0,hcz86_1,hcz86_2,hcz86_3,hfz86_0,hfz86_1,hfz86_2,hfz86_3⟩ := cells4 BK162.out) | ((with_reducible refine gate_callee (f := 91) rfl ?_);refine goesL_ (some 61) rfl rfl Try.func91 Z102 rfl #[.pointer (some ⟨g,0,none⟩)] rfl Z60 ?_;(with_reducible refine (spec_l6Small.calls g s0_0 x1001_3 x1002_3 t193 t194 t195 w0 _ ?side1 ?side2 A46.out).mono ?_);(case side1 => exact Z108);(case side2 => exact Z110);rintro e w87 ⟨rfl,hi,hb,hk⟩;refine ⟨_,rfl,?_⟩;have n0_ := Aside0.mk (Kd.R_mono (Kd.R_keep (IsS100.apart (show IsS100 w0 _ g s0_0 x1001_3 x1002_3 from Z108) (by (with_reducible repeat (first | apply Kd.R_alloc | apply Kd.R_drewN | apply Kd.R_drew));exact (Kd.R_mono (Kd.R_far (p := ⟨gb162,2,none⟩) (Kd.R_types HO_163000.out BK162.out Z154) (fun _ hk => hk.2) (.slice Ao85 y190.length co85)) (fun _ h_ => h_.1))) Z154) hk (fun _ h => h.2)) (fun _ h => h.1));have nh_ := Aside0.mk (Kd.R_mono (Kd.R_keep (IsS100.apart (show IsS100 w0 _ g s0_0 x1001_3 x1002_3 from Z108) (by (with_reducible repeat (first | apply Kd.R_alloc | apply Kd.R_drewN | apply Kd.R_drew));exact (Kd.R_mono (Kd.R_far (p := ⟨gb162,2,none⟩) (Kd.R_types HO_8.out BK162.out Z154) (fun _ hk => hk.2) (.slice Ao85 y190.length co85)) (fun _ h_ => h_.1))) Z154) hk (fun _ h => h.2)) (fun _ h => h.1));have n1_ := Aside0.mk (Kd.R_mono (Kd.R_keep (IsS100.apart (show IsS100 w0 _ g s0_0 x1001_3 x1002_3 from Z108) (by (with_reducible repeat (first | apply Kd.R_alloc | apply Kd.R_drewN | apply Kd.R_drew));exact (Kd.R_mono (Kd.R_far (p := ⟨gb162,2,none⟩) (Kd.R_types HO_163003.out BK162.out Z154) (fun _ hk => hk.2) (.slice Ao85 y190.length co85)) (fun _ h_ => h_.1))) Z154) hk (fun _ h => h.2)) (fun _ h => h.1));have n2_ := Aside0.mk (KeepBut.blk hk (g' := gb145) (o := .cells #[.slice none 0 0,.string (⟨#[]⟩ : ByteArray),.slice none 0 0,.slice none 0 0] 36 (0,0)) Z80 NB145_0.out Z150);have n3_ := Aside0.mk (KeepBut.blk hk (g' := gb162) (o := .cells #[.slice Ao19 y159.length co19,.string (⟨#[121]⟩ : ByteArray),.slice Ao85 y190.length co85,u163003] 36 (0,0)) Z54 NB162_0.out Z150);have n4_ := Aside0.mk (Kd.S_mono (Kd.S_keep (IsS100.apartS (show IsS100 w0 _ g s0_0 x1001_3 x1002_3 from Z108) (by (with_reducible repeat (first | apply Kd.S_alloc | apply Kd.S_drewN | apply Kd.S_drew));exact (Kd.S_mono (Kd.S_far (p := ⟨gb162,2,none⟩) (Kd.S_types HO192.out BK162.out Z154) (fun _ hk => hk.2) (.slice Ao85 y190.length co85)) (fun _ h_ => h_.1))) Z154) hk (fun _ h => h.2)) (fun _ h => h.1));have n5_ := Aside0.mk (KeepBut.trans Z113 hk (.inl rfl));have n6_ := Aside0.mk (hb);have n7_ := Aside0.mk (hi);clear HO_163000;clear HO_163003;clear BK145;clear BK162;clear HO192;clear HK;clear HB;clear HI0;have HO_163000 := n0_;(try clear HO_8);have HO_8 := nh_;clear nh_;have HO_163003 := n1_;have BK145 := n2_;have BK162 := n3_;have HO192 := n4_;have HK := n5_;have HB := n6_;have HI0 := n7_;clear n0_ n1_ n2_ n3_ n4_ n5_ n6_ n7_;(try clear hb);(try clear hb2);(try clear hk);(try clear hi)) | (go_at_call 90;(with_reducible refine (spec_l1Once.calls g s0_0 t194 t195 4 false t200 t201 w0 _ ?side1 ?side2 A61.out).mono ?_);(case side1 => exact Z108);(case side2 => exact Z110);rintro e w88 ⟨rfl,hi,hb,hk⟩;have n0_ := Aside0.mk (Kd.R_mono (Kd.R_keep (IsS100.apart (show IsS100 w0 _ g s0_0 t194 t195 from Z108) Z127 Z154) hk (fun _ h => h.2)) (fun _ h => h.1));have nh_ := Aside0.mk (Kd.R_mono (Kd.R_keep (IsS100.apart (show IsS100 w0 _ g s0_0 t194 t195 from Z108) Z141 Z154) hk (fun _ h => h.2)) (fun _ h => h.1));have n1_ := Aside0.mk (Kd.R_mono (Kd.R_keep (IsS100.apart (show IsS100 w0 _ g s0_0 t194 t195 from Z108) Z128 Z154) hk (fun _ h => h.2)) (fun _ h => h.1));have n2_ := Aside0.mk (KeepBut.blk hk (g' := gb145) (o := .cells #[.slice none 0 0,.string (⟨#[]⟩ : ByteArray),.slice none 0 0,.slice none 0 0] 36 (0,0)) Z143 NB145_0.out Z150);have n3_ := Aside0.mk (KeepBut.blk hk (g' := gb162) (o := .cells #[.slice Ao19 y159.length co19,.string (⟨#[121]⟩ : ByteArray),.slice Ao85 y190.length co85,u163003] 36 (0,0)) Z145 NB162_0.out Z150);have n4_ := Aside0.mk (Kd.S_mono (Kd.S_keep (IsS100.apartS (show IsS100 w0 _ g s0_0 t194 t195 from Z108) Z70 Z154) hk (fun _ h => h.2)) (fun _ h => h.1));have n5_ := Aside0.mk (KeepBut.trans Z113 hk (.inl rfl));have n6_ := Aside0.mk (hb);have n7_ := Aside0.mk (hi);clear HO_163000;clear HO_163003;clear BK145;clear BK162;clear HO192;clear HK;clear HB;clear HI0;have HO_163000 := n0_;(try clear HO_8);have HO_8 := nh_;clear nh_;have HO_163003 := n1_;have BK145 := n2_;have BK162 := n3_;have HO192 := n4_;have HK := n5_;have HB := n6_;have HI0 := n7_;clear n0_ n1_ n2_ n3_ n4_ n5_ n6_ n7_;(try clear hb);(try clear hb2);(try clear hk);(try clear hi)))
                 have n0_ := Aside0.mk (Kd.R_drew HO_163000.out);have nh_ := Aside0.mk (Kd.R_drew HO_8.out)
                 have n1_ := Aside0.mk (Kd.R_drew HO_163003.out)
                 have n2_ := Aside0.mk (Kd.S_drew HO192.out)
                 have n3_ := Aside0.mk (blk_drew BK145.out)
                 have n4_ := Aside0.mk (blk_drew BK162.out)
                 have n5_ := Aside0.mk (IsS100.drew HI0.out)
                 have n6_ := Aside0.mk (keep_drew HK.out)
                 have n7_ := Aside0.mk (below_drew1 HB.out)
                 clear HO_163000
                 clear HO_163003
                 clear HO192
                 clear BK145
                 clear BK162
                 clear HI0
                 clear HK
                 clear HB
                 have HO_163000 := n0_;(try clear HO_8);have HO_8 := nh_;clear nh_
                 have HO_163003 := n1_
                 have HO192 := n2_
                 have BK145 := n3_
                 have BK162 := n4_
                 have HI0 := n5_
                 have HK := n6_
                 have HB := n7_
                 clear n0_ n1_ n2_ n3_ n4_ n5_ n6_ n7_
                 have p205 : 0 ≤ (0 : Int) := Z149
                 have q205 : 0 < (x8_3.length : Int) := of_decide_eq_true Z85
                 obtain ⟨ad205,e205,hx205_0⟩ := Kd.at_int (Kd.R_reads' HO_8.out).2.2 0 p205 q205
                 cases e205
                 have qi205 : (0 < x8_3.length) = True := eq_true Z149
                 (try rw [show ((0 : Int)).toNat = 0 from rfl] at hx205_0)
                 (try rw [Addr.add_zero'] at hx205_0)
                 replace p205 := eq_true p205
                 replace q205 := eq_true q205
                 refine start_ (n := 9) (S := fun w' => w'.cell? ad205 = some (.int .i64 (rd x8_3 0))) (ds := []) #[false,false,false,false,false,false,false,false,false] Z102 rfl rfl (hx205_0) (fun hHeld => ?_);refine with_tabW spec_l9Right.tab21 spec_l9Right.bits21 (fun HT_ HW_ => ?_)
                 generalize w88.drew = w89 at HO_8 HO_163000 HO_163003 HO192 BK145 BK162 HI0 HK HB hx205_0 hHeld ⊢
                 refine pure_ (i := 0) (N := some 69) (v := ?_) (a' := ?_) #[true,false,false,false,false,false,false,false,false] rfl rfl (any_of HT_.out Z102) (fun _ _ _ h => h) (Or.inl ⟨Z103,?_⟩) ?_ ?_
                 rotate_left
                 ·intro w'
                  go_simp
                  with_reducible rfl
                 rotate_left
                 ·simp only [Act.put,List.setIfInBounds_toArray,List.set_cons_zero,List.set_cons_succ,i64_w,i32_w]
                  rfl
                 refine pure_ (i := 1) (N := some 70) (v := ?_) (a' := ?_) #[true,true,false,false,false,false,false,false,false] rfl rfl (any_of HT_.out Z102) (fun _ _ _ h => h) (Or.inl ⟨Z103,?_⟩) ?_ ?_
                 rotate_left
                 ·intro w'
                  go_simp
                  with_reducible rfl
                 rotate_left
                 ·simp only [Act.put,List.setIfInBounds_toArray,List.set_cons_zero,List.set_cons_succ,i64_w,i32_w]
                  rfl
                 refine pure_ (i := 4) (N := some 73) (v := ?_) (a' := ?_) #[true,true,false,false,true,false,false,false,false] rfl rfl (any_of HT_.out Z102) (fun _ _ _ h => h) (Or.inl ⟨Z103,?_⟩) ?_ ?_
                 rotate_left
                 ·intro w'
                  go_simp
                  with_reducible rfl
                 rotate_left
                 ·simp only [Act.put,List.setIfInBounds_toArray,List.set_cons_zero,List.set_cons_succ,i64_w,i32_w]
                  rfl
                 refine take_ (i := 2) (N := some 71) (v := ?_) (a' := ?_) #[true,true,true,false,true,false,false,false,false] rfl rfl (take_ofW HT_.out HW_.out Z102) (fun _ _ _ h => h) (Or.inl ⟨Z103,?_⟩) hHeld ?_ ?_
                 rotate_left
                 ·intro w' s0
                  go_simp
                  with_reducible rfl
                 rotate_left
                 ·simp only [Act.put,List.setIfInBounds_toArray,List.set_cons_zero,List.set_cons_succ,i64_w,i32_w]
                  rfl
                 refine pure_ (i := 3) (N := some 72) (v := ?_) (a' := ?_) #[true,true,true,true,true,false,false,false,false] rfl rfl (any_of HT_.out Z102) (fun _ _ _ h => h) (Or.inl ⟨Z103,?_⟩) ?_ ?_
                 rotate_left
                 ·intro w'
                  go_simp
                  with_reducible rfl
                 rotate_left
                 ·simp only [Act.put,List.setIfInBounds_toArray,List.set_cons_zero,List.set_cons_succ,i64_w,i32_w]
                  rfl
                 refine one_ (i := 5) (N := some 74) #[true,true,true,true,true,true,false,false,false] rfl rfl (one_of HT_.out Z102) Z154 (fun K hK => ?_)
                 refine goes_ Try.func76 Z102 rfl #[.pointer (some ⟨g,0,none⟩),.int .i64 5] Z103 rfl rfl Z60 ?_
                 with_reducible refine (spec_l1Below.calls g s0_0 t200 t201 5 t206 t207 t208 w0 _ ?side1 ?side2 A78.out).mono ?_
                 (case side1 => exact Z108)
                 (case side2 => exact Z110)
                 rintro e w90 ⟨rfl,hi,hb,hk⟩
                 have HS0_ := keep_cell hk (hHeld) (by first | (rw [add_block];exact Kd.own_blk (IsS100.own_ne HI0.out HO_8.out Z154)) | (show (Addr.add _ _).block ≠ _;rw [add_block];exact Kd.own_blk (IsS100.own_ne HI0.out HO_8.out Z154)) | exact Kd.own_blk (IsS100.own_ne HI0.out HO_8.out Z154))
                 refine ⟨_,rfl,?_⟩
                 have n0_ := Aside0.mk (Kd.R_mono (Kd.R_keep (IsS100.apart (show IsS100 w0 _ g s0_0 t200 t201 from Z108) Z127 Z154) hk (fun _ h => h.2)) (fun _ h => h.1))
                 have n1_ := Aside0.mk (Kd.R_mono (Kd.R_keep (IsS100.apart (show IsS100 w0 _ g s0_0 t200 t201 from Z108) Z128 Z154) hk (fun _ h => h.2)) (fun _ h => h.1))
                 have n2_ := Aside0.mk (KeepBut.blk hk (g' := gb145) (o := .cells #[.slice none 0 0,.string (⟨#[]⟩ : ByteArray),.slice none 0 0,.slice none 0 0] 36 (0,0)) Z143 NB145_0.out Z150)
                 have n3_ := Aside0.mk (KeepBut.blk hk (g' := gb162) (o := .cells #[.slice Ao19 y159.length co19,.string (⟨#[121]⟩ : ByteArray),.slice Ao85 y190.length co85,u163003] 36 (0,0)) Z145 NB162_0.out Z150)
                 have n4_ := Aside0.mk (Kd.S_mono (Kd.S_keep (IsS100.apartS (show IsS100 w0 _ g s0_0 t200 t201 from Z108) Z70 Z154) hk (fun _ h => h.2)) (fun _ h => h.1))
                 have n5_ := Aside0.mk (KeepBut.trans Z113 hk (.inl rfl))
                 have n6_ := Aside0.mk (hb)
                 have n7_ := Aside0.mk (hi)
                 clear HO_163000
                 clear HO_163003
                 clear BK145
                 clear BK162
                 clear HO192
                 clear HK
                 clear HB
                 clear HI0
                 have HO_163000 := n0_
                 have HO_163003 := n1_
                 have BK145 := n2_
                 have BK162 := n3_
                 have HO192 := n4_
                 have HK := n5_
                 have HB := n6_
                 have HI0 := n7_
                 clear n0_ n1_ n2_ n3_ n4_ n5_ n6_ n7_
                 (try clear hb)
                 (try clear hb2)
                 (try clear hk)
                 (try clear hi)
                 refine hK.out _ _ (HS0_) (fun hHeld => ?_)
                 clear hK K
                 refine norm_ (a' := ?_) ?_ ?_
                 rotate_left
                 ·show Act.put _ (some 74) _ = _
                  simp only [Act.put,List.setIfInBounds_toArray,List.set_cons_zero,List.set_cons_succ,i64_w,i32_w]
                  rfl
                 refine pure_ (i := 6) (N := some 75) (v := ?_) (a' := ?_) #[true,true,true,true,true,true,true,false,false] rfl rfl (any_of HT_.out Z102) (fun _ _ _ h => h) (Or.inl ⟨Z103,?_⟩) ?_ ?_
                 rotate_left
                 ·intro w'
                  go_simp
                  with_reducible rfl
                 rotate_left
                 ·simp only [Act.put,List.setIfInBounds_toArray,List.set_cons_zero,List.set_cons_succ,i64_w,i32_w]
                  rfl
                 refine pure_ (i := 7) (N := some 76) (v := ?_) (a' := ?_) #[true,true,true,true,true,true,true,true,false] rfl rfl (any_of HT_.out Z102) (fun _ _ _ h => h) (Or.inl ⟨Z103,?_⟩) ?_ ?_
                 rotate_left
                 ·intro w'
                  go_simp
                  with_reducible rfl
                 rotate_left
                 ·simp only [Act.put,List.setIfInBounds_toArray,List.set_cons_zero,List.set_cons_succ,i64_w,i32_w]
                  rfl
                 refine pure_ (i := 8) (N := some 11) (v := ?_) (a' := ?_) #[true,true,true,true,true,true,true,true,true] rfl rfl (any_of HT_.out Z102) (fun _ _ _ h => h) (Or.inl ⟨Z103,?_⟩) ?_ ?_
                 rotate_left
                 ·intro w'
                  go_simp
                  with_reducible rfl
                 rotate_left
                 ·simp only [Act.put,List.setIfInBounds_toArray,List.set_cons_zero,List.set_cons_succ,i64_w,i32_w]
                  rfl
                 refine done_ (done_of HT_.out Z102) ?_
                 obtain ⟨hcz91_0,hcz91_1,hcz91_2,hcz91_3,hfz91_0,hfz91_1,hfz91_2,hfz91_3⟩ := cells4 BK162.out
                 try go_wp2_with (first | ((with_reducible refine gate_builtin (b := .append) (xs := #[.tmp 78,.tmp 80]) rfl ?_);at_builtin;refine Kd.R_append (Kd.int .i64) w.heap.size rfl (.tmp 78) (.tmp 80) 34 3 (.int .i64 0) 8 rfl Try.underlying34 info3 rfl Z154 Z149 u163003 x163003_2 (wrap64 ((wrap64 ((rd x8_3 0) * 2)) + (wrap64 (100 * t206)))) [.int .i64 (wrap64 ((wrap64 ((rd x8_3 0) * 2)) + (wrap64 (100 * t206))))] (fun _ => True) (fun _ => False) rfl rfl ?aP (fun _ hk => hk.elim) ?aF ?aO (Below.refl _ _) ?aS ?aL ?_;(case aP => exact rfl);(case aF => exact Z98);(case aO => exact Z56);(case aS => exact Z27);(case aL => have := LMc79.out;omega);intro v210 w92 ho hb hg hat;rw [← Ny209.out] at ho;have n_ := jA (Kd.R_over' Z127 (Kd.R_typed Z128) Z154 hg) (jA (blk_grown (g := gb145) (o := .cells #[.slice none 0 0,.string (⟨#[]⟩ : ByteArray),.slice none 0 0,.slice none 0 0] 36 (0,0)) Z143 hg (Kd.R_ne HO_163003.out BK145.out Z154)) (jA (blk_grown (g := gb162) (o := .cells #[.slice Ao19 y159.length co19,.string (⟨#[121]⟩ : ByteArray),.slice Ao85 y190.length co85,u163003] 36 (0,0)) Z145 hg (Kd.R_ne HO_163003.out BK162.out Z154)) (jA (IsS100.grown Z108 hg (IsS100.own_ne HI0.out HO_163003.out Z154)) (jA (Kd.S_after (ok := (fun _ => True)) Z57 hg hat) (jA (below_weaken Z110 HL.out hb) (jA (KeepBut.trans Z113 (KeepBut.of_grown hg g) (Kd.R_base2 HO_163003.out)) (Aside0.mk (ho))))))));clear HO_163000 BK145 BK162 HI0 HO192 HB HK HO_163003;obtain ⟨HO_163000,BK145,BK162,HI0,HO192,HB,HK,HO211⟩ := n_;clear ho hb hg hat;obtain ⟨Ao93,co93,eo93⟩ := Kd.R_slice HO211.out;subst eo93;obtain ⟨hcz94_0,hcz94_1,hcz94_2,hcz94_3,hfz94_0,hfz94_1,hfz94_2,hfz94_3⟩ := cells4 BK162.out))
                 go_roundg k3
                 case measure => have := HJ8.out;have := HK2.out;have := HK3.out;omega
                 case rel => exact ⟨(wrap64 (x7_2 + 1)),(t207),(t208),(y190),(y209),(.slice Ao85 y190.length co85),(.slice Ao93 y209.length co93),Z86,H',⟨Z83⟩,⟨by (with_reducible repeat (first | apply Kd.R_alloc | apply Kd.R_drewN | apply Kd.R_drew));exact Kd.R_mono (Kd.R_far (p := ⟨gb162,3,none⟩) (Kd.R_types HO_163000.out BK162.out Z154) (fun _ hk => hk.2) (.slice Ao93 y209.length co93)) (fun _ hk => trivial)⟩,⟨by (with_reducible repeat (first | apply Kd.S_alloc | apply Kd.S_drewN | apply Kd.S_drew));exact Kd.S_mono (Kd.S_far (p := ⟨gb162,3,none⟩) (Kd.S_types HO192.out BK162.out Z154) (fun _ hk => hk.2) (.slice Ao93 y209.length co93)) (fun _ hk => hk.1.2)⟩,⟨by (with_reducible repeat (first | apply Kd.R_alloc | apply Kd.R_drewN | apply Kd.R_drew));exact Kd.R_mono (Kd.R_far (p := ⟨gb162,3,none⟩) (Kd.R_types HO211.out BK162.out Z154) (fun _ hk => hk.2) (.slice Ao93 y209.length co93)) (fun _ hk => trivial)⟩,⟨Z80⟩,⟨by refine bP ?_;refine blk_put (cs := #[.slice Ao19 y159.length co19,.string (⟨#[121]⟩ : ByteArray),.slice Ao85 y190.length co85,u163003]) ?_ 3 _ rfl;refine bP ?_;exact BK162.out⟩,⟨Z108⟩,⟨Z113⟩,⟨Z110⟩⟩
                ·rw [if_neg c79] at H
                 exact absurd H Z150
               ·rw [if_neg c77] at H
                exact absurd H Z150
            ·rw [if_neg c45] at H
             exact absurd H Z150
        ·rw [if_neg c31] at H
         have c31b0 : decide (x7_2 < x5_8) = false := decide_eq_false c31
         clear c31
         simp only [Option.some.injEq,Prod.mk.injEq] at H
         obtain ⟨rfl,rfl,rfl,rfl,rfl,rfl⟩ := H
         have hnb95 := NB162_145.out
         have hnc95 := NB145_162.out
         have hnb96 := NB162_0.out
         have hnc96 := NB0_162.out
         obtain ⟨hcz97_0,hcz97_1,hcz97_2,hcz97_3,hfz97_0,hfz97_1,hfz97_2,hfz97_3⟩ := cells4 BK162.out
         have hnb98 := NB145_0.out
         have hnc98 := NB0_145.out
         obtain ⟨hcz99_0,hcz99_1,hcz99_2,hcz99_3,hfz99_0,hfz99_1,hfz99_2,hfz99_3⟩ := cells4 BK145.out
         obtain ⟨Ao100,co100,eo100⟩ := Kd.S_slice HO_163002.out
         subst eo100
         obtain ⟨Ao101,co101,eo101⟩ := Kd.R_slice HO_163003.out
         subst eo101
         go_wp2
         refine bodyPost_ret (results_cell_row rfl _ _ gb145 36 #[.slice Ao19 y159.length co19,.string (⟨#[121]⟩ : ByteArray),.slice Ao100 x163002_2.length co100,.slice Ao101 x163003_2.length co101] (0,0) _ rfl (by refine bP ?_;refine blk_put (cs := #[.slice Ao19 y159.length co19,.string (⟨#[121]⟩ : ByteArray),.slice Ao100 x163002_2.length co100,.slice none 0 0]) ?_ 3 _ rfl;refine bP ?_;refine blk_put (cs := #[.slice Ao19 y159.length co19,.string (⟨#[121]⟩ : ByteArray),.slice none 0 0,.slice none 0 0]) ?_ 2 _ rfl;refine bP ?_;refine blk_put (cs := #[.slice Ao19 y159.length co19,.string (⟨#[]⟩ : ByteArray),.slice none 0 0,.slice none 0 0]) ?_ 1 _ rfl;refine bP ?_;refine blk_put (cs := #[.slice none 0 0,.string (⟨#[]⟩ : ByteArray),.slice none 0 0,.slice none 0 0]) ?_ 0 _ rfl;refine bP ?_;exact BK145.out) Try.underlying36 rfl Z102) rfl ?_
         exact ⟨_,_,_,by first | rfl | (simp [errW_none,errW_some] <;> rfl) | (simp only [← hji3];first | rfl | (simp [errW_none,errW_some] <;> rfl)) | (simp [*,errW_none,errW_some] <;> rfl),by (with_reducible repeat (first | apply Kd.R_alloc | apply Kd.R_drewN | apply Kd.R_drew));exact Kd.R_mono (Kd.R_far (p := ⟨gb145,3,none⟩) (Kd.R_far (p := ⟨gb145,2,none⟩) (Kd.R_far (p := ⟨gb145,1,none⟩) (Kd.R_far (p := ⟨gb145,0,none⟩) (Kd.R_types HO_163000.out BK145.out Z154) (fun _ hk => hk.2) (.slice Ao19 y159.length co19)) (fun _ hk => hk.2) (.string (⟨#[121]⟩ : ByteArray))) (fun _ hk => hk.2) (.slice Ao100 x163002_2.length co100)) (fun _ hk => hk.2) (.slice Ao101 x163003_2.length co101)) (fun _ hk => trivial),by (with_reducible repeat (first | apply Kd.S_alloc | apply Kd.S_drewN | apply Kd.S_drew));exact Kd.S_mono (Kd.S_far (p := ⟨gb145,3,none⟩) (Kd.S_far (p := ⟨gb145,2,none⟩) (Kd.S_far (p := ⟨gb145,1,none⟩) (Kd.S_far (p := ⟨gb145,0,none⟩) (Kd.S_types HO_163002.out BK145.out Z154) (fun _ hk => hk.2) (.slice Ao19 y159.length co19)) (fun _ hk => hk.2) (.string (⟨#[121]⟩ : ByteArray))) (fun _ hk => hk.2) (.slice Ao100 x163002_2.length co100)) (fun _ hk => hk.2) (.slice Ao101 x163003_2.length co101)) (fun _ hk => hk.1),by (with_reducible repeat (first | apply Kd.R_alloc | apply Kd.R_drewN | apply Kd.R_drew));exact Kd.R_mono (Kd.R_far (p := ⟨gb145,3,none⟩) (Kd.R_far (p := ⟨gb145,2,none⟩) (Kd.R_far (p := ⟨gb145,1,none⟩) (Kd.R_far (p := ⟨gb145,0,none⟩) (Kd.R_types HO_163003.out BK145.out Z154) (fun _ hk => hk.2) (.slice Ao19 y159.length co19)) (fun _ hk => hk.2) (.string (⟨#[121]⟩ : ByteArray))) (fun _ hk => hk.2) (.slice Ao100 x163002_2.length co100)) (fun _ hk => hk.2) (.slice Ao101 x163003_2.length co101)) (fun _ hk => trivial),Z108,Z110,Z113⟩
   ·rw [if_neg c6] at H
    exact absurd H Z150
  ·rw [if_neg c5] at H
   exact absurd H Z150
 ·rw [if_neg c4] at H
  exact absurd H Z150

/-! ### spec_l1Pick: function 77 -/
def spec_l1Pick.f (s0_0 : List Int) (s0_1 : Int) (s0_2 : Int) (l1 : List ByteArray) : Option (ByteArray × Int × Int) := (spec_l1Below.f s0_0 s0_1 s0_2 (l1.length : Int)).bind fun bt212 => (if 0 ≤ bt212.1 then (if bt212.1 < (l1.length : Int) then (some (rdOf ByteArray.empty l1 bt212.1,bt212.2.1,bt212.2.2)) else (none)) else (none))
set_option maxHeartbeats 8000000 in
set_option maxRecDepth 100000 in
theorem spec_l1Pick.calls (g : Nat) (s0_0 : List Int) (s0_1 : Int) (s0_2 : Int) (A1 : Option Addr) (c1 : Nat) (l1 : List ByteArray) (r1 : ByteArray) (r2 : Int) (r3 : Int) (w0 w : World) (hI : IsS100 w0 w g s0_0 s0_1 s0_2) (hB : Below w0.heap.size w0 w) (hr1 : Kd.C Kd.string w A1 l1.length l1) (hc1 : l1.length ≤ c1) (hf1 : ∀ ad,A1 = some ad → 0 < l1.length → ad.block ≠ g) (h : spec_l1Pick.f s0_0 s0_1 s0_2 l1 = some (r1,r2,r3)) :
  Calls Try.prog 77 #[.pointer (some ⟨g,0,none⟩),.slice A1 l1.length c1] w fun e w' => e = .returned (.string r1) ∧ IsS100 w0 w' g s0_0 r2 r3 ∧ Below w0.heap.size w0 w' ∧ KeepBut w w' g none := by
 have HR1 := Aside0.mk hr1
 have HC1 := Aside0.mk hc1
 clear hr1 hc1
 have HI0 := Aside0.mk hI
 have HK := Aside0.mk (KeepBut.refl w g none)
 have HL := Aside0.mk hB.size
 clear hI
 have HW0 := Aside0.mk hB.size
 have HB := Aside0.mk hB
 clear hB
 have H := h
 clear h
 unfold spec_l1Pick.f at H
 obtain ⟨⟨t212,t213,t214⟩,A30,H⟩ := Option.bind_eq_some_iff.mp H
 try dsimp only at H
 have A3 := Aside0.mk A30
 clear A30
 by_cases c4 : 0 ≤ t212
 ·rw [if_pos c4] at H
  have c4b0 : decide (0 ≤ t212) = true := decide_eq_true c4
  clear c4
  by_cases c5 : t212 < (l1.length : Int)
  ·rw [if_pos c5] at H
   have c5b0 : decide (t212 < (l1.length : Int)) = true := decide_eq_true c5
   clear c5
   simp only [Option.some.injEq,Prod.mk.injEq] at H
   obtain ⟨rfl,rfl,rfl⟩ := H
   go_enter Try.func77,Try.ntmps77
   go_wp2_with (first | ((with_reducible refine gate_callee (f := 76) rfl ?_);refine goesL_ (some 9) rfl rfl Try.func76 Z102 rfl #[.pointer (some ⟨g,0,none⟩),.int .i64 (l1.length : Int)] rfl Z60 ?_;(with_reducible refine (spec_l1Below.calls g s0_0 s0_1 s0_2 (l1.length : Int) t212 t213 t214 w0 _ ?side1 ?side2 A3.out).mono ?_);(case side1 => exact Z118);(case side2 => exact Z119);rintro e wq1 ⟨rfl,hi,hb,hk⟩;refine ⟨_,rfl,?_⟩;have n_ := Z33;clear HK HB HI0;obtain ⟨HK,HB,HI0⟩ := n_;(try clear hb);(try clear hb2);(try clear hk);(try clear hi);have pq2 : 0 ≤ (t212 : Int) := of_decide_eq_true Z85;have qq2 : t212 < (l1.length : Int) := of_decide_eq_true Z85;obtain ⟨adq2,eq2,hxq2_0⟩ := Kd.at_string HR1.out t212 pq2 qq2;cases eq2;replace hxq2_0 := keep_cell HK.out hxq2_0 Z63;replace pq2 := eq_true pq2;replace qq2 := eq_true qq2))
   go_ret
   exact ⟨Z77,Z118,Z119,Z152⟩
  ·rw [if_neg c5] at H
   exact absurd H Z150
 ·rw [if_neg c4] at H
  exact absurd H Z150

end Go.Proofs.Ytiacoiiapmfaeaa.QFnColumn
