/- The machine side of FnSideValues: what each Go function that it reaches comes to. Conditions: none. -/
import Derived.Test.YtohngimlmcdiiaaQFnSideValuesx0
import Derived.Test.YtohngimlmcdiiaaQFnSideValuesx2
import Derived.Test.YtohngimlmcdiiaaQFnSideValuesx3
namespace Go.Proofs.Ytohngimlmcdiiaa.QFnSideValues
open Go.RowKit Go.Proofs.YtohngimlmcdiiaaW.PrintWords Go.Proofs.YtohngimlmcdiiaaW.PrintLast Go.Proofs.YtohngimlmcdiiaaW.PrintMore
attribute [local go_sem] max2_int min2_int max_two min_two max_three min_three max_four min_four   -- for this text's walks alone
set_option linter.unusedVariables false
set_option linter.unusedSimpArgs false

/-! ### spec_l8Right: function 138 -/
theorem spec_l8Right.cells8 {w : World} {g : Nat} {t : TypeId} {a0 a1 a2 a3 a4 a5 a6 a7 : Value} (h : w.heap[g]? = some (.cells #[a0,a1,a2,a3,a4,a5,a6,a7] t (0,0))) : w.cell? ⟨g,0,none⟩ = some a0 ∧ w.cell? ⟨g,1,none⟩ = some a1 ∧ w.cell? ⟨g,2,none⟩ = some a2 ∧ w.cell? ⟨g,3,none⟩ = some a3 ∧ w.cell? ⟨g,4,none⟩ = some a4 ∧ w.cell? ⟨g,5,none⟩ = some a5 ∧ w.cell? ⟨g,6,none⟩ = some a6 ∧ w.cell? ⟨g,7,none⟩ = some a7 ∧ w.frozen? ⟨g,0,none⟩ = false ∧ w.frozen? ⟨g,1,none⟩ = false ∧ w.frozen? ⟨g,2,none⟩ = false ∧ w.frozen? ⟨g,3,none⟩ = false ∧ w.frozen? ⟨g,4,none⟩ = false ∧ w.frozen? ⟨g,5,none⟩ = false ∧ w.frozen? ⟨g,6,none⟩ = false ∧ w.frozen? ⟨g,7,none⟩ = false := ⟨(blk_cell h 0).trans rfl,(blk_cell h 1).trans rfl,(blk_cell h 2).trans rfl,(blk_cell h 3).trans rfl,(blk_cell h 4).trans rfl,(blk_cell h 5).trans rfl,(blk_cell h 6).trans rfl,(blk_cell h 7).trans rfl,blk_frozen h 0,blk_frozen h 1,blk_frozen h 2,blk_frozen h 3,blk_frozen h 4,blk_frozen h 5,blk_frozen h 6,blk_frozen h 7⟩
mutual
def spec_l8Right.j0 : Nat → List Int → Int → Int → Int → Int → Int → Int → Int → Int → Int → Option (Int × Int × Int × Int × Int × Int × Int × List Int × Int × Int)
  | 0,_,_,_,_,_,_,_,_,_,_ => none
  | k + 1,x1000,x1001,x1002,x225000,x225001,x225002,x225003,x225004,x225005,x225006 => (spec_l1Once.f x1000 x1001 x1002 4).bind fun bt231 => (if bt231.1 = true then ((spec_l1Below.f x1000 bt231.2.1 bt231.2.2 x225006).bind fun bt234 => (spec_l8Right.j1 k x1000 bt234.2.1 bt234.2.2 x225000 x225001 x225002 x225003 x225004 (wrap64 (1 + bt234.1)) x225006)) else (spec_l8Right.j1 k x1000 bt231.2.1 bt231.2.2 x225000 x225001 x225002 x225003 x225004 x225005 x225006))
def spec_l8Right.j1 : Nat → List Int → Int → Int → Int → Int → Int → Int → Int → Int → Int → Option (Int × Int × Int × Int × Int × Int × Int × List Int × Int × Int)
  | 0,_,_,_,_,_,_,_,_,_,_ => none
  | k + 1,x1000,x1001,x1002,x225000,x225001,x225002,x225003,x225004,x225005,x225006 => (spec_l1Below.f x1000 x1001 x1002 5).bind fun bt237 => (spec_l8Right.l0 k bt237.1 0 x1000 bt237.2.1 bt237.2.2 x225000 x225001 x225002 x225003 x225004 x225005 x225006 ([] : List Int))
def spec_l8Right.l0 : Nat → Int → Int → List Int → Int → Int → Int → Int → Int → Int → Int → Int → Int → List Int → Option (Int × Int × Int × Int × Int × Int × Int × List Int × Int × Int)
  | 0,_,_,_,_,_,_,_,_,_,_,_,_,_ => none
  | k + 1,x4,x5,x1000,x1001,x1002,x225000,x225001,x225002,x225003,x225004,x225005,x225006,x225007 => if x5 < x4 then ((spec_l1Below.f x1000 x1001 x1002 3).bind fun bt240 => (if x225007.length < 17592186044416 then (spec_l8Right.l0 k x4 (wrap64 (x5 + 1)) x1000 bt240.2.1 bt240.2.2 x225000 x225001 x225002 x225003 x225004 x225005 x225006 (x225007 ++ [wrap64 (bt240.1 - 1)])) else (none))) else (some (x225000,x225001,x225002,x225003,x225004,x225005,x225006,x225007,x1001,x1002))
end
def spec_l8Right.f (k : Nat) (s0_0 : List Int) (s0_1 : Int) (s0_2 : Int) : Option (Int × Int × Int × Int × Int × Int × Int × List Int × Int × Int) := (spec_l1Below.f s0_0 s0_1 s0_2 4).bind fun bt206 => ((spec_l1Below.f s0_0 bt206.2.1 bt206.2.2 4).bind fun bt209 => ((spec_l1Below.f s0_0 bt209.2.1 bt209.2.2 5).bind fun bt212 => ((spec_l1Below.f s0_0 bt212.2.1 bt212.2.2 3).bind fun bt215 => ((spec_l1Below.f s0_0 bt215.2.1 bt215.2.2 3).bind fun bt218 => ((spec_l1Below.f s0_0 bt218.2.1 bt218.2.2 3).bind fun bt221 => ((spec_l1Once.f s0_0 bt221.2.1 bt221.2.2 8).bind fun bt225 => (if bt225.1 = true then ((spec_l1Below.f s0_0 bt225.2.1 bt225.2.2 100).bind fun bt228 => (spec_l8Right.j0 k s0_0 bt228.2.1 bt228.2.2 (wrap64 (1 + bt206.1)) bt209.1 (wrap64 (2 + bt212.1)) (wrap64 (1 + bt228.1)) (wrap64 (1 + bt218.1)) 1 (wrap64 (1 + bt221.1)))) else (spec_l8Right.j0 k s0_0 bt225.2.1 bt225.2.2 (wrap64 (1 + bt206.1)) bt209.1 (wrap64 (2 + bt212.1)) (wrap64 (1 + bt215.1)) (wrap64 (1 + bt218.1)) 1 (wrap64 (1 + bt221.1))))))))))
theorem spec_l8Right.mono_l : ∀ k,(∀ y0 y1 y2 y3 y4 y5 y6 y7 y8 y9,LeO (spec_l8Right.j0 k y0 y1 y2 y3 y4 y5 y6 y7 y8 y9) (spec_l8Right.j0 (k + 1) y0 y1 y2 y3 y4 y5 y6 y7 y8 y9)) ∧ (∀ y0 y1 y2 y3 y4 y5 y6 y7 y8 y9,LeO (spec_l8Right.j1 k y0 y1 y2 y3 y4 y5 y6 y7 y8 y9) (spec_l8Right.j1 (k + 1) y0 y1 y2 y3 y4 y5 y6 y7 y8 y9)) ∧ (∀ y0 y1 y2 y3 y4 y5 y6 y7 y8 y9 y10 y11 y12,LeO (spec_l8Right.l0 k y0 y1 y2 y3 y4 y5 y6 y7 y8 y9 y10 y11 y12) (spec_l8Right.l0 (k + 1) y0 y1 y2 y3 y4 y5 y6 y7 y8 y9 y10 y11 y12))
  | 0 => ⟨fun _ _ _ _ _ _ _ _ _ _ r h => by simp [spec_l8Right.j0] at h,fun _ _ _ _ _ _ _ _ _ _ r h => by simp [spec_l8Right.j1] at h,fun _ _ _ _ _ _ _ _ _ _ _ _ _ r h => by simp [spec_l8Right.l0] at h⟩
  | k + 1 => by
    obtain ⟨ih0,ih1,ih2⟩ := spec_l8Right.mono_l k
    refine ⟨?_,?_,?_⟩
    · intro y0 y1 y2 y3 y4 y5 y6 y7 y8 y9
      unfold spec_l8Right.j0
      repeat' first
      | (with_reducible exact ih0 _ _ _ _ _ _ _ _ _ _)
      | (with_reducible exact ih1 _ _ _ _ _ _ _ _ _ _)
      | (with_reducible exact ih2 _ _ _ _ _ _ _ _ _ _ _ _ _)
      | (with_reducible exact LeO.refl _)
      | (with_reducible exact LeO.none _)
      | (with_reducible refine LeO.ite ?_ ?_)
      | (with_reducible refine LeO.bind ?_ (fun _ => ?_))
      | exact ih0 _ _ _ _ _ _ _ _ _ _
      | exact ih1 _ _ _ _ _ _ _ _ _ _
      | exact ih2 _ _ _ _ _ _ _ _ _ _ _ _ _
      | exact LeO.none _
      | refine LeO.ite ?_ ?_
      | refine LeO.bind ?_ (fun _ => ?_)
    · intro y0 y1 y2 y3 y4 y5 y6 y7 y8 y9
      unfold spec_l8Right.j1
      repeat' first
      | (with_reducible exact ih0 _ _ _ _ _ _ _ _ _ _)
      | (with_reducible exact ih1 _ _ _ _ _ _ _ _ _ _)
      | (with_reducible exact ih2 _ _ _ _ _ _ _ _ _ _ _ _ _)
      | (with_reducible exact LeO.refl _)
      | (with_reducible exact LeO.none _)
      | (with_reducible refine LeO.ite ?_ ?_)
      | (with_reducible refine LeO.bind ?_ (fun _ => ?_))
      | exact ih0 _ _ _ _ _ _ _ _ _ _
      | exact ih1 _ _ _ _ _ _ _ _ _ _
      | exact ih2 _ _ _ _ _ _ _ _ _ _ _ _ _
      | exact LeO.none _
      | refine LeO.ite ?_ ?_
      | refine LeO.bind ?_ (fun _ => ?_)
    · intro y0 y1 y2 y3 y4 y5 y6 y7 y8 y9 y10 y11 y12
      unfold spec_l8Right.l0
      repeat' first
      | (with_reducible exact ih0 _ _ _ _ _ _ _ _ _ _)
      | (with_reducible exact ih1 _ _ _ _ _ _ _ _ _ _)
      | (with_reducible exact ih2 _ _ _ _ _ _ _ _ _ _ _ _ _)
      | (with_reducible exact LeO.refl _)
      | (with_reducible exact LeO.none _)
      | (with_reducible refine LeO.ite ?_ ?_)
      | (with_reducible refine LeO.bind ?_ (fun _ => ?_))
      | exact ih0 _ _ _ _ _ _ _ _ _ _
      | exact ih1 _ _ _ _ _ _ _ _ _ _
      | exact ih2 _ _ _ _ _ _ _ _ _ _ _ _ _
      | exact LeO.none _
      | refine LeO.ite ?_ ?_
      | refine LeO.bind ?_ (fun _ => ?_)
theorem spec_l8Right.mono : ∀ a0 a1 a2 k,LeO (spec_l8Right.f k a0 a1 a2) (spec_l8Right.f (k + 1) a0 a1 a2) := by
  intro a0 a1 a2 k
  obtain ⟨ih0,ih1,ih2⟩ := spec_l8Right.mono_l k
  unfold spec_l8Right.f
  repeat' first
      | (with_reducible exact ih0 _ _ _ _ _ _ _ _ _ _)
      | (with_reducible exact ih1 _ _ _ _ _ _ _ _ _ _)
      | (with_reducible exact ih2 _ _ _ _ _ _ _ _ _ _ _ _ _)
      | (with_reducible exact LeO.refl _)
      | (with_reducible exact LeO.none _)
      | (with_reducible refine LeO.ite ?_ ?_)
      | (with_reducible refine LeO.bind ?_ (fun _ => ?_))
      | exact ih0 _ _ _ _ _ _ _ _ _ _
      | exact ih1 _ _ _ _ _ _ _ _ _ _
      | exact ih2 _ _ _ _ _ _ _ _ _ _ _ _ _
      | exact LeO.none _
      | refine LeO.ite ?_ ?_
      | refine LeO.bind ?_ (fun _ => ?_)
def spec_l8Right.T10 : Bool × List (List Nat × List Nat) := (true,[([],[]),([0],[0]),([],[]),([2],[2]),([3],[3]),([4],[4]),([1,5,3],[1,5]),([0,1,2,3,4,5,6],[]),([7,6,6,0,1,2,3,4,5,6],[6,7])])
def spec_l8Right.B10 : List Nat := [0,1,0,4,12,28,63,127,255]
theorem spec_l8Right.tab10 : rtab .any (opsOf Try.f138 10) = spec_l8Right.T10 := by kernel_rfl
theorem spec_l8Right.bits10 : waitsOk spec_l8Right.T10.2 spec_l8Right.B10 = true := by kernel_rfl
set_option maxHeartbeats 8000000 in
set_option maxRecDepth 100000 in
theorem spec_l8Right.calls (k : Nat) (g : Nat) (s0_0 : List Int) (s0_1 : Int) (s0_2 : Int) (r1 : Int) (r2 : Int) (r3 : Int) (r4 : Int) (r5 : Int) (r6 : Int) (r7 : Int) (r8 : List Int) (r9 : Int) (r10 : Int) (w0 w : World) (hI : IsS136 w0 w g s0_0 s0_1 s0_2) (hB : Below w0.heap.size w0 w) (h : spec_l8Right.f k s0_0 s0_1 s0_2 = some (r1,r2,r3,r4,r5,r6,r7,r8,r9,r10)) :
    Calls Try.prog 138 #[.pointer (some ⟨g,0,none⟩)] w fun e w' => ∃ v7_ : Value,e = .returned (.agg #[.int .i64 r1,.int .i64 r2,.int .i64 r3,.int .i64 r4,.int .i64 r5,.int .i64 r6,.int .i64 r7,v7_]) ∧ Kd.R (Kd.int .i64) 3 w' w.heap.size (fun _ => True) v7_ r8 ∧ IsS136 w0 w' g s0_0 r9 r10 ∧ Below w0.heap.size w0 w' ∧ KeepBut w w' g none := by
  have hu73 := Try.underlying73
  have HI0 := Aside0.mk hI
  have HK := Aside0.mk (KeepBut.refl w g none)
  have HL := Aside0.mk hB.size
  clear hI
  have HW0 := Aside0.mk hB.size
  have HB := Aside0.mk hB
  clear hB
  have H : ((spec_l1Below.f s0_0 s0_1 s0_2 4).bind fun bt206 => ((spec_l1Below.f s0_0 bt206.2.1 bt206.2.2 4).bind fun bt209 => ((spec_l1Below.f s0_0 bt209.2.1 bt209.2.2 5).bind fun bt212 => ((spec_l1Below.f s0_0 bt212.2.1 bt212.2.2 3).bind fun bt215 => ((spec_l1Below.f s0_0 bt215.2.1 bt215.2.2 3).bind fun bt218 => ((spec_l1Below.f s0_0 bt218.2.1 bt218.2.2 3).bind fun bt221 => ((spec_l1Once.f s0_0 bt221.2.1 bt221.2.2 8).bind fun bt225 => (if bt225.1 = true then ((spec_l1Below.f s0_0 bt225.2.1 bt225.2.2 100).bind fun bt228 => (spec_l8Right.j0 k s0_0 bt228.2.1 bt228.2.2 (wrap64 (1 + bt206.1)) bt209.1 (wrap64 (2 + bt212.1)) (wrap64 (1 + bt228.1)) (wrap64 (1 + bt218.1)) 1 (wrap64 (1 + bt221.1)))) else (spec_l8Right.j0 k s0_0 bt225.2.1 bt225.2.2 (wrap64 (1 + bt206.1)) bt209.1 (wrap64 (2 + bt212.1)) (wrap64 (1 + bt215.1)) (wrap64 (1 + bt218.1)) 1 (wrap64 (1 + bt221.1))))))))))) = some (r1,r2,r3,r4,r5,r6,r7,r8,r9,r10) := h
  clear h
  replace H := Option.bind_eq_some_iff.mp H
  obtain ⟨⟨t206,t207,t208⟩,A20,H⟩ := H
  replace H : ((spec_l1Below.f s0_0 t207 t208 4).bind fun bt209 => ((spec_l1Below.f s0_0 bt209.2.1 bt209.2.2 5).bind fun bt212 => ((spec_l1Below.f s0_0 bt212.2.1 bt212.2.2 3).bind fun bt215 => ((spec_l1Below.f s0_0 bt215.2.1 bt215.2.2 3).bind fun bt218 => ((spec_l1Below.f s0_0 bt218.2.1 bt218.2.2 3).bind fun bt221 => ((spec_l1Once.f s0_0 bt221.2.1 bt221.2.2 8).bind fun bt225 => (if bt225.1 = true then ((spec_l1Below.f s0_0 bt225.2.1 bt225.2.2 100).bind fun bt228 => (spec_l8Right.j0 k s0_0 bt228.2.1 bt228.2.2 (wrap64 (1 + t206)) bt209.1 (wrap64 (2 + bt212.1)) (wrap64 (1 + bt228.1)) (wrap64 (1 + bt218.1)) 1 (wrap64 (1 + bt221.1)))) else (spec_l8Right.j0 k s0_0 bt225.2.1 bt225.2.2 (wrap64 (1 + t206)) bt209.1 (wrap64 (2 + bt212.1)) (wrap64 (1 + bt215.1)) (wrap64 (1 + bt218.1)) 1 (wrap64 (1 + bt221.1)))))))))) = some (r1,r2,r3,r4,r5,r6,r7,r8,r9,r10) := H
  have A2 := Aside0.mk A20
  clear A20
  replace H := Option.bind_eq_some_iff.mp H
  obtain ⟨⟨t209,t210,t211⟩,A30,H⟩ := H
  replace H : ((spec_l1Below.f s0_0 t210 t211 5).bind fun bt212 => ((spec_l1Below.f s0_0 bt212.2.1 bt212.2.2 3).bind fun bt215 => ((spec_l1Below.f s0_0 bt215.2.1 bt215.2.2 3).bind fun bt218 => ((spec_l1Below.f s0_0 bt218.2.1 bt218.2.2 3).bind fun bt221 => ((spec_l1Once.f s0_0 bt221.2.1 bt221.2.2 8).bind fun bt225 => (if bt225.1 = true then ((spec_l1Below.f s0_0 bt225.2.1 bt225.2.2 100).bind fun bt228 => (spec_l8Right.j0 k s0_0 bt228.2.1 bt228.2.2 (wrap64 (1 + t206)) t209 (wrap64 (2 + bt212.1)) (wrap64 (1 + bt228.1)) (wrap64 (1 + bt218.1)) 1 (wrap64 (1 + bt221.1)))) else (spec_l8Right.j0 k s0_0 bt225.2.1 bt225.2.2 (wrap64 (1 + t206)) t209 (wrap64 (2 + bt212.1)) (wrap64 (1 + bt215.1)) (wrap64 (1 + bt218.1)) 1 (wrap64 (1 + bt221.1))))))))) = some (r1,r2,r3,r4,r5,r6,r7,r8,r9,r10) := H
  have A3 := Aside0.mk A30
  clear A30
  replace H := Option.bind_eq_some_iff.mp H
  obtain ⟨⟨t212,t213,t214⟩,A40,H⟩ := H
  replace H : ((spec_l1Below.f s0_0 t213 t214 3).bind fun bt215 => ((spec_l1Below.f s0_0 bt215.2.1 bt215.2.2 3).bind fun bt218 => ((spec_l1Below.f s0_0 bt218.2.1 bt218.2.2 3).bind fun bt221 => ((spec_l1Once.f s0_0 bt221.2.1 bt221.2.2 8).bind fun bt225 => (if bt225.1 = true then ((spec_l1Below.f s0_0 bt225.2.1 bt225.2.2 100).bind fun bt228 => (spec_l8Right.j0 k s0_0 bt228.2.1 bt228.2.2 (wrap64 (1 + t206)) t209 (wrap64 (2 + t212)) (wrap64 (1 + bt228.1)) (wrap64 (1 + bt218.1)) 1 (wrap64 (1 + bt221.1)))) else (spec_l8Right.j0 k s0_0 bt225.2.1 bt225.2.2 (wrap64 (1 + t206)) t209 (wrap64 (2 + t212)) (wrap64 (1 + bt215.1)) (wrap64 (1 + bt218.1)) 1 (wrap64 (1 + bt221.1)))))))) = some (r1,r2,r3,r4,r5,r6,r7,r8,r9,r10) := H
  have A4 := Aside0.mk A40
  clear A40
  replace H := Option.bind_eq_some_iff.mp H
  obtain ⟨⟨t215,t216,t217⟩,A50,H⟩ := H
  replace H : ((spec_l1Below.f s0_0 t216 t217 3).bind fun bt218 => ((spec_l1Below.f s0_0 bt218.2.1 bt218.2.2 3).bind fun bt221 => ((spec_l1Once.f s0_0 bt221.2.1 bt221.2.2 8).bind fun bt225 => (if bt225.1 = true then ((spec_l1Below.f s0_0 bt225.2.1 bt225.2.2 100).bind fun bt228 => (spec_l8Right.j0 k s0_0 bt228.2.1 bt228.2.2 (wrap64 (1 + t206)) t209 (wrap64 (2 + t212)) (wrap64 (1 + bt228.1)) (wrap64 (1 + bt218.1)) 1 (wrap64 (1 + bt221.1)))) else (spec_l8Right.j0 k s0_0 bt225.2.1 bt225.2.2 (wrap64 (1 + t206)) t209 (wrap64 (2 + t212)) (wrap64 (1 + t215)) (wrap64 (1 + bt218.1)) 1 (wrap64 (1 + bt221.1))))))) = some (r1,r2,r3,r4,r5,r6,r7,r8,r9,r10) := H
  have A5 := Aside0.mk A50
  clear A50
  replace H := Option.bind_eq_some_iff.mp H
  obtain ⟨⟨t218,t219,t220⟩,A60,H⟩ := H
  replace H : ((spec_l1Below.f s0_0 t219 t220 3).bind fun bt221 => ((spec_l1Once.f s0_0 bt221.2.1 bt221.2.2 8).bind fun bt225 => (if bt225.1 = true then ((spec_l1Below.f s0_0 bt225.2.1 bt225.2.2 100).bind fun bt228 => (spec_l8Right.j0 k s0_0 bt228.2.1 bt228.2.2 (wrap64 (1 + t206)) t209 (wrap64 (2 + t212)) (wrap64 (1 + bt228.1)) (wrap64 (1 + t218)) 1 (wrap64 (1 + bt221.1)))) else (spec_l8Right.j0 k s0_0 bt225.2.1 bt225.2.2 (wrap64 (1 + t206)) t209 (wrap64 (2 + t212)) (wrap64 (1 + t215)) (wrap64 (1 + t218)) 1 (wrap64 (1 + bt221.1)))))) = some (r1,r2,r3,r4,r5,r6,r7,r8,r9,r10) := H
  have A6 := Aside0.mk A60
  clear A60
  replace H := Option.bind_eq_some_iff.mp H
  obtain ⟨⟨t221,t222,t223⟩,A70,H⟩ := H
  replace H : ((spec_l1Once.f s0_0 t222 t223 8).bind fun bt225 => (if bt225.1 = true then ((spec_l1Below.f s0_0 bt225.2.1 bt225.2.2 100).bind fun bt228 => (spec_l8Right.j0 k s0_0 bt228.2.1 bt228.2.2 (wrap64 (1 + t206)) t209 (wrap64 (2 + t212)) (wrap64 (1 + bt228.1)) (wrap64 (1 + t218)) 1 (wrap64 (1 + t221)))) else (spec_l8Right.j0 k s0_0 bt225.2.1 bt225.2.2 (wrap64 (1 + t206)) t209 (wrap64 (2 + t212)) (wrap64 (1 + t215)) (wrap64 (1 + t218)) 1 (wrap64 (1 + t221))))) = some (r1,r2,r3,r4,r5,r6,r7,r8,r9,r10) := H
  have A7 := Aside0.mk A70
  clear A70
  replace H := Option.bind_eq_some_iff.mp H
  obtain ⟨⟨t225,t226,t227⟩,A80,H⟩ := H
  replace H : (if t225 = true then ((spec_l1Below.f s0_0 t226 t227 100).bind fun bt228 => (spec_l8Right.j0 k s0_0 bt228.2.1 bt228.2.2 (wrap64 (1 + t206)) t209 (wrap64 (2 + t212)) (wrap64 (1 + bt228.1)) (wrap64 (1 + t218)) 1 (wrap64 (1 + t221)))) else (spec_l8Right.j0 k s0_0 t226 t227 (wrap64 (1 + t206)) t209 (wrap64 (2 + t212)) (wrap64 (1 + t215)) (wrap64 (1 + t218)) 1 (wrap64 (1 + t221)))) = some (r1,r2,r3,r4,r5,r6,r7,r8,r9,r10) := H
  have A8 := Aside0.mk A80
  clear A80
  have HC9 := Aside0.mk H
  clear H
  go_enter Try.func138,Try.ntmps138
  go_upto_if 25 with (first | ((with_reducible refine gate_dst (N := 2) rfl ?_);refine box_event ?hg (N := 2) ?hd (cs := #[.int .i64 0,.int .i64 0,.int .i64 0,.int .i64 0,.int .i64 0,.int .i64 0,.int .i64 0,.slice none 0 0]) (t := 73) ?hr ?_;(case hd => rfl);(case hg => rfl);(case hr => first | (go_simp;done) | (go_simp;rfl));intro gb205 hg w10 hbox hb;have n0_ := Aside0.mk (IsS136.below (by repeat (first | (with_reducible first | exact HI0.out | apply IsS136.alloc | apply IsS136.drewN | apply IsS136.drew | apply IsS136.set_1 | apply IsS136.set_2) | exact HI0.out)) hb);have n1_ := Aside0.mk (KeepBut.trans (by repeat (first | (with_reducible first | exact HK.out | apply KeepBut.set_ | apply keep_drewN | apply keep_drew | apply keep_alloc) | exact HK.out)) (KeepBut.of_below hb g none) (.inl rfl));have n2_ := Aside0.mk (below_step (by repeat (first | (with_reducible first | exact HB.out | apply below_alloc | apply pw_below_drewN | apply below_drew1 | refine below_set ?_ (IsS136.ge HI0.out)) | exact HB.out)) hb);have n3_ := Aside0.mk (hbox);have n4_ := Aside0.mk ((by rw [hg];exact (keep_size (w := w) (g := g) (row := none) (by repeat (first | (with_reducible first | exact HK.out | apply KeepBut.set_ | apply keep_drewN | apply keep_drew | apply keep_alloc) | exact HK.out))) : w.heap.size ≤ gb205));have n5_ := Aside0.mk ((Nat.le_trans HW0.out (by rw [hg];exact (keep_size (w := w) (g := g) (row := none) (by repeat (first | (with_reducible first | exact HK.out | apply KeepBut.set_ | apply keep_drewN | apply keep_drew | apply keep_alloc) | exact HK.out))) : w.heap.size ≤ gb205) : w0.heap.size ≤ gb205));have n6_ := Aside0.mk ((by rw [hg];exact Nat.ne_of_lt (IsS136.lt (show IsS136 w0 _ g s0_0 s0_1 s0_2 from by repeat (first | (with_reducible first | exact HI0.out | apply IsS136.alloc | apply IsS136.drewN | apply IsS136.drew | apply IsS136.set_1 | apply IsS136.set_2) | exact HI0.out))) : g ≠ gb205));have n7_ := Aside0.mk ((by rw [hg];exact Nat.ne_of_gt (IsS136.lt (show IsS136 w0 _ g s0_0 s0_1 s0_2 from by repeat (first | (with_reducible first | exact HI0.out | apply IsS136.alloc | apply IsS136.drewN | apply IsS136.drew | apply IsS136.set_1 | apply IsS136.set_2) | exact HI0.out))) : gb205 ≠ g));clear HI0;clear HK;clear HB;have HI0 := n0_;have HK := n1_;have HB := n2_;have BK205 := n3_;have GW205 := n4_;have GE205 := n5_;have NB0_205 := n6_;have NB205_0 := n7_;clear n0_ n1_ n2_ n3_ n4_ n5_ n6_ n7_;clear hb hbox hg) | ((with_reducible refine gate_callee (f := 80) rfl ?_);refine goesL_ (some 7) rfl rfl Try.func80 (by kernel_rfl) rfl #[.pointer (some ⟨g,0,none⟩),.int .i64 4] rfl (by (try simp only [List.map_toArray,List.map_cons,List.map_nil]);first | done | rfl | (simp only [List.length_drop,List.length_take];rfl)) ?_;(with_reducible refine (spec_l1Below.calls g s0_0 s0_1 s0_2 4 t206 t207 t208 w0 _ ?side1 ?side2 A2.out).mono ?_);(case side1 => repeat (first | (with_reducible first | exact HI0.out | apply IsS136.alloc | apply IsS136.drewN | apply IsS136.drew | apply IsS136.set_1 | apply IsS136.set_2 | refine IsS136.far ?_ NB0_205.out _) | exact HI0.out));(case side2 => repeat (first | (with_reducible first | exact HB.out | apply below_alloc | apply pw_below_drewN | apply below_drew1 | refine below_set ?_ (IsS136.ge HI0.out) | refine below_set ?_ GE205.out) | exact HB.out));rintro e w11 ⟨rfl,hi,hb,hk⟩;refine ⟨_,rfl,?_⟩;have n0_ := Aside0.mk (KeepBut.blk hk (g' := gb205) (o := .cells #[.int .i64 0,.int .i64 0,.int .i64 0,.int .i64 0,.int .i64 0,.int .i64 0,.int .i64 0,.slice none 0 0] 73 (0,0)) (by (with_reducible repeat (first | refine bA ?_ _ | refine bB ?_ | refine bC ?_ _));exact BK205.out) NB205_0.out (by simp));have n1_ := Aside0.mk (KeepBut.trans (by repeat (first | (with_reducible first | exact HK.out | apply KeepBut.set_ | apply keep_drewN | apply keep_drew | apply keep_alloc | refine keep_far ?_ GW205.out _) | exact HK.out)) hk (.inl rfl));have n2_ := Aside0.mk (hb);have n3_ := Aside0.mk (hi);clear BK205;clear HK;clear HB;clear HI0;have BK205 := n0_;have HK := n1_;have HB := n2_;have HI0 := n3_;clear n0_ n1_ n2_ n3_;(try clear hb);(try clear hb2);(try clear hk);(try clear hi)) | ((with_reducible refine gate_callee (f := 80) rfl ?_);refine goesL_ (some 10) rfl rfl Try.func80 (by kernel_rfl) rfl #[.pointer (some ⟨g,0,none⟩),.int .i64 4] rfl (by (try simp only [List.map_toArray,List.map_cons,List.map_nil]);first | done | rfl | (simp only [List.length_drop,List.length_take];rfl)) ?_;(with_reducible refine (spec_l1Below.calls g s0_0 t207 t208 4 t209 t210 t211 w0 _ ?side1 ?side2 A3.out).mono ?_);(case side1 => repeat (first | (with_reducible first | exact HI0.out | apply IsS136.alloc | apply IsS136.drewN | apply IsS136.drew | apply IsS136.set_1 | apply IsS136.set_2 | refine IsS136.far ?_ NB0_205.out _) | exact HI0.out));(case side2 => repeat (first | (with_reducible first | exact HB.out | apply below_alloc | apply pw_below_drewN | apply below_drew1 | refine below_set ?_ (IsS136.ge HI0.out) | refine below_set ?_ GE205.out) | exact HB.out));rintro e w12 ⟨rfl,hi,hb,hk⟩;refine ⟨_,rfl,?_⟩;have n0_ := Aside0.mk (KeepBut.blk hk (g' := gb205) (o := .cells #[.int .i64 0,.int .i64 0,.int .i64 0,.int .i64 0,.int .i64 0,.int .i64 0,.int .i64 0,.slice none 0 0] 73 (0,0)) (by (with_reducible repeat (first | refine bA ?_ _ | refine bB ?_ | refine bC ?_ _));exact BK205.out) NB205_0.out (by simp));have n1_ := Aside0.mk (KeepBut.trans (by repeat (first | (with_reducible first | exact HK.out | apply KeepBut.set_ | apply keep_drewN | apply keep_drew | apply keep_alloc | refine keep_far ?_ GW205.out _) | exact HK.out)) hk (.inl rfl));have n2_ := Aside0.mk (hb);have n3_ := Aside0.mk (hi);clear BK205;clear HK;clear HB;clear HI0;have BK205 := n0_;have HK := n1_;have HB := n2_;have HI0 := n3_;clear n0_ n1_ n2_ n3_;(try clear hb);(try clear hb2);(try clear hk);(try clear hi)) | ((with_reducible refine gate_callee (f := 80) rfl ?_);refine goesL_ (some 12) rfl rfl Try.func80 (by kernel_rfl) rfl #[.pointer (some ⟨g,0,none⟩),.int .i64 5] rfl (by (try simp only [List.map_toArray,List.map_cons,List.map_nil]);first | done | rfl | (simp only [List.length_drop,List.length_take];rfl)) ?_;(with_reducible refine (spec_l1Below.calls g s0_0 t210 t211 5 t212 t213 t214 w0 _ ?side1 ?side2 A4.out).mono ?_);(case side1 => repeat (first | (with_reducible first | exact HI0.out | apply IsS136.alloc | apply IsS136.drewN | apply IsS136.drew | apply IsS136.set_1 | apply IsS136.set_2 | refine IsS136.far ?_ NB0_205.out _) | exact HI0.out));(case side2 => repeat (first | (with_reducible first | exact HB.out | apply below_alloc | apply pw_below_drewN | apply below_drew1 | refine below_set ?_ (IsS136.ge HI0.out) | refine below_set ?_ GE205.out) | exact HB.out));rintro e w13 ⟨rfl,hi,hb,hk⟩;refine ⟨_,rfl,?_⟩;have n0_ := Aside0.mk (KeepBut.blk hk (g' := gb205) (o := .cells #[.int .i64 0,.int .i64 0,.int .i64 0,.int .i64 0,.int .i64 0,.int .i64 0,.int .i64 0,.slice none 0 0] 73 (0,0)) (by (with_reducible repeat (first | refine bA ?_ _ | refine bB ?_ | refine bC ?_ _));exact BK205.out) NB205_0.out (by simp));have n1_ := Aside0.mk (KeepBut.trans (by repeat (first | (with_reducible first | exact HK.out | apply KeepBut.set_ | apply keep_drewN | apply keep_drew | apply keep_alloc | refine keep_far ?_ GW205.out _) | exact HK.out)) hk (.inl rfl));have n2_ := Aside0.mk (hb);have n3_ := Aside0.mk (hi);clear BK205;clear HK;clear HB;clear HI0;have BK205 := n0_;have HK := n1_;have HB := n2_;have HI0 := n3_;clear n0_ n1_ n2_ n3_;(try clear hb);(try clear hb2);(try clear hk);(try clear hi)) | ((with_reducible refine gate_callee (f := 80) rfl ?_);refine goesL_ (some 15) rfl rfl Try.func80 (by kernel_rfl) rfl #[.pointer (some ⟨g,0,none⟩),.int .i64 3] rfl (by (try simp only [List.map_toArray,List.map_cons,List.map_nil]);first | done | rfl | (simp only [List.length_drop,List.length_take];rfl)) ?_;(with_reducible refine (spec_l1Below.calls g s0_0 t213 t214 3 t215 t216 t217 w0 _ ?side1 ?side2 A5.out).mono ?_);(case side1 => repeat (first | (with_reducible first | exact HI0.out | apply IsS136.alloc | apply IsS136.drewN | apply IsS136.drew | apply IsS136.set_1 | apply IsS136.set_2 | refine IsS136.far ?_ NB0_205.out _) | exact HI0.out));(case side2 => repeat (first | (with_reducible first | exact HB.out | apply below_alloc | apply pw_below_drewN | apply below_drew1 | refine below_set ?_ (IsS136.ge HI0.out) | refine below_set ?_ GE205.out) | exact HB.out));rintro e w14 ⟨rfl,hi,hb,hk⟩;refine ⟨_,rfl,?_⟩;have n0_ := Aside0.mk (KeepBut.blk hk (g' := gb205) (o := .cells #[.int .i64 0,.int .i64 0,.int .i64 0,.int .i64 0,.int .i64 0,.int .i64 0,.int .i64 0,.slice none 0 0] 73 (0,0)) (by (with_reducible repeat (first | refine bA ?_ _ | refine bB ?_ | refine bC ?_ _));exact BK205.out) NB205_0.out (by simp));have n1_ := Aside0.mk (KeepBut.trans (by repeat (first | (with_reducible first | exact HK.out | apply KeepBut.set_ | apply keep_drewN | apply keep_drew | apply keep_alloc | refine keep_far ?_ GW205.out _) | exact HK.out)) hk (.inl rfl));have n2_ := Aside0.mk (hb);have n3_ := Aside0.mk (hi);clear BK205;clear HK;clear HB;clear HI0;have BK205 := n0_;have HK := n1_;have HB := n2_;have HI0 := n3_;clear n0_ n1_ n2_ n3_;(try clear hb);(try clear hb2);(try clear hk);(try clear hi)) | ((with_reducible refine gate_callee (f := 80) rfl ?_);refine goesL_ (some 18) rfl rfl Try.func80 (by kernel_rfl) rfl #[.pointer (some ⟨g,0,none⟩),.int .i64 3] rfl (by (try simp only [List.map_toArray,List.map_cons,List.map_nil]);first | done | rfl | (simp only [List.length_drop,List.length_take];rfl)) ?_;(with_reducible refine (spec_l1Below.calls g s0_0 t216 t217 3 t218 t219 t220 w0 _ ?side1 ?side2 A6.out).mono ?_);(case side1 => repeat (first | (with_reducible first | exact HI0.out | apply IsS136.alloc | apply IsS136.drewN | apply IsS136.drew | apply IsS136.set_1 | apply IsS136.set_2 | refine IsS136.far ?_ NB0_205.out _) | exact HI0.out));(case side2 => repeat (first | (with_reducible first | exact HB.out | apply below_alloc | apply pw_below_drewN | apply below_drew1 | refine below_set ?_ (IsS136.ge HI0.out) | refine below_set ?_ GE205.out) | exact HB.out));rintro e w15 ⟨rfl,hi,hb,hk⟩;refine ⟨_,rfl,?_⟩;have n0_ := Aside0.mk (KeepBut.blk hk (g' := gb205) (o := .cells #[.int .i64 0,.int .i64 0,.int .i64 0,.int .i64 0,.int .i64 0,.int .i64 0,.int .i64 0,.slice none 0 0] 73 (0,0)) (by (with_reducible repeat (first | refine bA ?_ _ | refine bB ?_ | refine bC ?_ _));exact BK205.out) NB205_0.out (by simp));have n1_ := Aside0.mk (KeepBut.trans (by repeat (first | (with_reducible first | exact HK.out | apply KeepBut.set_ | apply keep_drewN | apply keep_drew | apply keep_alloc | refine keep_far ?_ GW205.out _) | exact HK.out)) hk (.inl rfl));have n2_ := Aside0.mk (hb);have n3_ := Aside0.mk (hi);clear BK205;clear HK;clear HB;clear HI0;have BK205 := n0_;have HK := n1_;have HB := n2_;have HI0 := n3_;clear n0_ n1_ n2_ n3_;(try clear hb);(try clear hb2);(try clear hk);(try clear hi)) | ((with_reducible refine gate_callee (f := 80) rfl ?_);refine goesL_ (some 21) rfl rfl Try.func80 (by kernel_rfl) rfl #[.pointer (some ⟨g,0,none⟩),.int .i64 3] rfl (by (try simp only [List.map_toArray,List.map_cons,List.map_nil]);first | done | rfl | (simp only [List.length_drop,List.length_take];rfl)) ?_;(with_reducible refine (spec_l1Below.calls g s0_0 t219 t220 3 t221 t222 t223 w0 _ ?side1 ?side2 A7.out).mono ?_);(case side1 => repeat (first | (with_reducible first | exact HI0.out | apply IsS136.alloc | apply IsS136.drewN | apply IsS136.drew | apply IsS136.set_1 | apply IsS136.set_2 | refine IsS136.far ?_ NB0_205.out _) | exact HI0.out));(case side2 => repeat (first | (with_reducible first | exact HB.out | apply below_alloc | apply pw_below_drewN | apply below_drew1 | refine below_set ?_ (IsS136.ge HI0.out) | refine below_set ?_ GE205.out) | exact HB.out));rintro e w16 ⟨rfl,hi,hb,hk⟩;refine ⟨_,rfl,?_⟩;have n0_ := Aside0.mk (KeepBut.blk hk (g' := gb205) (o := .cells #[.int .i64 0,.int .i64 0,.int .i64 0,.int .i64 0,.int .i64 0,.int .i64 0,.int .i64 0,.slice none 0 0] 73 (0,0)) (by (with_reducible repeat (first | refine bA ?_ _ | refine bB ?_ | refine bC ?_ _));exact BK205.out) NB205_0.out (by simp));have n1_ := Aside0.mk (KeepBut.trans (by repeat (first | (with_reducible first | exact HK.out | apply KeepBut.set_ | apply keep_drewN | apply keep_drew | apply keep_alloc | refine keep_far ?_ GW205.out _) | exact HK.out)) hk (.inl rfl));have n2_ := Aside0.mk (hb);have n3_ := Aside0.mk (hi);clear BK205;clear HK;clear HB;clear HI0;have BK205 := n0_;have HK := n1_;have HB := n2_;have HI0 := n3_;clear n0_ n1_ n2_ n3_;(try clear hb);(try clear hb2);(try clear hk);(try clear hi)) | ((with_reducible refine gate_dst (N := 3) rfl ?_);refine box_event ?hg (N := 3) ?hd (cs := #[.int .i64 0,.int .i64 0,.int .i64 0,.int .i64 0,.int .i64 0,.int .i64 0,.int .i64 0,.slice none 0 0]) (t := 73) ?hr ?_;(case hd => rfl);(case hg => rfl);(case hr => first | (go_simp;done) | (go_simp;rfl));intro gb224 hg w17 hbox hb;have n0_ := Aside0.mk (IsS136.below (by repeat (first | (with_reducible first | exact HI0.out | apply IsS136.alloc | apply IsS136.drewN | apply IsS136.drew | apply IsS136.set_1 | apply IsS136.set_2 | refine IsS136.far ?_ NB0_205.out _) | exact HI0.out)) hb);have n1_ := Aside0.mk (blk_below (g := gb205) (o := .cells #[.int .i64 0,.int .i64 0,.int .i64 0,.int .i64 0,.int .i64 0,.int .i64 0,.int .i64 0,.slice none 0 0] 73 (0,0)) (by (with_reducible repeat (first | refine bA ?_ _ | refine bB ?_ | refine bC ?_ _));exact BK205.out) hb);have n2_ := Aside0.mk (KeepBut.trans (by repeat (first | (with_reducible first | exact HK.out | apply KeepBut.set_ | apply keep_drewN | apply keep_drew | apply keep_alloc | refine keep_far ?_ GW205.out _) | exact HK.out)) (KeepBut.of_below hb g none) (.inl rfl));have n3_ := Aside0.mk (below_step (by repeat (first | (with_reducible first | exact HB.out | apply below_alloc | apply pw_below_drewN | apply below_drew1 | refine below_set ?_ (IsS136.ge HI0.out) | refine below_set ?_ GE205.out) | exact HB.out)) hb);have n4_ := Aside0.mk (hbox);have n5_ := Aside0.mk ((by rw [hg];exact (keep_size (w := w) (g := g) (row := none) (by repeat (first | (with_reducible first | exact HK.out | apply KeepBut.set_ | apply keep_drewN | apply keep_drew | apply keep_alloc | refine keep_far ?_ GW205.out _) | exact HK.out))) : w.heap.size ≤ gb224));have n6_ := Aside0.mk ((Nat.le_trans HW0.out (by rw [hg];exact (keep_size (w := w) (g := g) (row := none) (by repeat (first | (with_reducible first | exact HK.out | apply KeepBut.set_ | apply keep_drewN | apply keep_drew | apply keep_alloc | refine keep_far ?_ GW205.out _) | exact HK.out))) : w.heap.size ≤ gb224) : w0.heap.size ≤ gb224));have n7_ := Aside0.mk ((by rw [hg];exact Nat.ne_of_lt (blk_lt (g := gb205) (o := .cells #[.int .i64 0,.int .i64 0,.int .i64 0,.int .i64 0,.int .i64 0,.int .i64 0,.int .i64 0,.slice none 0 0] 73 (0,0)) (by (with_reducible repeat (first | refine bA ?_ _ | refine bB ?_ | refine bC ?_ _));exact BK205.out)) : gb205 ≠ gb224));have n8_ := Aside0.mk ((by rw [hg];exact Nat.ne_of_gt (blk_lt (g := gb205) (o := .cells #[.int .i64 0,.int .i64 0,.int .i64 0,.int .i64 0,.int .i64 0,.int .i64 0,.int .i64 0,.slice none 0 0] 73 (0,0)) (by (with_reducible repeat (first | refine bA ?_ _ | refine bB ?_ | refine bC ?_ _));exact BK205.out)) : gb224 ≠ gb205));have n9_ := Aside0.mk ((by rw [hg];exact Nat.ne_of_lt (IsS136.lt (show IsS136 w0 _ g s0_0 t222 t223 from by repeat (first | (with_reducible first | exact HI0.out | apply IsS136.alloc | apply IsS136.drewN | apply IsS136.drew | apply IsS136.set_1 | apply IsS136.set_2 | refine IsS136.far ?_ NB0_205.out _) | exact HI0.out))) : g ≠ gb224));have n10_ := Aside0.mk ((by rw [hg];exact Nat.ne_of_gt (IsS136.lt (show IsS136 w0 _ g s0_0 t222 t223 from by repeat (first | (with_reducible first | exact HI0.out | apply IsS136.alloc | apply IsS136.drewN | apply IsS136.drew | apply IsS136.set_1 | apply IsS136.set_2 | refine IsS136.far ?_ NB0_205.out _) | exact HI0.out))) : gb224 ≠ g));clear HI0;clear BK205;clear HK;clear HB;have HI0 := n0_;have BK205 := n1_;have HK := n2_;have HB := n3_;have BK224 := n4_;have GW224 := n5_;have GE224 := n6_;have NB205_224 := n7_;have NB224_205 := n8_;have NB0_224 := n9_;have NB224_0 := n10_;clear n0_ n1_ n2_ n3_ n4_ n5_ n6_ n7_ n8_ n9_ n10_;clear hb hbox hg;have hnb18 := NB224_205.out;have hnc18 := NB205_224.out;have hnb19 := NB224_0.out;have hnc19 := NB0_224.out;obtain ⟨hcz20_0,hcz20_1,hcz20_2,hcz20_3,hcz20_4,hcz20_5,hcz20_6,hcz20_7,hfz20_0,hfz20_1,hfz20_2,hfz20_3,hfz20_4,hfz20_5,hfz20_6,hfz20_7⟩ := spec_l8Right.cells8 BK224.out) | ((with_reducible refine gate_callee (f := 76) rfl ?_);refine goesL_ (some 25) rfl rfl Try.func76 (by kernel_rfl) rfl #[.pointer (some ⟨g,0,none⟩),.int .i64 8] rfl (by (try simp only [List.map_toArray,List.map_cons,List.map_nil]);first | done | rfl | (simp only [List.length_drop,List.length_take];rfl)) ?_;(with_reducible refine (spec_l1Once.calls g s0_0 t222 t223 8 t225 t226 t227 w0 _ ?side1 ?side2 A8.out).mono ?_);(case side1 => repeat (first | (with_reducible first | exact HI0.out | apply IsS136.alloc | apply IsS136.drewN | apply IsS136.drew | apply IsS136.set_1 | apply IsS136.set_2 | refine IsS136.far ?_ NB0_205.out _ | refine IsS136.far ?_ NB0_224.out _) | exact HI0.out));(case side2 => repeat (first | (with_reducible first | exact HB.out | apply below_alloc | apply pw_below_drewN | apply below_drew1 | refine below_set ?_ (IsS136.ge HI0.out) | refine below_set ?_ GE205.out | refine below_set ?_ GE224.out) | exact HB.out));rintro e w21 ⟨rfl,hi,hb,hk⟩;refine ⟨_,rfl,?_⟩;have n0_ := Aside0.mk (KeepBut.blk hk (g' := gb205) (o := .cells #[.int .i64 0,.int .i64 0,.int .i64 0,.int .i64 0,.int .i64 0,.int .i64 0,.int .i64 0,.slice none 0 0] 73 (0,0)) (by (with_reducible repeat (first | refine bA ?_ _ | refine bB ?_ | refine bC ?_ _));refine blk_far ?_ NB205_224.out _;(with_reducible repeat (first | refine bA ?_ _ | refine bB ?_ | refine bC ?_ _));refine blk_far ?_ NB205_224.out _;(with_reducible repeat (first | refine bA ?_ _ | refine bB ?_ | refine bC ?_ _));refine blk_far ?_ NB205_224.out _;(with_reducible repeat (first | refine bA ?_ _ | refine bB ?_ | refine bC ?_ _));refine blk_far ?_ NB205_224.out _;(with_reducible repeat (first | refine bA ?_ _ | refine bB ?_ | refine bC ?_ _));refine blk_far ?_ NB205_224.out _;(with_reducible repeat (first | refine bA ?_ _ | refine bB ?_ | refine bC ?_ _));refine blk_far ?_ NB205_224.out _;(with_reducible repeat (first | refine bA ?_ _ | refine bB ?_ | refine bC ?_ _));refine blk_far ?_ NB205_224.out _;(with_reducible repeat (first | refine bA ?_ _ | refine bB ?_ | refine bC ?_ _));refine blk_far ?_ NB205_224.out _;(with_reducible repeat (first | refine bA ?_ _ | refine bB ?_ | refine bC ?_ _));exact BK205.out) NB205_0.out (by simp));have n1_ := Aside0.mk (KeepBut.blk hk (g' := gb224) (o := .cells #[.int .i64 (wrap64 (1 + t206)),.int .i64 t209,.int .i64 (wrap64 (2 + t212)),.int .i64 (wrap64 (1 + t215)),.int .i64 (wrap64 (1 + t218)),.int .i64 1,.int .i64 (wrap64 (1 + t221)),.slice none 0 0] 73 (0,0)) (by (with_reducible repeat (first | refine bA ?_ _ | refine bB ?_ | refine bC ?_ _));refine blk_put (cs := #[.int .i64 (wrap64 (1 + t206)),.int .i64 t209,.int .i64 (wrap64 (2 + t212)),.int .i64 (wrap64 (1 + t215)),.int .i64 (wrap64 (1 + t218)),.int .i64 1,.int .i64 (wrap64 (1 + t221)),.slice none 0 0]) ?_ 7 _ rfl;(with_reducible repeat (first | refine bA ?_ _ | refine bB ?_ | refine bC ?_ _));refine blk_put (cs := #[.int .i64 (wrap64 (1 + t206)),.int .i64 t209,.int .i64 (wrap64 (2 + t212)),.int .i64 (wrap64 (1 + t215)),.int .i64 (wrap64 (1 + t218)),.int .i64 1,.int .i64 0,.slice none 0 0]) ?_ 6 _ rfl;(with_reducible repeat (first | refine bA ?_ _ | refine bB ?_ | refine bC ?_ _));refine blk_put (cs := #[.int .i64 (wrap64 (1 + t206)),.int .i64 t209,.int .i64 (wrap64 (2 + t212)),.int .i64 (wrap64 (1 + t215)),.int .i64 (wrap64 (1 + t218)),.int .i64 0,.int .i64 0,.slice none 0 0]) ?_ 5 _ rfl;(with_reducible repeat (first | refine bA ?_ _ | refine bB ?_ | refine bC ?_ _));refine blk_put (cs := #[.int .i64 (wrap64 (1 + t206)),.int .i64 t209,.int .i64 (wrap64 (2 + t212)),.int .i64 (wrap64 (1 + t215)),.int .i64 0,.int .i64 0,.int .i64 0,.slice none 0 0]) ?_ 4 _ rfl;(with_reducible repeat (first | refine bA ?_ _ | refine bB ?_ | refine bC ?_ _));refine blk_put (cs := #[.int .i64 (wrap64 (1 + t206)),.int .i64 t209,.int .i64 (wrap64 (2 + t212)),.int .i64 0,.int .i64 0,.int .i64 0,.int .i64 0,.slice none 0 0]) ?_ 3 _ rfl;(with_reducible repeat (first | refine bA ?_ _ | refine bB ?_ | refine bC ?_ _));refine blk_put (cs := #[.int .i64 (wrap64 (1 + t206)),.int .i64 t209,.int .i64 0,.int .i64 0,.int .i64 0,.int .i64 0,.int .i64 0,.slice none 0 0]) ?_ 2 _ rfl;(with_reducible repeat (first | refine bA ?_ _ | refine bB ?_ | refine bC ?_ _));refine blk_put (cs := #[.int .i64 (wrap64 (1 + t206)),.int .i64 0,.int .i64 0,.int .i64 0,.int .i64 0,.int .i64 0,.int .i64 0,.slice none 0 0]) ?_ 1 _ rfl;(with_reducible repeat (first | refine bA ?_ _ | refine bB ?_ | refine bC ?_ _));refine blk_put (cs := #[.int .i64 0,.int .i64 0,.int .i64 0,.int .i64 0,.int .i64 0,.int .i64 0,.int .i64 0,.slice none 0 0]) ?_ 0 _ rfl;(with_reducible repeat (first | refine bA ?_ _ | refine bB ?_ | refine bC ?_ _));exact BK224.out) NB224_0.out (by simp));have n2_ := Aside0.mk (KeepBut.trans (by repeat (first | (with_reducible first | exact HK.out | apply KeepBut.set_ | apply keep_drewN | apply keep_drew | apply keep_alloc | refine keep_far ?_ GW205.out _ | refine keep_far ?_ GW224.out _) | exact HK.out)) hk (.inl rfl));have n3_ := Aside0.mk (hb);have n4_ := Aside0.mk (hi);clear BK205;clear BK224;clear HK;clear HB;clear HI0;have BK205 := n0_;have BK224 := n1_;have HK := n2_;have HB := n3_;have HI0 := n4_;clear n0_ n1_ n2_ n3_ n4_;(try clear hb);(try clear hb2);(try clear hk);(try clear hi)))
  (try simp only [Act.put,List.setIfInBounds_toArray,List.set_cons_zero,List.set_cons_succ])
  go_cut [] (fun wc => ∃ (kq : Nat) (x1001_8 : Int) (x1002_8 : Int) (x225003_8 : Int),Aside0 (spec_l8Right.j0 kq s0_0 x1001_8 x1002_8 (wrap64 (1 + t206)) t209 (wrap64 (2 + t212)) x225003_8 (wrap64 (1 + t218)) 1 (wrap64 (1 + t221)) = some (r1,r2,r3,r4,r5,r6,r7,r8,r9,r10)) ∧ Aside0 (kq ≤ k) ∧ Aside0 (wc.heap[gb205]? = some (.cells #[.int .i64 0,.int .i64 0,.int .i64 0,.int .i64 0,.int .i64 0,.int .i64 0,.int .i64 0,(.slice none 0 0)] 73 (0,0))) ∧ Aside0 (wc.heap[gb224]? = some (.cells #[.int .i64 (wrap64 (1 + t206)),.int .i64 t209,.int .i64 (wrap64 (2 + t212)),.int .i64 x225003_8,.int .i64 (wrap64 (1 + t218)),.int .i64 1,.int .i64 (wrap64 (1 + t221)),(.slice none 0 0)] 73 (0,0))) ∧ Aside0 (IsS136 w0 wc g s0_0 x1001_8 x1002_8) ∧ Aside0 (KeepBut w wc g none) ∧ Aside0 (Below w0.heap.size w0 wc))
  case first =>
    have H := HC9.out
    clear HC9
    by_cases c22 : t225 = true
    · subst c22
      have H1 : ((spec_l1Below.f s0_0 t226 t227 100).bind fun bt228 => (spec_l8Right.j0 k s0_0 bt228.2.1 bt228.2.2 (wrap64 (1 + t206)) t209 (wrap64 (2 + t212)) (wrap64 (1 + bt228.1)) (wrap64 (1 + t218)) 1 (wrap64 (1 + t221)))) = some (r1,r2,r3,r4,r5,r6,r7,r8,r9,r10) := by rw [if_pos rfl] at H;exact H
      clear H
      have H := H1
      clear H1
      replace H := Option.bind_eq_some_iff.mp H
      obtain ⟨⟨t228,t229,t230⟩,A230,H⟩ := H
      replace H : (spec_l8Right.j0 k s0_0 t229 t230 (wrap64 (1 + t206)) t209 (wrap64 (2 + t212)) (wrap64 (1 + t228)) (wrap64 (1 + t218)) 1 (wrap64 (1 + t221))) = some (r1,r2,r3,r4,r5,r6,r7,r8,r9,r10) := H
      have A23 := Aside0.mk A230
      clear A230
      have H' := Aside0.mk H
      clear H
      go_wp2_with (first | ((with_reducible refine gate_callee (f := 80) rfl ?_);refine goesL_ (some 27) rfl rfl Try.func80 (by kernel_rfl) rfl #[.pointer (some ⟨g,0,none⟩),.int .i64 100] rfl (by (try simp only [List.map_toArray,List.map_cons,List.map_nil]);first | done | rfl | (simp only [List.length_drop,List.length_take];rfl)) ?_;(with_reducible refine (spec_l1Below.calls g s0_0 t226 t227 100 t228 t229 t230 w0 _ ?side1 ?side2 A23.out).mono ?_);(case side1 => repeat (first | (with_reducible first | exact HI0.out | apply IsS136.alloc | apply IsS136.drewN | apply IsS136.drew | apply IsS136.set_1 | apply IsS136.set_2 | refine IsS136.far ?_ NB0_205.out _ | refine IsS136.far ?_ NB0_224.out _) | exact HI0.out));(case side2 => repeat (first | (with_reducible first | exact HB.out | apply below_alloc | apply pw_below_drewN | apply below_drew1 | refine below_set ?_ (IsS136.ge HI0.out) | refine below_set ?_ GE205.out | refine below_set ?_ GE224.out) | exact HB.out));rintro e w24 ⟨rfl,hi,hb,hk⟩;refine ⟨_,rfl,?_⟩;have n0_ := Aside0.mk (KeepBut.blk hk (g' := gb205) (o := .cells #[.int .i64 0,.int .i64 0,.int .i64 0,.int .i64 0,.int .i64 0,.int .i64 0,.int .i64 0,.slice none 0 0] 73 (0,0)) (by (with_reducible repeat (first | refine bA ?_ _ | refine bB ?_ | refine bC ?_ _));exact BK205.out) NB205_0.out (by simp));have n1_ := Aside0.mk (KeepBut.blk hk (g' := gb224) (o := .cells #[.int .i64 (wrap64 (1 + t206)),.int .i64 t209,.int .i64 (wrap64 (2 + t212)),.int .i64 (wrap64 (1 + t215)),.int .i64 (wrap64 (1 + t218)),.int .i64 1,.int .i64 (wrap64 (1 + t221)),.slice none 0 0] 73 (0,0)) (by (with_reducible repeat (first | refine bA ?_ _ | refine bB ?_ | refine bC ?_ _));exact BK224.out) NB224_0.out (by simp));have n2_ := Aside0.mk (KeepBut.trans (by repeat (first | (with_reducible first | exact HK.out | apply KeepBut.set_ | apply keep_drewN | apply keep_drew | apply keep_alloc | refine keep_far ?_ GW205.out _ | refine keep_far ?_ GW224.out _) | exact HK.out)) hk (.inl rfl));have n3_ := Aside0.mk (hb);have n4_ := Aside0.mk (hi);clear BK205;clear BK224;clear HK;clear HB;clear HI0;have BK205 := n0_;have BK224 := n1_;have HK := n2_;have HB := n3_;have HI0 := n4_;clear n0_ n1_ n2_ n3_ n4_;(try clear hb);(try clear hb2);(try clear hk);(try clear hi);have hnb25 := NB224_205.out;have hnc25 := NB205_224.out;have hnb26 := NB224_0.out;have hnc26 := NB0_224.out;obtain ⟨hcz27_0,hcz27_1,hcz27_2,hcz27_3,hcz27_4,hcz27_5,hcz27_6,hcz27_7,hfz27_0,hfz27_1,hfz27_2,hfz27_3,hfz27_4,hfz27_5,hfz27_6,hfz27_7⟩ := spec_l8Right.cells8 BK224.out))
      go_meet
      case rel => exact ⟨_,(t229),(t230),(wrap64 (1 + t228)),H',⟨by first | omega | exact Nat.le_refl _⟩,⟨by (with_reducible repeat (first | refine bA ?_ _ | refine bB ?_ | refine bC ?_ _));refine blk_far ?_ NB205_224.out _;(with_reducible repeat (first | refine bA ?_ _ | refine bB ?_ | refine bC ?_ _));exact BK205.out⟩,⟨by (with_reducible repeat (first | refine bA ?_ _ | refine bB ?_ | refine bC ?_ _));refine blk_put (cs := #[.int .i64 (wrap64 (1 + t206)),.int .i64 t209,.int .i64 (wrap64 (2 + t212)),.int .i64 (wrap64 (1 + t215)),.int .i64 (wrap64 (1 + t218)),.int .i64 1,.int .i64 (wrap64 (1 + t221)),.slice none 0 0]) ?_ 3 _ rfl;(with_reducible repeat (first | refine bA ?_ _ | refine bB ?_ | refine bC ?_ _));exact BK224.out⟩,⟨by repeat (first | (with_reducible first | exact HI0.out | apply IsS136.alloc | apply IsS136.drewN | apply IsS136.drew | apply IsS136.set_1 | apply IsS136.set_2 | refine IsS136.far ?_ NB0_205.out _ | refine IsS136.far ?_ NB0_224.out _) | exact HI0.out)⟩,⟨by repeat (first | (with_reducible first | exact HK.out | apply KeepBut.set_ | apply keep_drewN | apply keep_drew | apply keep_alloc | refine keep_far ?_ GW205.out _ | refine keep_far ?_ GW224.out _) | exact HK.out)⟩,⟨by repeat (first | (with_reducible first | exact HB.out | apply below_alloc | apply pw_below_drewN | apply below_drew1 | refine below_set ?_ (IsS136.ge HI0.out) | refine below_set ?_ GE205.out | refine below_set ?_ GE224.out) | exact HB.out)⟩⟩
    · replace c22 := Bool.eq_false_iff.mpr c22
      subst c22
      have H1 : (spec_l8Right.j0 k s0_0 t226 t227 (wrap64 (1 + t206)) t209 (wrap64 (2 + t212)) (wrap64 (1 + t215)) (wrap64 (1 + t218)) 1 (wrap64 (1 + t221))) = some (r1,r2,r3,r4,r5,r6,r7,r8,r9,r10) := by rw [if_neg (show ¬ (false = true) by decide)] at H;exact H
      clear H
      have H := H1
      clear H1
      have H' := Aside0.mk H
      clear H
      go_wp2
      go_meet
      case rel => exact ⟨_,(t226),(t227),(wrap64 (1 + t215)),H',⟨by first | omega | exact Nat.le_refl _⟩,⟨by (with_reducible repeat (first | refine bA ?_ _ | refine bB ?_ | refine bC ?_ _));exact BK205.out⟩,⟨by (with_reducible repeat (first | refine bA ?_ _ | refine bB ?_ | refine bC ?_ _));exact BK224.out⟩,⟨by repeat (first | (with_reducible first | exact HI0.out | apply IsS136.alloc | apply IsS136.drewN | apply IsS136.drew | apply IsS136.set_1 | apply IsS136.set_2 | refine IsS136.far ?_ NB0_205.out _ | refine IsS136.far ?_ NB0_224.out _) | exact HI0.out)⟩,⟨by repeat (first | (with_reducible first | exact HK.out | apply KeepBut.set_ | apply keep_drewN | apply keep_drew | apply keep_alloc | refine keep_far ?_ GW205.out _ | refine keep_far ?_ GW224.out _) | exact HK.out)⟩,⟨by repeat (first | (with_reducible first | exact HB.out | apply below_alloc | apply pw_below_drewN | apply below_drew1 | refine below_set ?_ (IsS136.ge HI0.out) | refine below_set ?_ GE205.out | refine below_set ?_ GE224.out) | exact HB.out)⟩⟩
  case rest =>
    clear HC9
    try clear c1
    try clear c2
    try clear p2
    try clear p6
    try clear c7
    try clear c8
    try clear c13
    try clear c18
    try clear c19
    try clear c22
    try clear c25
    try clear c26
    try clear hcz20_0
    try clear hcz20_1
    try clear hcz20_2
    try clear hcz20_3
    try clear hcz20_4
    try clear hcz20_5
    try clear hcz20_6
    try clear hcz20_7
    try clear hcz27_0
    try clear hcz27_1
    try clear hcz27_2
    try clear hcz27_3
    try clear hcz27_4
    try clear hcz27_5
    try clear hcz27_6
    try clear hcz27_7
    try clear hfz20_0
    try clear hfz20_1
    try clear hfz20_2
    try clear hfz20_3
    try clear hfz20_4
    try clear hfz20_5
    try clear hfz20_6
    try clear hfz20_7
    try clear hfz27_0
    try clear hfz27_1
    try clear hfz27_2
    try clear hfz27_3
    try clear hfz27_4
    try clear hfz27_5
    try clear hfz27_6
    try clear hfz27_7
    obtain ⟨kq,x1001_8,x1002_8,x225003_8,HA,HJ8,BK205,BK224,HI0,HK,HB⟩ := hcut
    cases kq with
    | zero => exact absurd HA.out (by simp [spec_l8Right.j0])
    | succ kj8 =>
      have H := HA.out
      clear HA
      simp only [spec_l8Right.j0] at H
      replace H := Option.bind_eq_some_iff.mp H
      obtain ⟨⟨t231,t232,t233⟩,A280,H⟩ := H
      replace H : (if t231 = true then ((spec_l1Below.f s0_0 t232 t233 (wrap64 (1 + t221))).bind fun bt234 => (spec_l8Right.j1 kj8 s0_0 bt234.2.1 bt234.2.2 (wrap64 (1 + t206)) t209 (wrap64 (2 + t212)) x225003_8 (wrap64 (1 + t218)) (wrap64 (1 + bt234.1)) (wrap64 (1 + t221)))) else (spec_l8Right.j1 kj8 s0_0 t232 t233 (wrap64 (1 + t206)) t209 (wrap64 (2 + t212)) x225003_8 (wrap64 (1 + t218)) 1 (wrap64 (1 + t221)))) = some (r1,r2,r3,r4,r5,r6,r7,r8,r9,r10) := H
      have A28 := Aside0.mk A280
      clear A280
      have HC29 := Aside0.mk H
      clear H
      go_upto_if 31 with (first | ((with_reducible refine gate_callee (f := 76) rfl ?_);refine goesL_ (some 31) rfl rfl Try.func76 (by kernel_rfl) rfl #[.pointer (some ⟨g,0,none⟩),.int .i64 4] rfl (by (try simp only [List.map_toArray,List.map_cons,List.map_nil]);first | done | rfl | (simp only [List.length_drop,List.length_take];rfl)) ?_;(with_reducible refine (spec_l1Once.calls g s0_0 x1001_8 x1002_8 4 t231 t232 t233 w0 _ ?side1 ?side2 A28.out).mono ?_);(case side1 => repeat (first | (with_reducible first | exact HI0.out | apply IsS136.alloc | apply IsS136.drewN | apply IsS136.drew | apply IsS136.set_1 | apply IsS136.set_2 | refine IsS136.far ?_ NB0_205.out _ | refine IsS136.far ?_ NB0_224.out _) | exact HI0.out));(case side2 => repeat (first | (with_reducible first | exact HB.out | apply below_alloc | apply pw_below_drewN | apply below_drew1 | refine below_set ?_ (IsS136.ge HI0.out) | refine below_set ?_ GE205.out | refine below_set ?_ GE224.out) | exact HB.out));rintro e w30 ⟨rfl,hi,hb,hk⟩;refine ⟨_,rfl,?_⟩;have n0_ := Aside0.mk (KeepBut.blk hk (g' := gb205) (o := .cells #[.int .i64 0,.int .i64 0,.int .i64 0,.int .i64 0,.int .i64 0,.int .i64 0,.int .i64 0,.slice none 0 0] 73 (0,0)) (by (with_reducible repeat (first | refine bA ?_ _ | refine bB ?_ | refine bC ?_ _));exact BK205.out) NB205_0.out (by simp));have n1_ := Aside0.mk (KeepBut.blk hk (g' := gb224) (o := .cells #[.int .i64 (wrap64 (1 + t206)),.int .i64 t209,.int .i64 (wrap64 (2 + t212)),.int .i64 x225003_8,.int .i64 (wrap64 (1 + t218)),.int .i64 1,.int .i64 (wrap64 (1 + t221)),.slice none 0 0] 73 (0,0)) (by (with_reducible repeat (first | refine bA ?_ _ | refine bB ?_ | refine bC ?_ _));exact BK224.out) NB224_0.out (by simp));have n2_ := Aside0.mk (KeepBut.trans (by repeat (first | (with_reducible first | exact HK.out | apply KeepBut.set_ | apply keep_drewN | apply keep_drew | apply keep_alloc | refine keep_far ?_ GW205.out _ | refine keep_far ?_ GW224.out _) | exact HK.out)) hk (.inl rfl));have n3_ := Aside0.mk (hb);have n4_ := Aside0.mk (hi);clear BK205;clear BK224;clear HK;clear HB;clear HI0;have BK205 := n0_;have BK224 := n1_;have HK := n2_;have HB := n3_;have HI0 := n4_;clear n0_ n1_ n2_ n3_ n4_;(try clear hb);(try clear hb2);(try clear hk);(try clear hi)))
      (try simp only [Act.put,List.setIfInBounds_toArray,List.set_cons_zero,List.set_cons_succ])
      go_cut [] (fun wc => ∃ (kq : Nat) (x1001_28 : Int) (x1002_28 : Int) (x225005_28 : Int),Aside0 (spec_l8Right.j1 kq s0_0 x1001_28 x1002_28 (wrap64 (1 + t206)) t209 (wrap64 (2 + t212)) x225003_8 (wrap64 (1 + t218)) x225005_28 (wrap64 (1 + t221)) = some (r1,r2,r3,r4,r5,r6,r7,r8,r9,r10)) ∧ Aside0 (kq ≤ kj8) ∧ Aside0 (wc.heap[gb205]? = some (.cells #[.int .i64 0,.int .i64 0,.int .i64 0,.int .i64 0,.int .i64 0,.int .i64 0,.int .i64 0,(.slice none 0 0)] 73 (0,0))) ∧ Aside0 (wc.heap[gb224]? = some (.cells #[.int .i64 (wrap64 (1 + t206)),.int .i64 t209,.int .i64 (wrap64 (2 + t212)),.int .i64 x225003_8,.int .i64 (wrap64 (1 + t218)),.int .i64 x225005_28,.int .i64 (wrap64 (1 + t221)),(.slice none 0 0)] 73 (0,0))) ∧ Aside0 (IsS136 w0 wc g s0_0 x1001_28 x1002_28) ∧ Aside0 (KeepBut w wc g none) ∧ Aside0 (Below w0.heap.size w0 wc))
      case first =>
        have H := HC29.out
        clear HC29
        by_cases c31 : t231 = true
        · subst c31
          have H1 : ((spec_l1Below.f s0_0 t232 t233 (wrap64 (1 + t221))).bind fun bt234 => (spec_l8Right.j1 kj8 s0_0 bt234.2.1 bt234.2.2 (wrap64 (1 + t206)) t209 (wrap64 (2 + t212)) x225003_8 (wrap64 (1 + t218)) (wrap64 (1 + bt234.1)) (wrap64 (1 + t221)))) = some (r1,r2,r3,r4,r5,r6,r7,r8,r9,r10) := by rw [if_pos rfl] at H;exact H
          clear H
          have H := H1
          clear H1
          replace H := Option.bind_eq_some_iff.mp H
          obtain ⟨⟨t234,t235,t236⟩,A320,H⟩ := H
          replace H : (spec_l8Right.j1 kj8 s0_0 t235 t236 (wrap64 (1 + t206)) t209 (wrap64 (2 + t212)) x225003_8 (wrap64 (1 + t218)) (wrap64 (1 + t234)) (wrap64 (1 + t221))) = some (r1,r2,r3,r4,r5,r6,r7,r8,r9,r10) := H
          have A32 := Aside0.mk A320
          clear A320
          have H' := Aside0.mk H
          clear H
          have hnb33 := NB224_205.out
          have hnc33 := NB205_224.out
          have hnb34 := NB224_0.out
          have hnc34 := NB0_224.out
          obtain ⟨hcz35_0,hcz35_1,hcz35_2,hcz35_3,hcz35_4,hcz35_5,hcz35_6,hcz35_7,hfz35_0,hfz35_1,hfz35_2,hfz35_3,hfz35_4,hfz35_5,hfz35_6,hfz35_7⟩ := spec_l8Right.cells8 BK224.out
          go_wp2_with (first | ((with_reducible refine gate_callee (f := 80) rfl ?_);refine goesL_ (some 35) rfl rfl Try.func80 (by kernel_rfl) rfl #[.pointer (some ⟨g,0,none⟩),.int .i64 (wrap64 (1 + t221))] rfl (by (try simp only [List.map_toArray,List.map_cons,List.map_nil]);first | done | rfl | (simp only [List.length_drop,List.length_take];rfl)) ?_;(with_reducible refine (spec_l1Below.calls g s0_0 t232 t233 (wrap64 (1 + t221)) t234 t235 t236 w0 _ ?side1 ?side2 A32.out).mono ?_);(case side1 => repeat (first | (with_reducible first | exact HI0.out | apply IsS136.alloc | apply IsS136.drewN | apply IsS136.drew | apply IsS136.set_1 | apply IsS136.set_2 | refine IsS136.far ?_ NB0_205.out _ | refine IsS136.far ?_ NB0_224.out _) | exact HI0.out));(case side2 => repeat (first | (with_reducible first | exact HB.out | apply below_alloc | apply pw_below_drewN | apply below_drew1 | refine below_set ?_ (IsS136.ge HI0.out) | refine below_set ?_ GE205.out | refine below_set ?_ GE224.out) | exact HB.out));rintro e w36 ⟨rfl,hi,hb,hk⟩;refine ⟨_,rfl,?_⟩;have n0_ := Aside0.mk (KeepBut.blk hk (g' := gb205) (o := .cells #[.int .i64 0,.int .i64 0,.int .i64 0,.int .i64 0,.int .i64 0,.int .i64 0,.int .i64 0,.slice none 0 0] 73 (0,0)) (by (with_reducible repeat (first | refine bA ?_ _ | refine bB ?_ | refine bC ?_ _));exact BK205.out) NB205_0.out (by simp));have n1_ := Aside0.mk (KeepBut.blk hk (g' := gb224) (o := .cells #[.int .i64 (wrap64 (1 + t206)),.int .i64 t209,.int .i64 (wrap64 (2 + t212)),.int .i64 x225003_8,.int .i64 (wrap64 (1 + t218)),.int .i64 1,.int .i64 (wrap64 (1 + t221)),.slice none 0 0] 73 (0,0)) (by (with_reducible repeat (first | refine bA ?_ _ | refine bB ?_ | refine bC ?_ _));exact BK224.out) NB224_0.out (by simp));have n2_ := Aside0.mk (KeepBut.trans (by repeat (first | (with_reducible first | exact HK.out | apply KeepBut.set_ | apply keep_drewN | apply keep_drew | apply keep_alloc | refine keep_far ?_ GW205.out _ | refine keep_far ?_ GW224.out _) | exact HK.out)) hk (.inl rfl));have n3_ := Aside0.mk (hb);have n4_ := Aside0.mk (hi);clear BK205;clear BK224;clear HK;clear HB;clear HI0;have BK205 := n0_;have BK224 := n1_;have HK := n2_;have HB := n3_;have HI0 := n4_;clear n0_ n1_ n2_ n3_ n4_;(try clear hb);(try clear hb2);(try clear hk);(try clear hi);obtain ⟨hcz37_0,hcz37_1,hcz37_2,hcz37_3,hcz37_4,hcz37_5,hcz37_6,hcz37_7,hfz37_0,hfz37_1,hfz37_2,hfz37_3,hfz37_4,hfz37_5,hfz37_6,hfz37_7⟩ := spec_l8Right.cells8 BK224.out))
          go_meet
          case rel => exact ⟨_,(t235),(t236),(wrap64 (1 + t234)),H',⟨by have := HJ8.out;first | omega | exact Nat.le_refl _⟩,⟨by (with_reducible repeat (first | refine bA ?_ _ | refine bB ?_ | refine bC ?_ _));refine blk_far ?_ NB205_224.out _;(with_reducible repeat (first | refine bA ?_ _ | refine bB ?_ | refine bC ?_ _));exact BK205.out⟩,⟨by (with_reducible repeat (first | refine bA ?_ _ | refine bB ?_ | refine bC ?_ _));refine blk_put (cs := #[.int .i64 (wrap64 (1 + t206)),.int .i64 t209,.int .i64 (wrap64 (2 + t212)),.int .i64 x225003_8,.int .i64 (wrap64 (1 + t218)),.int .i64 1,.int .i64 (wrap64 (1 + t221)),.slice none 0 0]) ?_ 5 _ rfl;(with_reducible repeat (first | refine bA ?_ _ | refine bB ?_ | refine bC ?_ _));exact BK224.out⟩,⟨by repeat (first | (with_reducible first | exact HI0.out | apply IsS136.alloc | apply IsS136.drewN | apply IsS136.drew | apply IsS136.set_1 | apply IsS136.set_2 | refine IsS136.far ?_ NB0_205.out _ | refine IsS136.far ?_ NB0_224.out _) | exact HI0.out)⟩,⟨by repeat (first | (with_reducible first | exact HK.out | apply KeepBut.set_ | apply keep_drewN | apply keep_drew | apply keep_alloc | refine keep_far ?_ GW205.out _ | refine keep_far ?_ GW224.out _) | exact HK.out)⟩,⟨by repeat (first | (with_reducible first | exact HB.out | apply below_alloc | apply pw_below_drewN | apply below_drew1 | refine below_set ?_ (IsS136.ge HI0.out) | refine below_set ?_ GE205.out | refine below_set ?_ GE224.out) | exact HB.out)⟩⟩
        · replace c31 := Bool.eq_false_iff.mpr c31
          subst c31
          have H1 : (spec_l8Right.j1 kj8 s0_0 t232 t233 (wrap64 (1 + t206)) t209 (wrap64 (2 + t212)) x225003_8 (wrap64 (1 + t218)) 1 (wrap64 (1 + t221))) = some (r1,r2,r3,r4,r5,r6,r7,r8,r9,r10) := by rw [if_neg (show ¬ (false = true) by decide)] at H;exact H
          clear H
          have H := H1
          clear H1
          have H' := Aside0.mk H
          clear H
          go_wp2
          go_meet
          case rel => exact ⟨_,(t232),(t233),(1),H',⟨by have := HJ8.out;first | omega | exact Nat.le_refl _⟩,⟨by (with_reducible repeat (first | refine bA ?_ _ | refine bB ?_ | refine bC ?_ _));exact BK205.out⟩,⟨by (with_reducible repeat (first | refine bA ?_ _ | refine bB ?_ | refine bC ?_ _));exact BK224.out⟩,⟨by repeat (first | (with_reducible first | exact HI0.out | apply IsS136.alloc | apply IsS136.drewN | apply IsS136.drew | apply IsS136.set_1 | apply IsS136.set_2 | refine IsS136.far ?_ NB0_205.out _ | refine IsS136.far ?_ NB0_224.out _) | exact HI0.out)⟩,⟨by repeat (first | (with_reducible first | exact HK.out | apply KeepBut.set_ | apply keep_drewN | apply keep_drew | apply keep_alloc | refine keep_far ?_ GW205.out _ | refine keep_far ?_ GW224.out _) | exact HK.out)⟩,⟨by repeat (first | (with_reducible first | exact HB.out | apply below_alloc | apply pw_below_drewN | apply below_drew1 | refine below_set ?_ (IsS136.ge HI0.out) | refine below_set ?_ GE205.out | refine below_set ?_ GE224.out) | exact HB.out)⟩⟩
      case rest =>
        clear HC29
        try clear c1
        try clear c2
        try clear p2
        try clear c3
        try clear p6
        try clear c7
        try clear c8
        try clear c13
        try clear c18
        try clear c19
        try clear c22
        try clear c25
        try clear c26
        try clear c31
        try clear c33
        try clear c34
        try clear hcz20_0
        try clear hcz20_1
        try clear hcz20_2
        try clear hcz20_3
        try clear hcz20_4
        try clear hcz20_5
        try clear hcz20_6
        try clear hcz20_7
        try clear hcz27_0
        try clear hcz27_1
        try clear hcz27_2
        try clear hcz27_3
        try clear hcz27_4
        try clear hcz27_5
        try clear hcz27_6
        try clear hcz27_7
        try clear hcz35_0
        try clear hcz35_1
        try clear hcz35_2
        try clear hcz35_3
        try clear hcz35_4
        try clear hcz35_5
        try clear hcz35_6
        try clear hcz35_7
        try clear hcz37_0
        try clear hcz37_1
        try clear hcz37_2
        try clear hcz37_3
        try clear hcz37_4
        try clear hcz37_5
        try clear hcz37_6
        try clear hcz37_7
        try clear hfz20_0
        try clear hfz20_1
        try clear hfz20_2
        try clear hfz20_3
        try clear hfz20_4
        try clear hfz20_5
        try clear hfz20_6
        try clear hfz20_7
        try clear hfz27_0
        try clear hfz27_1
        try clear hfz27_2
        try clear hfz27_3
        try clear hfz27_4
        try clear hfz27_5
        try clear hfz27_6
        try clear hfz27_7
        try clear hfz35_0
        try clear hfz35_1
        try clear hfz35_2
        try clear hfz35_3
        try clear hfz35_4
        try clear hfz35_5
        try clear hfz35_6
        try clear hfz35_7
        try clear hfz37_0
        try clear hfz37_1
        try clear hfz37_2
        try clear hfz37_3
        try clear hfz37_4
        try clear hfz37_5
        try clear hfz37_6
        try clear hfz37_7
        try clear p2
        try clear p6
        obtain ⟨kq,x1001_28,x1002_28,x225005_28,HA,HJ28,BK205,BK224,HI0,HK,HB⟩ := hcut
        cases kq with
        | zero => exact absurd HA.out (by simp [spec_l8Right.j1])
        | succ kj28 =>
          have H := HA.out
          clear HA
          simp only [spec_l8Right.j1] at H
          replace H := Option.bind_eq_some_iff.mp H
          obtain ⟨⟨t237,t238,t239⟩,A380,H⟩ := H
          replace H : (spec_l8Right.l0 kj28 t237 0 s0_0 t238 t239 (wrap64 (1 + t206)) t209 (wrap64 (2 + t212)) x225003_8 (wrap64 (1 + t218)) x225005_28 (wrap64 (1 + t221)) ([] : List Int)) = some (r1,r2,r3,r4,r5,r6,r7,r8,r9,r10) := H
          have A38 := Aside0.mk A380
          clear A380
          have H' := Aside0.mk H
          clear H
          go_wp2_with (first | ((with_reducible refine gate_callee (f := 80) rfl ?_);refine goesL_ (some 39) rfl rfl Try.func80 (by kernel_rfl) rfl #[.pointer (some ⟨g,0,none⟩),.int .i64 5] rfl (by (try simp only [List.map_toArray,List.map_cons,List.map_nil]);first | done | rfl | (simp only [List.length_drop,List.length_take];rfl)) ?_;(with_reducible refine (spec_l1Below.calls g s0_0 x1001_28 x1002_28 5 t237 t238 t239 w0 _ ?side1 ?side2 A38.out).mono ?_);(case side1 => repeat (first | (with_reducible first | exact HI0.out | apply IsS136.alloc | apply IsS136.drewN | apply IsS136.drew | apply IsS136.set_1 | apply IsS136.set_2 | refine IsS136.far ?_ NB0_205.out _ | refine IsS136.far ?_ NB0_224.out _) | exact HI0.out));(case side2 => repeat (first | (with_reducible first | exact HB.out | apply below_alloc | apply pw_below_drewN | apply below_drew1 | refine below_set ?_ (IsS136.ge HI0.out) | refine below_set ?_ GE205.out | refine below_set ?_ GE224.out) | exact HB.out));rintro e w39 ⟨rfl,hi,hb,hk⟩;refine ⟨_,rfl,?_⟩;have n0_ := Aside0.mk (KeepBut.blk hk (g' := gb205) (o := .cells #[.int .i64 0,.int .i64 0,.int .i64 0,.int .i64 0,.int .i64 0,.int .i64 0,.int .i64 0,.slice none 0 0] 73 (0,0)) (by (with_reducible repeat (first | refine bA ?_ _ | refine bB ?_ | refine bC ?_ _));exact BK205.out) NB205_0.out (by simp));have n1_ := Aside0.mk (KeepBut.blk hk (g' := gb224) (o := .cells #[.int .i64 (wrap64 (1 + t206)),.int .i64 t209,.int .i64 (wrap64 (2 + t212)),.int .i64 x225003_8,.int .i64 (wrap64 (1 + t218)),.int .i64 x225005_28,.int .i64 (wrap64 (1 + t221)),.slice none 0 0] 73 (0,0)) (by (with_reducible repeat (first | refine bA ?_ _ | refine bB ?_ | refine bC ?_ _));exact BK224.out) NB224_0.out (by simp));have n2_ := Aside0.mk (KeepBut.trans (by repeat (first | (with_reducible first | exact HK.out | apply KeepBut.set_ | apply keep_drewN | apply keep_drew | apply keep_alloc | refine keep_far ?_ GW205.out _ | refine keep_far ?_ GW224.out _) | exact HK.out)) hk (.inl rfl));have n3_ := Aside0.mk (hb);have n4_ := Aside0.mk (hi);clear BK205;clear BK224;clear HK;clear HB;clear HI0;have BK205 := n0_;have BK224 := n1_;have HK := n2_;have HB := n3_;have HI0 := n4_;clear n0_ n1_ n2_ n3_ n4_;(try clear hb);(try clear hb2);(try clear hk);(try clear hi)))
          go_loopg [5] kj28 (fun kq v5 w' => ∃ (x5_3 : Int) (x1001_3 : Int) (x1002_3 : Int) (x225007_3 : List Int) (u225007 : Value),v5 = .int .i64 x5_3 ∧ Aside0 (spec_l8Right.l0 kq t237 x5_3 s0_0 x1001_3 x1002_3 (wrap64 (1 + t206)) t209 (wrap64 (2 + t212)) x225003_8 (wrap64 (1 + t218)) x225005_28 (wrap64 (1 + t221)) x225007_3 = some (r1,r2,r3,r4,r5,r6,r7,r8,r9,r10)) ∧ Aside0 (kq ≤ kj28) ∧ Aside0 (Kd.R (Kd.int .i64) 3 w' w.heap.size (fun _ => True) u225007 x225007_3) ∧ Aside0 (w'.heap[gb205]? = some (.cells #[.int .i64 0,.int .i64 0,.int .i64 0,.int .i64 0,.int .i64 0,.int .i64 0,.int .i64 0,(.slice none 0 0)] 73 (0,0))) ∧ Aside0 (w'.heap[gb224]? = some (.cells #[.int .i64 (wrap64 (1 + t206)),.int .i64 t209,.int .i64 (wrap64 (2 + t212)),.int .i64 x225003_8,.int .i64 (wrap64 (1 + t218)),.int .i64 x225005_28,.int .i64 (wrap64 (1 + t221)),u225007] 73 (0,0))) ∧ Aside0 (IsS136 w0 w' g s0_0 x1001_3 x1002_3) ∧ Aside0 (KeepBut w w' g none) ∧ Aside0 (Below w0.heap.size w0 w'))
          case atStart => exact ⟨(0),(t238),(t239),(([] : List Int)),(.slice none 0 0),(by first | rfl | (simp;done) | (simp [*];done)),H',⟨Nat.le_refl _⟩,⟨by first | exact Kd.R_nil _ _ _ _ _ | exact Kd.N_nil _ _ _ _ _ | exact Kd.V_nil _ _ _ _ _ | exact Kd.Q_nil _ _ _ _ _ | exact Kd.S_nil _ _ _ _ _⟩,⟨by (with_reducible repeat (first | refine bA ?_ _ | refine bB ?_ | refine bC ?_ _));exact BK205.out⟩,⟨by (with_reducible repeat (first | refine bA ?_ _ | refine bB ?_ | refine bC ?_ _));exact BK224.out⟩,⟨by repeat (first | (with_reducible first | exact HI0.out | apply IsS136.alloc | apply IsS136.drewN | apply IsS136.drew | apply IsS136.set_1 | apply IsS136.set_2 | refine IsS136.far ?_ NB0_205.out _ | refine IsS136.far ?_ NB0_224.out _) | exact HI0.out)⟩,⟨by repeat (first | (with_reducible first | exact HK.out | apply KeepBut.set_ | apply keep_drewN | apply keep_drew | apply keep_alloc | refine keep_far ?_ GW205.out _ | refine keep_far ?_ GW224.out _) | exact HK.out)⟩,⟨by repeat (first | (with_reducible first | exact HB.out | apply below_alloc | apply pw_below_drewN | apply below_drew1 | refine below_set ?_ (IsS136.ge HI0.out) | refine below_set ?_ GE205.out | refine below_set ?_ GE224.out) | exact HB.out)⟩⟩
          case round =>
            clear H'
            try clear c1
            try clear c2
            try clear p2
            try clear c3
            try clear p6
            try clear c7
            try clear c8
            try clear c13
            try clear c18
            try clear c19
            try clear c22
            try clear c25
            try clear c26
            try clear c31
            try clear c33
            try clear c34
            try clear hcz20_0
            try clear hcz20_1
            try clear hcz20_2
            try clear hcz20_3
            try clear hcz20_4
            try clear hcz20_5
            try clear hcz20_6
            try clear hcz20_7
            try clear hcz27_0
            try clear hcz27_1
            try clear hcz27_2
            try clear hcz27_3
            try clear hcz27_4
            try clear hcz27_5
            try clear hcz27_6
            try clear hcz27_7
            try clear hcz35_0
            try clear hcz35_1
            try clear hcz35_2
            try clear hcz35_3
            try clear hcz35_4
            try clear hcz35_5
            try clear hcz35_6
            try clear hcz35_7
            try clear hcz37_0
            try clear hcz37_1
            try clear hcz37_2
            try clear hcz37_3
            try clear hcz37_4
            try clear hcz37_5
            try clear hcz37_6
            try clear hcz37_7
            try clear hfz20_0
            try clear hfz20_1
            try clear hfz20_2
            try clear hfz20_3
            try clear hfz20_4
            try clear hfz20_5
            try clear hfz20_6
            try clear hfz20_7
            try clear hfz27_0
            try clear hfz27_1
            try clear hfz27_2
            try clear hfz27_3
            try clear hfz27_4
            try clear hfz27_5
            try clear hfz27_6
            try clear hfz27_7
            try clear hfz35_0
            try clear hfz35_1
            try clear hfz35_2
            try clear hfz35_3
            try clear hfz35_4
            try clear hfz35_5
            try clear hfz35_6
            try clear hfz35_7
            try clear hfz37_0
            try clear hfz37_1
            try clear hfz37_2
            try clear hfz37_3
            try clear hfz37_4
            try clear hfz37_5
            try clear hfz37_6
            try clear hfz37_7
            try clear p2
            try clear p6
            obtain ⟨x5_3,x1001_3,x1002_3,x225007_3,u225007,rfl,HA,HK3,HO_225007,BK205,BK224,HI0,HK,HB⟩ := hrel
            cases gk with
            | zero => exact absurd HA.out (by simp [spec_l8Right.l0])
            | succ k3 =>
              have H := HA.out
              clear HA
              simp only [spec_l8Right.l0] at H
              by_cases c40 : x5_3 < t237
              · rw [if_pos c40] at H
                have c40b0 : decide (x5_3 < t237) = true := decide_eq_true c40
                clear c40
                replace H := Option.bind_eq_some_iff.mp H
                obtain ⟨⟨t240,t241,t242⟩,A410,H⟩ := H
                replace H : (if x225007_3.length < 17592186044416 then (spec_l8Right.l0 k3 t237 (wrap64 (x5_3 + 1)) s0_0 t241 t242 (wrap64 (1 + t206)) t209 (wrap64 (2 + t212)) x225003_8 (wrap64 (1 + t218)) x225005_28 (wrap64 (1 + t221)) (x225007_3 ++ [wrap64 (t240 - 1)])) else (none)) = some (r1,r2,r3,r4,r5,r6,r7,r8,r9,r10) := H
                have A41 := Aside0.mk A410
                clear A410
                by_cases c42 : x225007_3.length < 17592186044416
                · rw [if_pos c42] at H
                  have LMc42 := Aside0.mk c42
                  clear c42
                  obtain ⟨y243,hy243⟩ : ∃ y_ : List Int,y_ = (x225007_3 ++ [wrap64 (t240 - 1)]) := ⟨_,rfl⟩
                  replace H : (spec_l8Right.l0 k3 t237 (wrap64 (x5_3 + 1)) s0_0 t241 t242 (wrap64 (1 + t206)) t209 (wrap64 (2 + t212)) x225003_8 (wrap64 (1 + t218)) x225005_28 (wrap64 (1 + t221)) y243) = some (r1,r2,r3,r4,r5,r6,r7,r8,r9,r10) := by first | (rw [hy243];with_reducible exact H) | (have H2_ := (Option.bind_some _ _).symm.trans H;rw [hy243];with_reducible exact H2_) | (have H2_ := (Option.bind_some _ _).symm.trans H;with_reducible exact H2_) | with_reducible exact H | (rw [hy243];exact H) | exact H
                  have Ny243 := Aside0.mk hy243
                  clear hy243
                  have H' := Aside0.mk H
                  clear H
                  try go_wp2
                  have n0_ := Aside0.mk (Kd.R_drew HO_225007.out)
                  have n1_ := Aside0.mk (blk_drew BK205.out)
                  have n2_ := Aside0.mk (blk_drew BK224.out)
                  have n3_ := Aside0.mk (IsS136.drew HI0.out)
                  have n4_ := Aside0.mk (keep_drew HK.out)
                  have n5_ := Aside0.mk (below_drew1 HB.out)
                  clear HO_225007
                  clear BK205
                  clear BK224
                  clear HI0
                  clear HK
                  clear HB
                  have HO_225007 := n0_
                  have BK205 := n1_
                  have BK224 := n2_
                  have HI0 := n3_
                  have HK := n4_
                  have HB := n5_
                  clear n0_ n1_ n2_ n3_ n4_ n5_
                  refine start_ (n := 9) (S := fun w' => w'.cell? ⟨gb224,0,none⟩ = some (.int .i64 (wrap64 (1 + t206))) ∧ w'.cell? ⟨gb224,1,none⟩ = some (.int .i64 t209) ∧ w'.cell? ⟨gb224,2,none⟩ = some (.int .i64 (wrap64 (2 + t212))) ∧ w'.cell? ⟨gb224,3,none⟩ = some (.int .i64 x225003_8) ∧ w'.cell? ⟨gb224,4,none⟩ = some (.int .i64 (wrap64 (1 + t218))) ∧ w'.cell? ⟨gb224,5,none⟩ = some (.int .i64 x225005_28) ∧ w'.cell? ⟨gb224,6,none⟩ = some (.int .i64 (wrap64 (1 + t221))) ∧ w'.cell? ⟨gb224,7,none⟩ = some (u225007)) (ds := [8]) #[false,false,false,false,false,false,false,false,false] (by kernel_rfl) rfl rfl ⟨(blk_cell BK224.out 0).trans rfl,(blk_cell BK224.out 1).trans rfl,(blk_cell BK224.out 2).trans rfl,(blk_cell BK224.out 3).trans rfl,(blk_cell BK224.out 4).trans rfl,(blk_cell BK224.out 5).trans rfl,(blk_cell BK224.out 6).trans rfl,(blk_cell BK224.out 7).trans rfl⟩ (fun hHeld => ?_);refine with_tabW spec_l8Right.tab10 spec_l8Right.bits10 (fun HT_ HW_ => ?_)
                  generalize wr.drew = w43 at HO_225007 BK205 BK224 HI0 HK HB hHeld ⊢
                  refine pure_ (i := 0) (N := some 45) (v := ?_) (a' := ?_) #[true,false,false,false,false,false,false,false,false] rfl rfl (any_of HT_.out (by kernel_rfl)) (fun _ _ _ h => h) (Or.inl ⟨by rfl,?_⟩) ?_ ?_
                  rotate_left
                  · intro w'
                    go_simp
                    with_reducible rfl
                  rotate_left
                  · simp only [Act.put,List.setIfInBounds_toArray,List.set_cons_zero,List.set_cons_succ,i64_w,i32_w]
                    rfl
                  refine pure_ (i := 2) (N := some 47) (v := ?_) (a' := ?_) #[true,false,true,false,false,false,false,false,false] rfl rfl (any_of HT_.out (by kernel_rfl)) (fun _ _ _ h => h) (Or.inl ⟨by rfl,?_⟩) ?_ ?_
                  rotate_left
                  · intro w'
                    go_simp
                    with_reducible rfl
                  rotate_left
                  · simp only [Act.put,List.setIfInBounds_toArray,List.set_cons_zero,List.set_cons_succ,i64_w,i32_w]
                    rfl
                  refine take_ (i := 1) (N := some 46) (v := ?_) (a' := ?_) #[true,true,true,false,false,false,false,false,false] rfl rfl (take_ofW HT_.out HW_.out (by kernel_rfl)) (fun _ _ _ h => h) (Or.inl ⟨by rfl,?_⟩) hHeld ?_ ?_
                  rotate_left
                  · rintro w' ⟨s0,s1,s2,s3,s4,s5,s6,s7⟩
                    go_simp
                    with_reducible rfl
                  rotate_left
                  · simp only [Act.put,List.setIfInBounds_toArray,List.set_cons_zero,List.set_cons_succ,i64_w,i32_w]
                    rfl
                  refine one_ (i := 3) (N := some 48) #[true,true,true,true,false,false,false,false,false] rfl rfl (one_of HT_.out (by kernel_rfl)) (by decide) (fun K hK => ?_)
                  refine goes_ Try.func80 (by kernel_rfl) rfl #[.pointer (some ⟨g,0,none⟩),.int .i64 3] (by rfl) rfl rfl (by (try simp only [List.map_toArray,List.map_cons,List.map_nil]);first | done | rfl | (simp only [List.length_drop,List.length_take];rfl)) ?_
                  with_reducible refine (spec_l1Below.calls g s0_0 x1001_3 x1002_3 3 t240 t241 t242 w0 _ ?side1 ?side2 A41.out).mono ?_
                  (case side1 => repeat (first | (with_reducible first | exact HI0.out | apply IsS136.alloc | apply IsS136.drewN | apply IsS136.drew | apply IsS136.set_1 | apply IsS136.set_2 | refine IsS136.far ?_ NB0_205.out _ | refine IsS136.far ?_ NB0_224.out _) | exact HI0.out))
                  (case side2 => repeat (first | (with_reducible first | exact HB.out | apply below_alloc | apply pw_below_drewN | apply below_drew1 | refine below_set ?_ (IsS136.ge HI0.out) | refine below_set ?_ GE205.out | refine below_set ?_ GE224.out) | exact HB.out))
                  rintro e w44 ⟨rfl,hi,hb,hk⟩
                  refine ⟨_,rfl,?_⟩
                  have n0_ := Aside0.mk (Kd.R_mono (Kd.R_keep (IsS136.apart (show IsS136 w0 _ g s0_0 x1001_3 x1002_3 from by repeat (first | (with_reducible first | exact HI0.out | apply IsS136.alloc | apply IsS136.drewN | apply IsS136.drew | apply IsS136.set_1 | apply IsS136.set_2 | refine IsS136.far ?_ NB0_205.out _ | refine IsS136.far ?_ NB0_224.out _) | exact HI0.out)) (by (with_reducible repeat (first | apply Kd.R_alloc | apply Kd.R_drewN | apply Kd.R_drew));exact HO_225007.out) (by decide)) hk (fun _ h => h.2)) (fun _ h => h.1))
                  have n1_ := Aside0.mk (KeepBut.blk hk (g' := gb205) (o := .cells #[.int .i64 0,.int .i64 0,.int .i64 0,.int .i64 0,.int .i64 0,.int .i64 0,.int .i64 0,.slice none 0 0] 73 (0,0)) (by (with_reducible repeat (first | refine bA ?_ _ | refine bB ?_ | refine bC ?_ _));exact BK205.out) NB205_0.out (by simp))
                  have n2_ := Aside0.mk (KeepBut.blk hk (g' := gb224) (o := .cells #[.int .i64 (wrap64 (1 + t206)),.int .i64 t209,.int .i64 (wrap64 (2 + t212)),.int .i64 x225003_8,.int .i64 (wrap64 (1 + t218)),.int .i64 x225005_28,.int .i64 (wrap64 (1 + t221)),u225007] 73 (0,0)) (by (with_reducible repeat (first | refine bA ?_ _ | refine bB ?_ | refine bC ?_ _));exact BK224.out) NB224_0.out (by simp))
                  have n3_ := Aside0.mk (KeepBut.trans (by repeat (first | (with_reducible first | exact HK.out | apply KeepBut.set_ | apply keep_drewN | apply keep_drew | apply keep_alloc | refine keep_far ?_ GW205.out _ | refine keep_far ?_ GW224.out _) | exact HK.out)) hk (.inl rfl))
                  have n4_ := Aside0.mk (hb)
                  have n5_ := Aside0.mk (hi)
                  clear HO_225007
                  clear BK205
                  clear BK224
                  clear HK
                  clear HB
                  clear HI0
                  have HO_225007 := n0_
                  have BK205 := n1_
                  have BK224 := n2_
                  have HK := n3_
                  have HB := n4_
                  have HI0 := n5_
                  clear n0_ n1_ n2_ n3_ n4_ n5_
                  (try clear hb)
                  (try clear hb2)
                  (try clear hk)
                  (try clear hi)
                  refine hK.out _ _ ⟨(blk_cell BK224.out 0).trans rfl,(blk_cell BK224.out 1).trans rfl,(blk_cell BK224.out 2).trans rfl,(blk_cell BK224.out 3).trans rfl,(blk_cell BK224.out 4).trans rfl,(blk_cell BK224.out 5).trans rfl,(blk_cell BK224.out 6).trans rfl,(blk_cell BK224.out 7).trans rfl⟩ (fun hHeld => ?_)
                  clear hK K
                  refine norm_ (a' := ?_) ?_ ?_
                  rotate_left
                  · show Act.put _ (some 48) _ = _
                    simp only [Act.put,List.setIfInBounds_toArray,List.set_cons_zero,List.set_cons_succ,i64_w,i32_w]
                    rfl
                  refine pure_ (i := 4) (N := some 49) (v := ?_) (a' := ?_) #[true,true,true,true,true,false,false,false,false] rfl rfl (any_of HT_.out (by kernel_rfl)) (fun _ _ _ h => h) (Or.inl ⟨by rfl,?_⟩) ?_ ?_
                  rotate_left
                  · intro w'
                    go_simp
                    with_reducible rfl
                  rotate_left
                  · simp only [Act.put,List.setIfInBounds_toArray,List.set_cons_zero,List.set_cons_succ,i64_w,i32_w]
                    rfl
                  refine one_ (i := 5) (N := some 50) #[true,true,true,true,true,true,false,false,false] rfl rfl (one_of HT_.out (by kernel_rfl)) (by decide) (fun K hK => ?_)
                  refine value_ (w1 := ?_) (v := ?_) (by rfl) rfl ?_ ?_
                  rotate_left 2
                  · go_simp
                    constructor
                    · rfl
                    · rfl
                  refine hK.out _ _ ⟨(blk_cell (blk_alloc BK224.out _) 0).trans rfl,(blk_cell (blk_alloc BK224.out _) 1).trans rfl,(blk_cell (blk_alloc BK224.out _) 2).trans rfl,(blk_cell (blk_alloc BK224.out _) 3).trans rfl,(blk_cell (blk_alloc BK224.out _) 4).trans rfl,(blk_cell (blk_alloc BK224.out _) 5).trans rfl,(blk_cell (blk_alloc BK224.out _) 6).trans rfl,(blk_cell (blk_alloc BK224.out _) 7).trans rfl⟩ (fun hHeld => ?_)
                  clear hK K
                  refine norm_ (a' := ?_) ?_ ?_
                  rotate_left
                  · show Act.put _ (some 50) _ = _
                    simp only [Act.put,List.setIfInBounds_toArray,List.set_cons_zero,List.set_cons_succ,i64_w,i32_w]
                    rfl
                  refine one_ (i := 6) (N := some 51) #[true,true,true,true,true,true,true,false,false] rfl rfl (one_of HT_.out (by kernel_rfl)) (by decide) (fun K hK => ?_)
                  refine Kd.R_append_step (Kd.int .i64) w.heap.size (by rfl) (.tmp 46) (.tmp 50) 48 3 (.int .i64 0) 8 rfl Try.underlying48 info3 rfl (by decide) (by omega) u225007 x225007_3 (wrap64 (t240 - 1)) [.int .i64 (wrap64 (t240 - 1))] (fun _ => True) (fun _ => False) rfl rfl ?aP (fun _ hk => hk.elim) ?aF ?aO (Below.refl _ _) ?aS ?aL ?_
                  (case aP => exact rfl)
                  (case aF => exact (fun _ _ => trivial))
                  (case aO => exact (by (with_reducible repeat (first | apply Kd.R_alloc | apply Kd.R_drewN | apply Kd.R_drew));exact HO_225007.out))
                  (case aS => exact (keep_size (w := w) (g := g) (row := none) (by repeat (first | (with_reducible first | exact HK.out | apply KeepBut.set_ | apply keep_drewN | apply keep_drew | apply keep_alloc | refine keep_far ?_ GW205.out _ | refine keep_far ?_ GW224.out _) | exact HK.out))))
                  (case aL => have := LMc42.out;omega)
                  intro v244 w45 ho hb hg hat
                  rw [← Ny243.out] at ho
                  have n0_ := Aside0.mk (blk_grown (g := gb205) (o := .cells #[.int .i64 0,.int .i64 0,.int .i64 0,.int .i64 0,.int .i64 0,.int .i64 0,.int .i64 0,.slice none 0 0] 73 (0,0)) (by (with_reducible repeat (first | refine bA ?_ _ | refine bB ?_ | refine bC ?_ _));exact BK205.out) hg (Kd.R_ne HO_225007.out BK205.out (by decide)))
                  have n1_ := Aside0.mk (blk_grown (g := gb224) (o := .cells #[.int .i64 (wrap64 (1 + t206)),.int .i64 t209,.int .i64 (wrap64 (2 + t212)),.int .i64 x225003_8,.int .i64 (wrap64 (1 + t218)),.int .i64 x225005_28,.int .i64 (wrap64 (1 + t221)),u225007] 73 (0,0)) (by (with_reducible repeat (first | refine bA ?_ _ | refine bB ?_ | refine bC ?_ _));exact BK224.out) hg (Kd.R_ne HO_225007.out BK224.out (by decide)))
                  have n2_ := Aside0.mk (IsS136.grown (by repeat (first | (with_reducible first | exact HI0.out | apply IsS136.alloc | apply IsS136.drewN | apply IsS136.drew | apply IsS136.set_1 | apply IsS136.set_2 | refine IsS136.far ?_ NB0_205.out _ | refine IsS136.far ?_ NB0_224.out _) | exact HI0.out)) hg (IsS136.own_ne HI0.out HO_225007.out (by decide)))
                  have n3_ := Aside0.mk (below_weaken (by repeat (first | (with_reducible first | exact HB.out | apply below_alloc | apply pw_below_drewN | apply below_drew1 | refine below_set ?_ (IsS136.ge HI0.out) | refine below_set ?_ GE205.out | refine below_set ?_ GE224.out) | exact HB.out)) HL.out hb)
                  have n4_ := Aside0.mk (KeepBut.trans (by repeat (first | (with_reducible first | exact HK.out | apply KeepBut.set_ | apply keep_drewN | apply keep_drew | apply keep_alloc | refine keep_far ?_ GW205.out _ | refine keep_far ?_ GW224.out _) | exact HK.out)) (KeepBut.of_grown hg g) (Kd.R_base2 HO_225007.out))
                  have n5_ := Aside0.mk (ho)
                  clear BK205
                  clear BK224
                  clear HI0
                  clear HB
                  clear HK
                  clear HO_225007
                  have BK205 := n0_
                  have BK224 := n1_
                  have HI0 := n2_
                  have HB := n3_
                  have HK := n4_
                  have HO245 := n5_
                  clear n0_ n1_ n2_ n3_ n4_ n5_
                  clear ho hb hg hat
                  obtain ⟨Ao46,co46,eo46⟩ := Kd.R_slice HO245.out
                  (first | subst eo46 | (injection eo46 with f1_ f2_ f3_;have f4_ := f1_.symm;have f5_ := f3_.symm;clear f1_ f2_ f3_;subst f4_;subst f5_))
                  refine hK.out _ _ ⟨(blk_cell BK224.out 0).trans rfl,(blk_cell BK224.out 1).trans rfl,(blk_cell BK224.out 2).trans rfl,(blk_cell BK224.out 3).trans rfl,(blk_cell BK224.out 4).trans rfl,(blk_cell BK224.out 5).trans rfl,(blk_cell BK224.out 6).trans rfl,(blk_cell BK224.out 7).trans rfl⟩ (fun hHeld => ?_)
                  clear hK K
                  refine norm_ (a' := ?_) ?_ ?_
                  rotate_left
                  · show Act.put _ (some 51) _ = _
                    simp only [Act.put,List.setIfInBounds_toArray,List.set_cons_zero,List.set_cons_succ,i64_w,i32_w]
                    rfl
                  refine pure_ (i := 7) (N := some 52) (v := ?_) (a' := ?_) #[true,true,true,true,true,true,true,true,false] rfl rfl (any_of HT_.out (by kernel_rfl)) (fun _ _ _ h => h) (Or.inl ⟨by rfl,?_⟩) ?_ ?_
                  rotate_left
                  · intro w'
                    go_simp
                    with_reducible rfl
                  rotate_left
                  · simp only [Act.put,List.setIfInBounds_toArray,List.set_cons_zero,List.set_cons_succ,i64_w,i32_w]
                    rfl
                  refine last_ (i := 8) (N := none) #[true,true,true,true,true,true,true,true,true] rfl rfl (one_of HT_.out (by kernel_rfl)) (by decide) (fun K hK => ?_)
                  have hs47 : w45.cell? ⟨gb224,7,none⟩ = some (u225007) := (blk_cell BK224.out 7).trans rfl
                  have hfs47 := blk_frozen BK224.out 7
                  have hns47_0 := NB205_224.out
                  have hms47_0 := NB224_205.out
                  refine skip_ (w1 := ?_) (by rfl) rfl ?_ ?_
                  rotate_left
                  · go_simp
                    rfl
                  refine hK.out _ _ ?_
                  clear hK K
                  refine done_ (done_of HT_.out (by kernel_rfl)) ?_
                  try go_wp2
                  go_roundg k3
                  case measure => have := HJ8.out;have := HJ28.out;have := HK3.out;omega
                  case rel => exact ⟨(wrap64 (x5_3 + 1)),(t241),(t242),(y243),(.slice Ao46 y243.length co46),(by first | rfl | (simp;done) | (simp [*];done)),H',⟨by have := HJ8.out;have := HJ28.out;have := HK3.out;omega⟩,⟨by (with_reducible repeat (first | apply Kd.R_alloc | apply Kd.R_drewN | apply Kd.R_drew));exact Kd.R_mono (Kd.R_far (p := ⟨gb224,7,none⟩) (Kd.R_types HO245.out BK224.out (by decide)) (fun _ hk => hk.2) (.slice Ao46 y243.length co46)) (fun _ hk => trivial)⟩,⟨by (with_reducible repeat (first | refine bA ?_ _ | refine bB ?_ | refine bC ?_ _));refine blk_far ?_ NB205_224.out _;(with_reducible repeat (first | refine bA ?_ _ | refine bB ?_ | refine bC ?_ _));exact BK205.out⟩,⟨by (with_reducible repeat (first | refine bA ?_ _ | refine bB ?_ | refine bC ?_ _));refine blk_put (cs := #[.int .i64 (wrap64 (1 + t206)),.int .i64 t209,.int .i64 (wrap64 (2 + t212)),.int .i64 x225003_8,.int .i64 (wrap64 (1 + t218)),.int .i64 x225005_28,.int .i64 (wrap64 (1 + t221)),u225007]) ?_ 7 _ rfl;(with_reducible repeat (first | refine bA ?_ _ | refine bB ?_ | refine bC ?_ _));exact BK224.out⟩,⟨by repeat (first | (with_reducible first | exact HI0.out | apply IsS136.alloc | apply IsS136.drewN | apply IsS136.drew | apply IsS136.set_1 | apply IsS136.set_2 | refine IsS136.far ?_ NB0_205.out _ | refine IsS136.far ?_ NB0_224.out _) | exact HI0.out)⟩,⟨by repeat (first | (with_reducible first | exact HK.out | apply KeepBut.set_ | apply keep_drewN | apply keep_drew | apply keep_alloc | refine keep_far ?_ GW205.out _ | refine keep_far ?_ GW224.out _) | exact HK.out)⟩,⟨by repeat (first | (with_reducible first | exact HB.out | apply below_alloc | apply pw_below_drewN | apply below_drew1 | refine below_set ?_ (IsS136.ge HI0.out) | refine below_set ?_ GE205.out | refine below_set ?_ GE224.out) | exact HB.out)⟩⟩
                · rw [if_neg c42] at H
                  exact absurd H (by simp)
              · rw [if_neg c40] at H
                have c40b0 : decide (x5_3 < t237) = false := decide_eq_false c40
                clear c40
                simp only [Option.some.injEq,Prod.mk.injEq] at H
                obtain ⟨rfl,rfl,rfl,rfl,rfl,rfl,rfl,rfl,rfl,rfl⟩ := H
                have hnb48 := NB224_205.out
                have hnc48 := NB205_224.out
                have hnb49 := NB224_0.out
                have hnc49 := NB0_224.out
                obtain ⟨hcz50_0,hcz50_1,hcz50_2,hcz50_3,hcz50_4,hcz50_5,hcz50_6,hcz50_7,hfz50_0,hfz50_1,hfz50_2,hfz50_3,hfz50_4,hfz50_5,hfz50_6,hfz50_7⟩ := spec_l8Right.cells8 BK224.out
                have hnb51 := NB205_0.out
                have hnc51 := NB0_205.out
                obtain ⟨hcz52_0,hcz52_1,hcz52_2,hcz52_3,hcz52_4,hcz52_5,hcz52_6,hcz52_7,hfz52_0,hfz52_1,hfz52_2,hfz52_3,hfz52_4,hfz52_5,hfz52_6,hfz52_7⟩ := spec_l8Right.cells8 BK205.out
                obtain ⟨Ao53,co53,eo53⟩ := Kd.R_slice HO_225007.out
                subst eo53
                go_wp2
                refine bodyPost_ret (results_cell_row rfl _ _ gb205 73 #[.int .i64 (wrap64 (1 + t206)),.int .i64 t209,.int .i64 (wrap64 (2 + t212)),.int .i64 x225003_8,.int .i64 (wrap64 (1 + t218)),.int .i64 x225005_28,.int .i64 (wrap64 (1 + t221)),.slice Ao53 x225007_3.length co53] (0,0) _ rfl (by (with_reducible repeat (first | refine bA ?_ _ | refine bB ?_ | refine bC ?_ _));refine blk_put (cs := #[.int .i64 (wrap64 (1 + t206)),.int .i64 t209,.int .i64 (wrap64 (2 + t212)),.int .i64 x225003_8,.int .i64 (wrap64 (1 + t218)),.int .i64 x225005_28,.int .i64 (wrap64 (1 + t221)),.slice none 0 0]) ?_ 7 _ rfl;(with_reducible repeat (first | refine bA ?_ _ | refine bB ?_ | refine bC ?_ _));refine blk_put (cs := #[.int .i64 (wrap64 (1 + t206)),.int .i64 t209,.int .i64 (wrap64 (2 + t212)),.int .i64 x225003_8,.int .i64 (wrap64 (1 + t218)),.int .i64 x225005_28,.int .i64 0,.slice none 0 0]) ?_ 6 _ rfl;(with_reducible repeat (first | refine bA ?_ _ | refine bB ?_ | refine bC ?_ _));refine blk_put (cs := #[.int .i64 (wrap64 (1 + t206)),.int .i64 t209,.int .i64 (wrap64 (2 + t212)),.int .i64 x225003_8,.int .i64 (wrap64 (1 + t218)),.int .i64 0,.int .i64 0,.slice none 0 0]) ?_ 5 _ rfl;(with_reducible repeat (first | refine bA ?_ _ | refine bB ?_ | refine bC ?_ _));refine blk_put (cs := #[.int .i64 (wrap64 (1 + t206)),.int .i64 t209,.int .i64 (wrap64 (2 + t212)),.int .i64 x225003_8,.int .i64 0,.int .i64 0,.int .i64 0,.slice none 0 0]) ?_ 4 _ rfl;(with_reducible repeat (first | refine bA ?_ _ | refine bB ?_ | refine bC ?_ _));refine blk_put (cs := #[.int .i64 (wrap64 (1 + t206)),.int .i64 t209,.int .i64 (wrap64 (2 + t212)),.int .i64 0,.int .i64 0,.int .i64 0,.int .i64 0,.slice none 0 0]) ?_ 3 _ rfl;(with_reducible repeat (first | refine bA ?_ _ | refine bB ?_ | refine bC ?_ _));refine blk_put (cs := #[.int .i64 (wrap64 (1 + t206)),.int .i64 t209,.int .i64 0,.int .i64 0,.int .i64 0,.int .i64 0,.int .i64 0,.slice none 0 0]) ?_ 2 _ rfl;(with_reducible repeat (first | refine bA ?_ _ | refine bB ?_ | refine bC ?_ _));refine blk_put (cs := #[.int .i64 (wrap64 (1 + t206)),.int .i64 0,.int .i64 0,.int .i64 0,.int .i64 0,.int .i64 0,.int .i64 0,.slice none 0 0]) ?_ 1 _ rfl;(with_reducible repeat (first | refine bA ?_ _ | refine bB ?_ | refine bC ?_ _));refine blk_put (cs := #[.int .i64 0,.int .i64 0,.int .i64 0,.int .i64 0,.int .i64 0,.int .i64 0,.int .i64 0,.slice none 0 0]) ?_ 0 _ rfl;(with_reducible repeat (first | refine bA ?_ _ | refine bB ?_ | refine bC ?_ _));exact BK205.out) Try.underlying73 rfl (by kernel_rfl)) rfl ?_
                exact ⟨_,by first | rfl | (simp [errW_none,errW_some] <;> rfl) | (simp [*,errW_none,errW_some] <;> rfl),by (with_reducible repeat (first | apply Kd.R_alloc | apply Kd.R_drewN | apply Kd.R_drew));exact Kd.R_mono (Kd.R_far (p := ⟨gb205,7,none⟩) (Kd.R_far (p := ⟨gb205,6,none⟩) (Kd.R_far (p := ⟨gb205,5,none⟩) (Kd.R_far (p := ⟨gb205,4,none⟩) (Kd.R_far (p := ⟨gb205,3,none⟩) (Kd.R_far (p := ⟨gb205,2,none⟩) (Kd.R_far (p := ⟨gb205,1,none⟩) (Kd.R_far (p := ⟨gb205,0,none⟩) (Kd.R_types HO_225007.out BK205.out (by decide)) (fun _ hk => hk.2) (.int .i64 (wrap64 (1 + t206)))) (fun _ hk => hk.2) (.int .i64 t209)) (fun _ hk => hk.2) (.int .i64 (wrap64 (2 + t212)))) (fun _ hk => hk.2) (.int .i64 x225003_8)) (fun _ hk => hk.2) (.int .i64 (wrap64 (1 + t218)))) (fun _ hk => hk.2) (.int .i64 x225005_28)) (fun _ hk => hk.2) (.int .i64 (wrap64 (1 + t221)))) (fun _ hk => hk.2) (.slice Ao53 x225007_3.length co53)) (fun _ hk => trivial),by repeat (first | (with_reducible first | exact HI0.out | apply IsS136.alloc | apply IsS136.drewN | apply IsS136.drew | apply IsS136.set_1 | apply IsS136.set_2 | refine IsS136.far ?_ NB0_205.out _ | refine IsS136.far ?_ NB0_224.out _) | exact HI0.out),by repeat (first | (with_reducible first | exact HB.out | apply below_alloc | apply pw_below_drewN | apply below_drew1 | refine below_set ?_ (IsS136.ge HI0.out) | refine below_set ?_ GE205.out | refine below_set ?_ GE224.out) | exact HB.out),by repeat (first | (with_reducible first | exact HK.out | apply KeepBut.set_ | apply keep_drewN | apply keep_drew | apply keep_alloc | refine keep_far ?_ GW205.out _ | refine keep_far ?_ GW224.out _) | exact HK.out)⟩

end Go.Proofs.Ytohngimlmcdiiaa.QFnSideValues
