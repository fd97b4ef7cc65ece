/- The machine side of FnExactReadTable: what each Go function that it reaches comes to. Conditions: none. -/
import Derived.Test.YtepnbcdbagjmbaaDoorQFnExactReadTablex0
namespace Go.Proofs.YtepnbcdbagjmbaaDoor.QFnExactReadTable
open Go.RowKit Go.Proofs.YtepnbcdbagjmbaaDoorW.PrintWords Go.Proofs.YtepnbcdbagjmbaaDoorW.PrintLast Go.Proofs.YtepnbcdbagjmbaaDoorW.PrintMore
attribute [local go_sem] max2_int min2_int max_two min_two max_three min_three max_four min_four   -- for this text's walks alone
set_option linter.unusedVariables false
set_option linter.unusedSimpArgs false

/-- A state of type 59 at block g of W; what its slices lead to came in by w0. -/
def IsS59 (w0 W : World) (g : Nat) (f0 : ByteArray) (f1 : Int) : Prop := W.heap[g]? = some (.cells #[.string f0, .int .i64 f1] 59 (0, 0)) ∧ w0.heap.size ≤ g
theorem IsS59.grown {w0 W : World} {g : Nat} {f0 : ByteArray} {f1 : Int} {W1 : World} {row : Option Nat} (h : IsS59 w0 W g f0 f1) (hw : W.grownBy W1 row) (hne : some g ≠ row) : IsS59 w0 W1 g f0 f1 := by
 obtain ⟨hb, hg⟩ := h
 exact ⟨blk_grown hb hw hne, hg⟩
theorem IsS59.own_neN {w0 W : World} {g : Nat} {f0 : ByteArray} {f1 : Int} {α : Type} {d : Kd α} {e : Nat} {base : Nat} {ok : Nat → Prop} {v : Value} {xs : List α} (h : IsS59 w0 W g f0 f1) (ho : Kd.N d e W base ok v xs) (ht : e ≠ 59) : some g ≠ v.ownBlock := by
 obtain ⟨hb, hg⟩ := h
 exact Kd.N_ne ho hb ht
theorem IsS59.fresh {w0 W : World} {g : Nat} {f0 : ByteArray} {f1 : Int} (h : IsS59 w0 W g f0 f1) : ∀ k, W.heap.size ≤ k → k ≠ g := by
 obtain ⟨hb, hg⟩ := h
 exact Kd.freshB hb
theorem IsS59.kept {w0 W : World} {g : Nat} {f0 : ByteArray} {f1 : Int} {W1 : World} {S : Nat → Prop} (h : IsS59 w0 W g f0 f1) (hk : Kept W W1 S) (hne : ¬ S g) : IsS59 w0 W1 g f0 f1 := by
 obtain ⟨hb, hg⟩ := h
 exact ⟨blk_kept hb hk hne, hg⟩
theorem IsS59.below {w0 W : World} {g : Nat} {f0 : ByteArray} {f1 : Int} {W1 : World} (h : IsS59 w0 W g f0 f1) (hw : Below W.heap.size W W1) : IsS59 w0 W1 g f0 f1 := h.grown (grown_of_below hw none) Z342
theorem IsS59.alloc {w0 W : World} {g : Nat} {f0 : ByteArray} {f1 : Int} (h : IsS59 w0 W g f0 f1) (o : Obj) : IsS59 w0 (W.alloc o) g f0 f1 := h.below (below_alloc (Below.refl _ _) o)
theorem IsS59.drewN {w0 W : World} {g : Nat} {f0 : ByteArray} {f1 : Int} (h : IsS59 w0 W g f0 f1) (m : Nat) : IsS59 w0 (W.drewN m) g f0 f1 := h
theorem IsS59.drew {w0 W : World} {g : Nat} {f0 : ByteArray} {f1 : Int} (h : IsS59 w0 W g f0 f1) : IsS59 w0 W.drew g f0 f1 := h
theorem IsS59.at_ {w0 W : World} {g : Nat} {f0 : ByteArray} {f1 : Int} {w' : World} {m : Nat} (hq : W.drewN m = w') (h : IsS59 w0 W g f0 f1) : IsS59 w0 w' g f0 f1 := by subst hq; exact IsS59.drewN h m
theorem IsS59.apart {w0 W : World} {g : Nat} {f0 : ByteArray} {f1 : Int} {α : Type} {d : Kd α} {e : Nat} {base : Nat} {ok : Nat → Prop} {v : Value} {xs : List α} (h : IsS59 w0 W g f0 f1) (ho : d.R e W base ok v xs) (ht : ∀ q, q ∈ e :: d.E → q ≠ 59) : d.R e W base (fun k => ok k ∧ k ≠ g) v xs := by
 obtain ⟨hb, hg⟩ := h
 exact Kd.R_types ho hb ht
theorem IsS59.own_ne {w0 W : World} {g : Nat} {f0 : ByteArray} {f1 : Int} {α : Type} {d : Kd α} {e : Nat} {base : Nat} {ok : Nat → Prop} {v : Value} {xs : List α} (h : IsS59 w0 W g f0 f1) (ho : d.R e W base ok v xs) (ht : e ≠ 59) : some g ≠ v.ownBlock := by
 obtain ⟨hb, hg⟩ := h
 exact Kd.R_ne ho hb ht
theorem IsS59.apartQ {w0 W : World} {g : Nat} {f0 : ByteArray} {f1 : Int} {α : Type} {d : Kd α} {e : Nat} {base : Nat} {ok : Nat → Prop} {v : Value} {xs : List α} (h : IsS59 w0 W g f0 f1) (ho : d.Q e W base ok v xs) (ht : ∀ q, q ∈ e :: d.E → q ≠ 59) : d.Q e W base (fun k => ok k ∧ k ≠ g) v xs := by
 obtain ⟨hb, hg⟩ := h
 exact Kd.Q_types ho hb ht
theorem IsS59.own_neQ {w0 W : World} {g : Nat} {f0 : ByteArray} {f1 : Int} {α : Type} {d : Kd α} {e : Nat} {base : Nat} {ok : Nat → Prop} {v : Value} {xs : List α} (h : IsS59 w0 W g f0 f1) (ho : d.Q e W base ok v xs) (ht : e ≠ 59) : some g ≠ v.ownBlock := by
 obtain ⟨hb, hg⟩ := h
 exact Kd.Q_ne ho hb ht
theorem IsS59.apartS {w0 W : World} {g : Nat} {f0 : ByteArray} {f1 : Int} {α : Type} {d : Kd α} {e : Nat} {base : Nat} {ok : Nat → Prop} {v : Value} {xs : List α} (h : IsS59 w0 W g f0 f1) (ho : d.S e W base ok v xs) (ht : ∀ q, q ∈ e :: d.E → q ≠ 59) : d.S e W base (fun k => ok k ∧ k ≠ g) v xs := by
 obtain ⟨hb, hg⟩ := h
 exact Kd.S_types ho hb ht
theorem IsS59.own_neS {w0 W : World} {g : Nat} {f0 : ByteArray} {f1 : Int} {α : Type} {d : Kd α} {e : Nat} {base : Nat} {ok : Nat → Prop} {v : Value} {xs : List α} (h : IsS59 w0 W g f0 f1) (ho : d.S e W base ok v xs) (ht : e ≠ 59) : some g ≠ v.ownBlock := by
 obtain ⟨hb, hg⟩ := h
 exact Kd.S_ne ho hb ht
theorem IsS59.lt {w0 W : World} {g : Nat} {f0 : ByteArray} {f1 : Int} (h : IsS59 w0 W g f0 f1) : g < W.heap.size := by
 obtain ⟨hb, hg⟩ := h
 exact blk_lt hb
theorem IsS59.ge {w0 W : World} {g : Nat} {f0 : ByteArray} {f1 : Int} (h : IsS59 w0 W g f0 f1) : w0.heap.size ≤ g := by
 obtain ⟨hb, hg⟩ := h
 exact hg
theorem IsS59.ne_blk {w0 W : World} {g : Nat} {f0 : ByteArray} {f1 : Int} {a : Nat} {cs : Array Value} {t : TypeId} {fr : Nat × Nat} (h : IsS59 w0 W g f0 f1) (hb2 : W.heap[a]? = some (.cells cs t fr)) (ht : t ≠ 59) : g ≠ a := by
 obtain ⟨hb, hg⟩ := h
 rintro rfl
 rw [hb] at hb2
 injection hb2 with hb2
 injection hb2 with _ ht2
 exact ht ht2.symm
theorem IsS59.far {w0 W : World} {g : Nat} {f0 : ByteArray} {f1 : Int} {p : Addr} (h : IsS59 w0 W g f0 f1) (hne : g ≠ p.block) (u : Value) : IsS59 w0 (W.setCell p u) g f0 f1 := by
 obtain ⟨hb, hg⟩ := h
 exact ⟨blk_far hb hne u, hg⟩
theorem cellS59_0 {W : World} {g : Nat} {f0 : ByteArray} {f1 : Int} (h : W.heap[g]? = some (.cells #[.string f0, .int .i64 f1] 59 (0, 0))) : W.cell? ⟨g, 0, none⟩ = some (.string f0) := (blk_cell h 0).trans rfl
theorem IsS59.set_0 {w0 W : World} {g : Nat} {f0 : ByteArray} {f1 : Int} (h : IsS59 w0 W g f0 f1) (x : ByteArray) : IsS59 w0 (W.setCell ⟨g, 0, none⟩ (.string x)) g x f1 := by
 obtain ⟨hb, hg⟩ := h
 exact ⟨by simpa using blk_set hb 0 (.string x), hg⟩
theorem cellS59_1 {W : World} {g : Nat} {f0 : ByteArray} {f1 : Int} (h : W.heap[g]? = some (.cells #[.string f0, .int .i64 f1] 59 (0, 0))) : W.cell? ⟨g, 1, none⟩ = some (.int .i64 f1) := (blk_cell h 1).trans rfl
theorem IsS59.set_1 {w0 W : World} {g : Nat} {f0 : ByteArray} {f1 : Int} (h : IsS59 w0 W g f0 f1) (x : Int) : IsS59 w0 (W.setCell ⟨g, 1, none⟩ (.int .i64 x)) g f0 x := by
 obtain ⟨hb, hg⟩ := h
 exact ⟨by simpa using blk_set hb 1 (.int .i64 x), hg⟩
theorem IsS59.new (w0 W : World) (f0 : ByteArray) (f1 : Int) (hB : Below w0.heap.size w0 W) : IsS59 w0 (W.alloc (.cells #[.string f0, .int .i64 f1] 59)) W.heap.size f0 f1 := ⟨by simpa using heap_alloc_new W _, hB.size⟩

/-! ### impl_csvReader_quoted: function 36 -/
def impl_csvReader_quoted.l0 : Nat → List Int → ByteArray → Int → Option (ByteArray × Bool × ByteArray × Int)
 | 0,_,_,_ => none
 | k + 1,x4,x1000,x1001 => if x1001 < (x1000.size : Int) then (if 0 ≤ x1001 then (if (bt x1000 x1001) = 34 then (if (wrap64 (x1001 + 1)) = (x1000.size : Int) then (some (strOfNums x4,true,x1000,wrap64 (x1001 + 1))) else (if 0 ≤ (wrap64 (x1001 + 1)) then (if (wrap64 (x1001 + 1)) < (x1000.size : Int) then (if (bt x1000 (wrap64 (x1001 + 1))) = 34 then (if x4.length < 140737488355328 then (impl_csvReader_quoted.l0 k (x4 ++ [34]) x1000 (wrap64 ((wrap64 (x1001 + 1)) + 1))) else (none)) else (some (strOfNums x4,true,x1000,wrap64 (x1001 + 1)))) else (none)) else (none))) else (if x4.length < 140737488355328 then (impl_csvReader_quoted.l0 k (x4 ++ [bt x1000 x1001]) x1000 (wrap64 (x1001 + 1))) else (none))) else (none)) else (some ((⟨#[]⟩ : ByteArray),false,x1000,x1001))
def impl_csvReader_quoted.f (k : Nat) (s0_0 : ByteArray) (s0_1 : Int) : Option (ByteArray × Bool × ByteArray × Int) := impl_csvReader_quoted.l0 k (([] : List Int)) s0_0 (wrap64 (s0_1 + 1))
theorem impl_csvReader_quoted.mono_l : ∀ k,(∀ y0 y1 y2,LeO (impl_csvReader_quoted.l0 k y0 y1 y2) (impl_csvReader_quoted.l0 (k + 1) y0 y1 y2))
 | 0 => fun _ _ _ r h => by simp [impl_csvReader_quoted.l0] at h
 | k + 1 => by
  have ih0 := impl_csvReader_quoted.mono_l k
  ·intro y0 y1 y2
   unfold impl_csvReader_quoted.l0
   repeat' first
   | (with_reducible exact ih0 _ _ _)
   | (with_reducible exact LeO.refl _)
   | (with_reducible exact LeO.none _)
   | (with_reducible refine LeO.ite ?_ ?_)
   | (with_reducible refine LeO.bind ?_ (fun _ => ?_))
   | exact ih0 _ _ _
   | exact LeO.none _
   | refine LeO.ite ?_ ?_
   | refine LeO.bind ?_ (fun _ => ?_)
theorem impl_csvReader_quoted.mono : ∀ a0 a1 k,LeO (impl_csvReader_quoted.f k a0 a1) (impl_csvReader_quoted.f (k + 1) a0 a1) := by
 intro a0 a1 k
 have ih0 := impl_csvReader_quoted.mono_l k
 unfold impl_csvReader_quoted.f
 repeat' first
   | (with_reducible exact ih0 _ _ _)
   | (with_reducible exact LeO.refl _)
   | (with_reducible exact LeO.none _)
   | (with_reducible refine LeO.ite ?_ ?_)
   | (with_reducible refine LeO.bind ?_ (fun _ => ?_))
   | exact ih0 _ _ _
   | exact LeO.none _
   | refine LeO.ite ?_ ?_
   | refine LeO.bind ?_ (fun _ => ?_)
def impl_csvReader_quoted.T3 : Bool × List (List Nat × List Nat) := (true,[([],[]),([0],[0]),([1],[1]),([2],[2]),([],[]),([4],[4]),([5],[5]),([6],[6]),([7],[7]),([3,8],[3,8])])
def impl_csvReader_quoted.B3 : List Nat := [0,1,3,7,0,16,48,112,240,511]
theorem impl_csvReader_quoted.tab3 : rtab .any (opsOf Tryd.f36 3) = impl_csvReader_quoted.T3 := by kernel_rfl
theorem impl_csvReader_quoted.bits3 : waitsOk impl_csvReader_quoted.T3.2 impl_csvReader_quoted.B3 = true := by kernel_rfl
def impl_csvReader_quoted.T5 : Bool × List (List Nat × List Nat) := (true,[([],[]),([0],[0]),([1],[1]),([2],[2]),([],[]),([4],[4]),([5],[5]),([6],[6]),([3,7],[3,7]),([8],[8])])
def impl_csvReader_quoted.B5 : List Nat := [0,1,3,7,0,16,48,112,255,511]
theorem impl_csvReader_quoted.tab5 : rtab .any (opsOf Tryd.f36 5) = impl_csvReader_quoted.T5 := by kernel_rfl
theorem impl_csvReader_quoted.bits5 : waitsOk impl_csvReader_quoted.T5.2 impl_csvReader_quoted.B5 = true := by kernel_rfl
def impl_csvReader_quoted.T6 : Bool × List (List Nat × List Nat) := (true,[([],[]),([],[]),([1],[1]),([2],[2]),([3],[3]),([],[]),([5],[5]),([6],[6]),([7],[7]),([4,8],[4,8]),([9],[9]),([0,10],[0,10]),([11,11,0,1,2,3,4,5,6,7,8,9,10,11],[0,11])])
def impl_csvReader_quoted.B6 : List Nat := [0,0,2,6,14,0,32,96,224,510,1022,2047,4095]
theorem impl_csvReader_quoted.tab6 : rtab .any (opsOf Tryd.f36 6) = impl_csvReader_quoted.T6 := by kernel_rfl
theorem impl_csvReader_quoted.bits6 : waitsOk impl_csvReader_quoted.T6.2 impl_csvReader_quoted.B6 = true := by kernel_rfl
def impl_csvReader_quoted.T7 : Bool × List (List Nat × List Nat) := (true,[([],[]),([0],[0]),([1],[1]),([2],[2]),([3],[3]),([],[]),([5],[5]),([6],[6]),([7],[7]),([8],[8]),([4,9],[4,9]),([10],[10]),([11],[11]),([12,11],[11,12]),([13,11],[11,13]),([14,11],[11,14]),([11],[11]),([16,11],[11,16]),([17,11],[11,17]),([18,11],[11,18]),([19,11],[11,19]),([15,20,11],[11,15,20]),([21,11],[11,21]),([11,22],[11,22])])
def impl_csvReader_quoted.B7 : List Nat := [0,1,3,7,15,0,32,96,224,480,1023,2047,4095,8191,16383,32767,4095,69631,200703,462847,987135,2097151,4194303,8388607]
theorem impl_csvReader_quoted.tab7 : rtab .any (opsOf Tryd.f36 7) = impl_csvReader_quoted.T7 := by kernel_rfl
theorem impl_csvReader_quoted.bits7 : waitsOk impl_csvReader_quoted.T7.2 impl_csvReader_quoted.B7 = true := by kernel_rfl
set_option maxHeartbeats 8000000 in
set_option maxRecDepth 100000 in
theorem impl_csvReader_quoted.calls (k : Nat) (g : Nat) (s0_0 : ByteArray) (s0_1 : Int) (r1 : ByteArray) (r2 : Bool) (r3 : ByteArray) (r4 : Int) (w0 w : World) (hI : IsS59 w0 w g s0_0 s0_1) (hB : Below w0.heap.size w0 w) (h : impl_csvReader_quoted.f k s0_0 s0_1 = some (r1,r2,r3,r4)) :
  Calls Tryd.prog 36 #[.pointer (some ⟨g,0,none⟩)] w fun e w' => e = .returned (.tuple #[.string r1,.bool r2]) ∧ IsS59 w0 w' g r3 r4 ∧ Below w0.heap.size w0 w' ∧ KeepBut w w' g none := by
 have HI0 := Aside0.mk hI
 have HK := Aside0.mk (KeepBut.refl w g none)
 have HL := Aside0.mk hB.size
 clear hI
 have HW0 := Aside0.mk hB.size
 have HB := Aside0.mk hB
 clear hB
 have H := h
 clear h
 unfold impl_csvReader_quoted.f at H
 obtain ⟨y241,hyy⟩ : ∃ y_ : List Int,y_ = (([] : List Int)) := ⟨_,rfl⟩
 replace H : (impl_csvReader_quoted.l0 k y241 s0_0 (wrap64 (s0_1 + 1))) = some (r1,r2,r3,r4) := zR
 have Ny241 := Aside0.mk hyy
 clear hyy
 have H' := Aside0.mk H
 clear H
 go_enter Tryd.func36,Tryd.ntmps36
 go_wp2_with (first | ((with_reducible refine gate_dst (N := 5) rfl ?_);refine Kd.R_lit (Kd.int .u8) _ 5 ?hg (N := 5) ?hd (xs := ([] : List Int)) (inner := []) (ok := fun _ => True) (okp := fun _ => True) ?hr ?hp (fun _ hk => hk) trivial (Below.refl _ _) (Nat.le_refl _) Z342 ?_;(case hd => rfl);(case hg => rfl);(case hr => exact Z239);(case hp => exact Z249);intro v242 w2 ho3 hb hg_ hnew_;clear hg_ hnew_;(first | rw [← Ny241.out] at ho3 | (simp only [Int.reduceToNat] at ho3;rw [← Ny241.out] at ho3));have n_ := jA (Kd.R_lower ho3 (keep_size (w := w) (g := g) (row := none) Z300)) (jA (IsS59.below Z142 hb) (jA (KeepBut.trans Z300 (KeepBut.of_below hb g none) (.inl rfl)) (Aside0.mk (below_step Z139 hb))));clear HI0 HK HB;obtain ⟨HO243,HI0,HK,HB⟩ := n_;clear hb ho3;obtain ⟨HGz4,hgz4⟩ := HI0.out;have hcz4_0 := cellS59_0 HGz4;have hcz4_1 := cellS59_1 HGz4;have hfz4_0 := blk_frozen HGz4 0;have hfz4_1 := blk_frozen HGz4 1;clear HGz4 hgz4))
 go_loopg [4] k (fun kq v4 w' => ∃ (x4_1 : List Int) (x1001_1 : Int),Aside0 (impl_csvReader_quoted.l0 kq x4_1 s0_0 x1001_1 = some (r1,r2,r3,r4)) ∧ Aside0 (kq ≤ k) ∧ Aside0 (Kd.R (Kd.int .u8) 5 w' w.heap.size (fun _ => True) v4 x4_1) ∧ Aside0 (IsS59 w0 w' g s0_0 x1001_1) ∧ Aside0 (KeepBut w w' g none) ∧ Aside0 (Below w0.heap.size w0 w'))
 case atStart => exact ⟨(y241),(wrap64 (s0_1 + 1)),H',⟨Nat.le_refl _⟩,⟨by (with_reducible repeat (first | apply Kd.R_alloc | apply Kd.R_drewN | apply Kd.R_drew));exact Kd.R_mono (Kd.R_far (p := ⟨g,1,none⟩) (IsS59.apart HI0.out HO243.out Z355) (fun _ hk => hk.2) (.int .i64 (wrap64 (s0_1 + 1)))) (fun _ hk => trivial)⟩,⟨Z142⟩,⟨Z300⟩,⟨Z139⟩⟩
 case round =>
  clear H'
  try clear p2
  try clear c3
  obtain ⟨x4_1,x1001_1,HA,HK1,HO_4,HI0,HK,HB⟩ := hrel
  cases gk with
  | zero => exact absurd HA.out (by simp [impl_csvReader_quoted.l0])
  | succ k1 =>
   have H := HA.out
   clear HA
   simp only [impl_csvReader_quoted.l0] at H
   by_cases c5 : x1001_1 < (s0_0.size : Int)
   rotate_left
   ·rw [if_neg c5] at H
    have c5b0 : decide (x1001_1 < (s0_0.size : Int)) = false := decide_eq_false c5
    clear c5
    simp only [Option.some.injEq,Prod.mk.injEq] at H
    obtain ⟨rfl,rfl,rfl,rfl⟩ := H
    try go_wp2
    have n_ := jA (Kd.R_drew HO_4.out) (jA (IsS59.drew HI0.out) (jA (keep_drew HK.out) (Aside0.mk (below_drew1 HB.out))))
    clear HO_4 HI0 HK HB
    obtain ⟨HO_4,HI0,HK,HB⟩ := n_
    refine start_ (n := 10) (S := fun w' => w'.cell? ⟨g,0,none⟩ = some (.string s0_0) ∧ w'.cell? ⟨g,1,none⟩ = some (.int .i64 x1001_1)) (ds := []) (qM 10 0) Z253 rfl (by kernel_rfl) ⟨(blk_cell (Aside0.mk (show IsS59 w0 _ g s0_0 x1001_1 from Z142).1).out 0).trans rfl,(blk_cell (Aside0.mk (show IsS59 w0 _ g s0_0 x1001_1 from Z142).1).out 1).trans rfl⟩ (fun hHeld => ?_);refine with_tabW impl_csvReader_quoted.tab3 impl_csvReader_quoted.bits3 (fun HT_ HW_ => ?_)
    generalize wr.drew = w38 at HO_4 HI0 HK HB hHeld ⊢
    refine rP 0 13 10 1 HT_ (h := ?_)
    refine rP 1 14 10 3 HT_ (h := ?_)
    refine rP 2 15 10 7 HT_ (h := ?_)
    refine rP 4 17 10 23 HT_ (h := ?_)
    refine rP 5 18 10 55 HT_ (h := ?_)
    refine rP 6 19 10 119 HT_ (h := ?_)
    refine rT2 3 16 10 127 HT_ HW_ hHeld (h := ?_)
    refine rT2 7 20 10 255 HT_ HW_ hHeld (h := ?_)
    refine rP 8 21 10 511 HT_ (h := ?_)
    refine rP 9 22 10 1023 HT_ (h := ?_)
    refine done_ (done_of HT_.out Z253) ?_
    try go_wp2
    go_ret2
    exact ⟨Z218,Z142,Z139,Z300⟩
   rw [if_pos c5] at H
   have c5b0 : decide (x1001_1 < (s0_0.size : Int)) = true := decide_eq_true c5
   clear c5
   obtain ⟨c6,H⟩ := ifp H
   have c6b0 : decide (0 ≤ x1001_1) = true := decide_eq_true c6
   clear c6
   by_cases c8 : (bt s0_0 x1001_1) = 34
   rotate_left
   ·rw [if_neg c8] at H
    have c8b0 : ((bt s0_0 x1001_1) == 34) = false := beq_eq_false_iff_ne.mpr c8
    have c8b1 : ((bt s0_0 x1001_1) != 34) = true := bne_iff_ne.mpr c8
    obtain ⟨c32,H⟩ := ifp H
    have LMc32 := Aside0.mk c32
    clear c32
    obtain ⟨y247,hyy⟩ : ∃ y_ : List Int,y_ = (x4_1 ++ [bt s0_0 x1001_1]) := ⟨_,rfl⟩
    replace H : (impl_csvReader_quoted.l0 k1 y247 s0_0 (wrap64 (x1001_1 + 1))) = some (r1,r2,r3,r4) := zR
    have Ny247 := Aside0.mk hyy
    clear hyy
    have H' := Aside0.mk H
    clear H
    try go_wp2
    have n_ := jA (Kd.R_drew HO_4.out) (jA (IsS59.drew HI0.out) (jA (keep_drew HK.out) (Aside0.mk (below_drew1 HB.out))))
    clear HO_4 HI0 HK HB
    obtain ⟨HO_4,HI0,HK,HB⟩ := n_
    refine start_ (n := 10) (S := fun w' => w'.cell? ⟨g,0,none⟩ = some (.string s0_0) ∧ w'.cell? ⟨g,1,none⟩ = some (.int .i64 x1001_1)) (ds := []) (qM 10 0) Z253 rfl (by kernel_rfl) ⟨(blk_cell (Aside0.mk (show IsS59 w0 _ g s0_0 x1001_1 from Z142).1).out 0).trans rfl,(blk_cell (Aside0.mk (show IsS59 w0 _ g s0_0 x1001_1 from Z142).1).out 1).trans rfl⟩ (fun hHeld => ?_);refine with_tabW impl_csvReader_quoted.tab3 impl_csvReader_quoted.bits3 (fun HT_ HW_ => ?_)
    generalize wr.drew = w33 at HO_4 HI0 HK HB hHeld ⊢
    refine rP 0 13 10 1 HT_ (h := ?_)
    refine rP 1 14 10 3 HT_ (h := ?_)
    refine rP 2 15 10 7 HT_ (h := ?_)
    refine rP 4 17 10 23 HT_ (h := ?_)
    refine rP 5 18 10 55 HT_ (h := ?_)
    refine rP 6 19 10 119 HT_ (h := ?_)
    refine rT2 3 16 10 127 HT_ HW_ hHeld (h := ?_)
    refine rT2 7 20 10 255 HT_ HW_ hHeld (h := ?_)
    refine rP 8 21 10 511 HT_ (h := ?_)
    refine rP 9 22 10 1023 HT_ (h := ?_)
    refine done_ (done_of HT_.out Z253) ?_
    try go_wp2
    have n_ := jA (Kd.R_drew HO_4.out) (jA (IsS59.drew HI0.out) (jA (keep_drew HK.out) (Aside0.mk (below_drew1 HB.out))))
    clear HO_4 HI0 HK HB
    obtain ⟨HO_4,HI0,HK,HB⟩ := n_
    have p7 : 0 ≤ (x1001_1 : Int) := of_decide_eq_true Z330
    have q7 : x1001_1 < (s0_0.size : Int) := of_decide_eq_true Z330
    have hx7 := bt_at s0_0 x1001_1
    replace p7 := eq_true p7
    replace q7 := eq_true q7
    refine start_ (n := 10) (S := fun w' => w'.cell? ⟨g,0,none⟩ = some (.string s0_0) ∧ w'.cell? ⟨g,1,none⟩ = some (.int .i64 x1001_1)) (ds := []) (qM 10 0) Z253 rfl (by kernel_rfl) ⟨(blk_cell (Aside0.mk (show IsS59 w0 _ g s0_0 x1001_1 from Z142).1).out 0).trans rfl,(blk_cell (Aside0.mk (show IsS59 w0 _ g s0_0 x1001_1 from Z142).1).out 1).trans rfl⟩ (fun hHeld => ?_);refine with_tabW impl_csvReader_quoted.tab5 impl_csvReader_quoted.bits5 (fun HT_ HW_ => ?_)
    generalize w33.drew = w34 at HO_4 HI0 HK HB hHeld ⊢
    refine rP 0 30 10 1 HT_ (h := ?_)
    refine rP 1 31 10 3 HT_ (h := ?_)
    refine rP 2 32 10 7 HT_ (h := ?_)
    refine rP 4 34 10 23 HT_ (h := ?_)
    refine rP 5 35 10 55 HT_ (h := ?_)
    refine rP 6 36 10 119 HT_ (h := ?_)
    refine rT2 3 33 10 127 HT_ HW_ hHeld (h := ?_)
    refine rT2 7 37 10 255 HT_ HW_ hHeld (h := ?_)
    refine rT2 8 38 10 511 HT_ HW_ hHeld (h := ?_)
    refine rP 9 39 10 1023 HT_ (h := ?_)
    refine done_ (done_of HT_.out Z253) ?_
    try go_wp2
    have n_ := jA (Kd.R_drew HO_4.out) (jA (IsS59.drew HI0.out) (jA (keep_drew HK.out) (Aside0.mk (below_drew1 HB.out))))
    clear HO_4 HI0 HK HB
    obtain ⟨HO_4,HI0,HK,HB⟩ := n_
    have p31 : 0 ≤ (x1001_1 : Int) := of_decide_eq_true Z330
    have q31 : x1001_1 < (s0_0.size : Int) := of_decide_eq_true Z330
    have hx31 := bt_at s0_0 x1001_1
    replace p31 := eq_true p31
    replace q31 := eq_true q31
    refine start_ (n := 13) (S := fun w' => w'.cell? ⟨g,0,none⟩ = some (.string s0_0) ∧ w'.cell? ⟨g,1,none⟩ = some (.int .i64 x1001_1)) (ds := []) (qM 13 0) Z253 rfl (by kernel_rfl) ⟨(blk_cell (Aside0.mk (show IsS59 w0 _ g s0_0 x1001_1 from Z142).1).out 0).trans rfl,(blk_cell (Aside0.mk (show IsS59 w0 _ g s0_0 x1001_1 from Z142).1).out 1).trans rfl⟩ (fun hHeld => ?_);refine with_tabW impl_csvReader_quoted.tab6 impl_csvReader_quoted.bits6 (fun HT_ HW_ => ?_)
    generalize w34.drew = w35 at HO_4 HI0 HK HB hHeld ⊢
    refine rP 0 40 13 1 HT_ (h := ?_)
    refine rP 1 41 13 3 HT_ (h := ?_)
    refine rP 2 42 13 7 HT_ (h := ?_)
    refine rP 3 43 13 15 HT_ (h := ?_)
    refine rP 5 45 13 47 HT_ (h := ?_)
    refine rP 6 46 13 111 HT_ (h := ?_)
    refine rP 7 47 13 239 HT_ (h := ?_)
    refine rT2 4 44 13 255 HT_ HW_ hHeld (h := ?_)
    refine rT2 8 48 13 511 HT_ HW_ hHeld (h := ?_)
    refine rT2 9 49 13 1023 HT_ HW_ hHeld (h := ?_)
    refine rO 10 50 13 2047 HT_ (h := fun K hK => ?_)
    refine value_ (w1 := ?_) (v := ?_) Z255 rfl ?_ ?_
    rotate_left 2
    ·go_simp
     constructor
     ·rfl
     rfl
    refine hK.out _ _ ⟨(blk_cell (blk_alloc (Aside0.mk (show IsS59 w0 _ g s0_0 x1001_1 from Z142).1).out _) 0).trans rfl,(blk_cell (blk_alloc (Aside0.mk (show IsS59 w0 _ g s0_0 x1001_1 from Z142).1).out _) 1).trans rfl⟩ (fun hHeld => ?_)
    clear hK K
    refine rN (h := ?_)
    refine rO 11 51 13 4095 HT_ (h := fun K hK => ?_)
    refine Kd.R_append_step (Kd.int .u8) w.heap.size Z255 (.tmp 40) (.tmp 50) 66 5 (.int .u8 0) 1 rfl Tryd.underlying66 info5 rfl Z355 Z254 u4 x4_1 (bt s0_0 x1001_1) [.int .u8 (bt s0_0 x1001_1)] (fun _ => True) (fun _ => False) rfl rfl ?aP (fun _ hk => hk.elim) ?aF ?aO (Below.refl _ _) ?aS ?aL ?_
    (case aP => exact rfl)
    (case aF => exact Z244)
    (case aO => exact Z187)
    (case aS => exact Z118)
    (case aL => have := LMc32.out;omega)
    intro v248 w36 ho hb hg hat
    rw [← Ny247.out] at ho
    have n_ := jA (IsS59.grown Z142 hg (IsS59.own_ne HI0.out HO_4.out Z355)) (jA (below_weaken Z139 HL.out hb) (jA (KeepBut.trans Z300 (KeepBut.of_grown hg g) (Kd.R_base2 HO_4.out)) (Aside0.mk (ho))))
    clear HI0 HB HK HO_4
    obtain ⟨HI0,HB,HK,HO249⟩ := n_
    clear ho hb hg hat
    refine hK.out _ _ ⟨(blk_cell (Aside0.mk (show IsS59 w0 _ g s0_0 x1001_1 from Z142).1).out 0).trans rfl,(blk_cell (Aside0.mk (show IsS59 w0 _ g s0_0 x1001_1 from Z142).1).out 1).trans rfl⟩ (fun hHeld => ?_)
    clear hK K
    refine rN (h := ?_)
    refine rP 12 4 13 8191 HT_ (h := ?_)
    refine done_ (done_of HT_.out Z253) ?_
    obtain ⟨HGz37,hgz37⟩ := HI0.out
    have hcz37_0 := cellS59_0 HGz37
    have hcz37_1 := cellS59_1 HGz37
    have hfz37_0 := blk_frozen HGz37 0
    have hfz37_1 := blk_frozen HGz37 1
    clear HGz37 hgz37
    try go_wp2
    go_roundg k1
    case measure => have := HK1.out;omega
    case rel => exact ⟨(y247),(wrap64 (x1001_1 + 1)),H',⟨Z248⟩,⟨by (with_reducible repeat (first | apply Kd.R_alloc | apply Kd.R_drewN | apply Kd.R_drew));exact Kd.R_mono (Kd.R_far (p := ⟨g,1,none⟩) (IsS59.apart HI0.out HO249.out Z355) (fun _ hk => hk.2) (.int .i64 (wrap64 (x1001_1 + 1)))) (fun _ hk => trivial)⟩,⟨Z142⟩,⟨Z300⟩,⟨Z139⟩⟩
   rw [if_pos c8] at H
   have c8b0 : ((bt s0_0 x1001_1) == 34) = true := beq_iff_eq.mpr c8
   have c8b1 : ((bt s0_0 x1001_1) != 34) = false := bne_eq_false_iff_eq.mpr c8
   clear c8
   by_cases c9 : (wrap64 (x1001_1 + 1)) = (s0_0.size : Int)
   ·rw [if_pos c9] at H
    have c9b0 : ((wrap64 (x1001_1 + 1)) == (s0_0.size : Int)) = true := beq_iff_eq.mpr c9
    have c9b1 : ((wrap64 (x1001_1 + 1)) != (s0_0.size : Int)) = false := bne_eq_false_iff_eq.mpr c9
    clear c9
    simp only [Option.some.injEq,Prod.mk.injEq] at H
    obtain ⟨rfl,rfl,rfl,rfl⟩ := H
    try go_wp2
    have n_ := jA (Kd.R_drew HO_4.out) (jA (IsS59.drew HI0.out) (jA (keep_drew HK.out) (Aside0.mk (below_drew1 HB.out))))
    clear HO_4 HI0 HK HB
    obtain ⟨HO_4,HI0,HK,HB⟩ := n_
    refine start_ (n := 10) (S := fun w' => w'.cell? ⟨g,0,none⟩ = some (.string s0_0) ∧ w'.cell? ⟨g,1,none⟩ = some (.int .i64 x1001_1)) (ds := []) (qM 10 0) Z253 rfl (by kernel_rfl) ⟨(blk_cell (Aside0.mk (show IsS59 w0 _ g s0_0 x1001_1 from Z142).1).out 0).trans rfl,(blk_cell (Aside0.mk (show IsS59 w0 _ g s0_0 x1001_1 from Z142).1).out 1).trans rfl⟩ (fun hHeld => ?_);refine with_tabW impl_csvReader_quoted.tab3 impl_csvReader_quoted.bits3 (fun HT_ HW_ => ?_)
    generalize wr.drew = w10 at HO_4 HI0 HK HB hHeld ⊢
    refine rP 0 13 10 1 HT_ (h := ?_)
    refine rP 1 14 10 3 HT_ (h := ?_)
    refine rP 2 15 10 7 HT_ (h := ?_)
    refine rP 4 17 10 23 HT_ (h := ?_)
    refine rP 5 18 10 55 HT_ (h := ?_)
    refine rP 6 19 10 119 HT_ (h := ?_)
    refine rT2 3 16 10 127 HT_ HW_ hHeld (h := ?_)
    refine rT2 7 20 10 255 HT_ HW_ hHeld (h := ?_)
    refine rP 8 21 10 511 HT_ (h := ?_)
    refine rP 9 22 10 1023 HT_ (h := ?_)
    refine done_ (done_of HT_.out Z253) ?_
    try go_wp2
    have n_ := jA (Kd.R_drew HO_4.out) (jA (IsS59.drew HI0.out) (jA (keep_drew HK.out) (Aside0.mk (below_drew1 HB.out))))
    clear HO_4 HI0 HK HB
    obtain ⟨HO_4,HI0,HK,HB⟩ := n_
    have p7 : 0 ≤ (x1001_1 : Int) := of_decide_eq_true Z330
    have q7 : x1001_1 < (s0_0.size : Int) := of_decide_eq_true Z330
    have hx7 := bt_at s0_0 x1001_1
    replace p7 := eq_true p7
    replace q7 := eq_true q7
    refine start_ (n := 10) (S := fun w' => w'.cell? ⟨g,0,none⟩ = some (.string s0_0) ∧ w'.cell? ⟨g,1,none⟩ = some (.int .i64 x1001_1)) (ds := []) (qM 10 0) Z253 rfl (by kernel_rfl) ⟨(blk_cell (Aside0.mk (show IsS59 w0 _ g s0_0 x1001_1 from Z142).1).out 0).trans rfl,(blk_cell (Aside0.mk (show IsS59 w0 _ g s0_0 x1001_1 from Z142).1).out 1).trans rfl⟩ (fun hHeld => ?_);refine with_tabW impl_csvReader_quoted.tab5 impl_csvReader_quoted.bits5 (fun HT_ HW_ => ?_)
    generalize w10.drew = w11 at HO_4 HI0 HK HB hHeld ⊢
    refine rP 0 30 10 1 HT_ (h := ?_)
    refine rP 1 31 10 3 HT_ (h := ?_)
    refine rP 2 32 10 7 HT_ (h := ?_)
    refine rP 4 34 10 23 HT_ (h := ?_)
    refine rP 5 35 10 55 HT_ (h := ?_)
    refine rP 6 36 10 119 HT_ (h := ?_)
    refine rT2 3 33 10 127 HT_ HW_ hHeld (h := ?_)
    refine rT2 7 37 10 255 HT_ HW_ hHeld (h := ?_)
    refine rT2 8 38 10 511 HT_ HW_ hHeld (h := ?_)
    refine rP 9 39 10 1023 HT_ (h := ?_)
    refine done_ (done_of HT_.out Z253) ?_
    try go_wp2
    have n_ := jA (Kd.R_drew HO_4.out) (jA (IsS59.drew HI0.out) (jA (keep_drew HK.out) (Aside0.mk (below_drew1 HB.out))))
    clear HO_4 HI0 HK HB
    obtain ⟨HO_4,HI0,HK,HB⟩ := n_
    refine start_ (n := 24) (S := fun w' => w'.cell? ⟨g,0,none⟩ = some (.string s0_0) ∧ w'.cell? ⟨g,1,none⟩ = some (.int .i64 x1001_1)) (ds := []) (qM 24 0) Z253 rfl (by kernel_rfl) ⟨(blk_cell (Aside0.mk (show IsS59 w0 _ g s0_0 x1001_1 from Z142).1).out 0).trans rfl,(blk_cell (Aside0.mk (show IsS59 w0 _ g s0_0 x1001_1 from Z142).1).out 1).trans rfl⟩ (fun hHeld => ?_);refine with_tabW impl_csvReader_quoted.tab7 impl_csvReader_quoted.bits7 (fun HT_ HW_ => ?_)
    generalize w11.drew = w12 at HO_4 HI0 HK HB hHeld ⊢
    refine rP 0 52 24 1 HT_ (h := ?_)
    refine rP 1 53 24 3 HT_ (h := ?_)
    refine rP 2 54 24 7 HT_ (h := ?_)
    refine rP 5 57 24 39 HT_ (h := ?_)
    refine rP 6 58 24 103 HT_ (h := ?_)
    refine rP 7 59 24 231 HT_ (h := ?_)
    refine rT2 3 55 24 239 HT_ HW_ hHeld (h := ?_)
    refine rP 4 56 24 255 HT_ (h := ?_)
    refine rT2 8 60 24 511 HT_ HW_ hHeld (h := ?_)
    refine rP 9 61 24 1023 HT_ (h := ?_)
    refine rP 10 62 24 2047 HT_ (h := ?_)
    refine rP 11 63 24 4095 HT_ (h := ?_)
    refine rU 12 64 24 8191 HT_ (h := ?_)
    refine rU 13 65 24 16383 HT_ (h := ?_)
    refine rU 14 66 24 32767 HT_ (h := ?_)
    refine rU 15 67 24 65535 HT_ (h := ?_)
    refine rU 16 68 24 131071 HT_ (h := ?_)
    refine rU 17 69 24 262143 HT_ (h := ?_)
    refine rU 18 70 24 524287 HT_ (h := ?_)
    refine rU 19 71 24 1048575 HT_ (h := ?_)
    refine rU 20 72 24 2097151 HT_ (h := ?_)
    refine rU 21 73 24 4194303 HT_ (h := ?_)
    refine rU 22 74 24 8388607 HT_ (h := ?_)
    refine rP 23 75 24 16777215 HT_ (h := ?_)
    refine done_ (done_of HT_.out Z253) ?_
    obtain ⟨HGz13,hgz13⟩ := HI0.out
    have hcz13_0 := cellS59_0 HGz13
    have hcz13_1 := cellS59_1 HGz13
    have hfz13_0 := blk_frozen HGz13 0
    have hfz13_1 := blk_frozen HGz13 1
    clear HGz13 hgz13
    have hcv14 : (convert 66 9 (u4)).run Tryd.prog (w12.setCell ⟨g,1,none⟩ (.int .i64 (wrap64 (x1001_1 + 1)))) = .ok (.string (strOfNums x4_1)) (w12.setCell ⟨g,1,none⟩ (.int .i64 (wrap64 (x1001_1 + 1)))) := own_string (P := Tryd.prog) Tryd.underlying66 Tryd.underlying5 Tryd.underlying9 (Kd.own_of_R (by (with_reducible repeat (first | apply Kd.R_alloc | apply Kd.R_drewN | apply Kd.R_drew));exact (Kd.R_mono (Kd.R_far (p := ⟨g,1,none⟩) (IsS59.apart HI0.out HO_4.out Z355) (fun _ hk => hk.2) (.int .i64 (wrap64 (x1001_1 + 1)))) (fun _ h_ => h_.1))))
    try go_wp2
    go_ret2
    exact ⟨Z218,Z142,Z139,Z300⟩
   rw [if_neg c9] at H
   have c9b0 : ((wrap64 (x1001_1 + 1)) == (s0_0.size : Int)) = false := beq_eq_false_iff_ne.mpr c9
   have c9b1 : ((wrap64 (x1001_1 + 1)) != (s0_0.size : Int)) = true := bne_iff_ne.mpr c9
   obtain ⟨ji15,hji15⟩ : ∃ j_ : Int,(wrap64 (x1001_1 + 1)) = j_ := ⟨_,rfl⟩
   replace H : (if 0 ≤ (ji15) then (if (ji15) < (s0_0.size : Int) then (if (bt s0_0 (ji15)) = 34 then (if x4_1.length < 140737488355328 then (impl_csvReader_quoted.l0 k1 (x4_1 ++ [34]) s0_0 (wrap64 ((ji15) + 1))) else (none)) else (some (strOfNums x4_1,true,s0_0,ji15))) else (none)) else (none)) = some (r1,r2,r3,r4) := by first | (rw [hji15] at H;exact H) | (simp only [hji15] at H ⊢;exact H)
   (try rw [hji15] at c9b0)
   (try rw [hji15] at c9b1)
   have hji15w : (IntKind.i64.wrap (x1001_1 + 1)) = ji15 := (i64_w _).trans hji15
   obtain ⟨c16,H⟩ := ifp H
   have c16b0 : decide (0 ≤ (ji15)) = true := decide_eq_true c16
   clear c16
   obtain ⟨c17,H⟩ := ifp H
   have c17b0 : decide ((ji15) < (s0_0.size : Int)) = true := decide_eq_true c17
   clear c17
   by_cases c19 : (bt s0_0 (ji15)) = 34
   rotate_left
   ·rw [if_neg c19] at H
    have c19b0 : ((bt s0_0 (ji15)) == 34) = false := beq_eq_false_iff_ne.mpr c19
    have c19b1 : ((bt s0_0 (ji15)) != 34) = true := bne_iff_ne.mpr c19
    simp only [Option.some.injEq,Prod.mk.injEq] at H
    obtain ⟨rfl,rfl,rfl,rfl⟩ := H
    try go_wp2
    have n_ := jA (Kd.R_drew HO_4.out) (jA (IsS59.drew HI0.out) (jA (keep_drew HK.out) (Aside0.mk (below_drew1 HB.out))))
    clear HO_4 HI0 HK HB
    obtain ⟨HO_4,HI0,HK,HB⟩ := n_
    refine start_ (n := 10) (S := fun w' => w'.cell? ⟨g,0,none⟩ = some (.string s0_0) ∧ w'.cell? ⟨g,1,none⟩ = some (.int .i64 x1001_1)) (ds := []) (qM 10 0) Z253 rfl (by kernel_rfl) ⟨(blk_cell (Aside0.mk (show IsS59 w0 _ g s0_0 x1001_1 from Z142).1).out 0).trans rfl,(blk_cell (Aside0.mk (show IsS59 w0 _ g s0_0 x1001_1 from Z142).1).out 1).trans rfl⟩ (fun hHeld => ?_);refine with_tabW impl_csvReader_quoted.tab3 impl_csvReader_quoted.bits3 (fun HT_ HW_ => ?_)
    generalize wr.drew = w26 at HO_4 HI0 HK HB hHeld ⊢
    refine rP 0 13 10 1 HT_ (h := ?_)
    refine rP 1 14 10 3 HT_ (h := ?_)
    refine rP 2 15 10 7 HT_ (h := ?_)
    refine rP 4 17 10 23 HT_ (h := ?_)
    refine rP 5 18 10 55 HT_ (h := ?_)
    refine rP 6 19 10 119 HT_ (h := ?_)
    refine rT2 3 16 10 127 HT_ HW_ hHeld (h := ?_)
    refine rT2 7 20 10 255 HT_ HW_ hHeld (h := ?_)
    refine rP 8 21 10 511 HT_ (h := ?_)
    refine rP 9 22 10 1023 HT_ (h := ?_)
    refine done_ (done_of HT_.out Z253) ?_
    try go_wp2
    have n_ := jA (Kd.R_drew HO_4.out) (jA (IsS59.drew HI0.out) (jA (keep_drew HK.out) (Aside0.mk (below_drew1 HB.out))))
    clear HO_4 HI0 HK HB
    obtain ⟨HO_4,HI0,HK,HB⟩ := n_
    have p7 : 0 ≤ (x1001_1 : Int) := of_decide_eq_true Z330
    have q7 : x1001_1 < (s0_0.size : Int) := of_decide_eq_true Z330
    have hx7 := bt_at s0_0 x1001_1
    replace p7 := eq_true p7
    replace q7 := eq_true q7
    refine start_ (n := 10) (S := fun w' => w'.cell? ⟨g,0,none⟩ = some (.string s0_0) ∧ w'.cell? ⟨g,1,none⟩ = some (.int .i64 x1001_1)) (ds := []) (qM 10 0) Z253 rfl (by kernel_rfl) ⟨(blk_cell (Aside0.mk (show IsS59 w0 _ g s0_0 x1001_1 from Z142).1).out 0).trans rfl,(blk_cell (Aside0.mk (show IsS59 w0 _ g s0_0 x1001_1 from Z142).1).out 1).trans rfl⟩ (fun hHeld => ?_);refine with_tabW impl_csvReader_quoted.tab5 impl_csvReader_quoted.bits5 (fun HT_ HW_ => ?_)
    generalize w26.drew = w27 at HO_4 HI0 HK HB hHeld ⊢
    refine rP 0 30 10 1 HT_ (h := ?_)
    refine rP 1 31 10 3 HT_ (h := ?_)
    refine rP 2 32 10 7 HT_ (h := ?_)
    refine rP 4 34 10 23 HT_ (h := ?_)
    refine rP 5 35 10 55 HT_ (h := ?_)
    refine rP 6 36 10 119 HT_ (h := ?_)
    refine rT2 3 33 10 127 HT_ HW_ hHeld (h := ?_)
    refine rT2 7 37 10 255 HT_ HW_ hHeld (h := ?_)
    refine rT2 8 38 10 511 HT_ HW_ hHeld (h := ?_)
    refine rP 9 39 10 1023 HT_ (h := ?_)
    refine done_ (done_of HT_.out Z253) ?_
    try go_wp2
    have n_ := jA (Kd.R_drew HO_4.out) (jA (IsS59.drew HI0.out) (jA (keep_drew HK.out) (Aside0.mk (below_drew1 HB.out))))
    clear HO_4 HI0 HK HB
    obtain ⟨HO_4,HI0,HK,HB⟩ := n_
    have p18 : 0 ≤ ((ji15) : Int) := of_decide_eq_true Z330
    have q18 : (ji15) < (s0_0.size : Int) := of_decide_eq_true Z330
    have hx18 := bt_at s0_0 (ji15)
    replace p18 := eq_true p18
    replace q18 := eq_true q18
    refine start_ (n := 24) (S := fun w' => w'.cell? ⟨g,0,none⟩ = some (.string s0_0) ∧ w'.cell? ⟨g,1,none⟩ = some (.int .i64 x1001_1)) (ds := []) (qM 24 0) Z253 rfl (by kernel_rfl) ⟨(blk_cell (Aside0.mk (show IsS59 w0 _ g s0_0 x1001_1 from Z142).1).out 0).trans rfl,(blk_cell (Aside0.mk (show IsS59 w0 _ g s0_0 x1001_1 from Z142).1).out 1).trans rfl⟩ (fun hHeld => ?_);refine with_tabW impl_csvReader_quoted.tab7 impl_csvReader_quoted.bits7 (fun HT_ HW_ => ?_)
    generalize w27.drew = w28 at HO_4 HI0 HK HB hHeld ⊢
    refine rP 0 52 24 1 HT_ (h := ?_)
    refine rP 1 53 24 3 HT_ (h := ?_)
    refine rP 2 54 24 7 HT_ (h := ?_)
    refine rP 5 57 24 39 HT_ (h := ?_)
    refine rP 6 58 24 103 HT_ (h := ?_)
    refine rP 7 59 24 231 HT_ (h := ?_)
    refine rT2 3 55 24 239 HT_ HW_ hHeld (h := ?_)
    refine rP 4 56 24 255 HT_ (h := ?_)
    refine rT2 8 60 24 511 HT_ HW_ hHeld (h := ?_)
    refine rP 9 61 24 1023 HT_ (h := ?_)
    refine rP 10 62 24 2047 HT_ (h := ?_)
    refine rP 11 63 24 4095 HT_ (h := ?_)
    refine rP 12 64 24 8191 HT_ (h := ?_)
    refine rP 13 65 24 16383 HT_ (h := ?_)
    refine rP 14 66 24 32767 HT_ (h := ?_)
    refine rP 16 68 24 98303 HT_ (h := ?_)
    refine rP 17 69 24 229375 HT_ (h := ?_)
    refine rP 18 70 24 491519 HT_ (h := ?_)
    refine rT2 15 67 24 524287 HT_ HW_ hHeld (h := ?_)
    refine rT2 19 71 24 1048575 HT_ HW_ hHeld (h := ?_)
    refine rP 20 72 24 2097151 HT_ (h := ?_)
    refine rT2 21 73 24 4194303 HT_ HW_ hHeld (h := ?_)
    refine rP 22 74 24 8388607 HT_ (h := ?_)
    refine rP 23 75 24 16777215 HT_ (h := ?_)
    refine done_ (done_of HT_.out Z253) ?_
    obtain ⟨HGz29,hgz29⟩ := HI0.out
    have hcz29_0 := cellS59_0 HGz29
    have hcz29_1 := cellS59_1 HGz29
    have hfz29_0 := blk_frozen HGz29 0
    have hfz29_1 := blk_frozen HGz29 1
    clear HGz29 hgz29
    have hcv30 : (convert 66 9 (u4)).run Tryd.prog (w28.setCell ⟨g,1,none⟩ (.int .i64 ji15)) = .ok (.string (strOfNums x4_1)) (w28.setCell ⟨g,1,none⟩ (.int .i64 ji15)) := own_string (P := Tryd.prog) Tryd.underlying66 Tryd.underlying5 Tryd.underlying9 (Kd.own_of_R (by (with_reducible repeat (first | apply Kd.R_alloc | apply Kd.R_drewN | apply Kd.R_drew));exact (Kd.R_mono (Kd.R_far (p := ⟨g,1,none⟩) (IsS59.apart HI0.out HO_4.out Z355) (fun _ hk => hk.2) (.int .i64 ji15)) (fun _ h_ => h_.1))))
    try go_wp2
    go_ret2
    exact ⟨by first | rfl | (simp [errW_none,errW_some] <;> rfl) | (simp only [← hji15];first | rfl | (simp [errW_none,errW_some] <;> rfl)) | (simp [*,errW_none,errW_some] <;> rfl),Z142,Z139,Z300⟩
   rw [if_pos c19] at H
   have c19b0 : ((bt s0_0 (ji15)) == 34) = true := beq_iff_eq.mpr c19
   have c19b1 : ((bt s0_0 (ji15)) != 34) = false := bne_eq_false_iff_eq.mpr c19
   clear c19
   obtain ⟨c20,H⟩ := ifp H
   have LMc20 := Aside0.mk c20
   clear c20
   obtain ⟨y244,hyy⟩ : ∃ y_ : List Int,y_ = (x4_1 ++ [34]) := ⟨_,rfl⟩
   replace H : (impl_csvReader_quoted.l0 k1 y244 s0_0 (wrap64 ((ji15) + 1))) = some (r1,r2,r3,r4) := zR
   have Ny244 := Aside0.mk hyy
   clear hyy
   have H' := Aside0.mk H
   clear H
   try go_wp2
   have n_ := jA (Kd.R_drew HO_4.out) (jA (IsS59.drew HI0.out) (jA (keep_drew HK.out) (Aside0.mk (below_drew1 HB.out))))
   clear HO_4 HI0 HK HB
   obtain ⟨HO_4,HI0,HK,HB⟩ := n_
   refine start_ (n := 10) (S := fun w' => w'.cell? ⟨g,0,none⟩ = some (.string s0_0) ∧ w'.cell? ⟨g,1,none⟩ = some (.int .i64 x1001_1)) (ds := []) (qM 10 0) Z253 rfl (by kernel_rfl) ⟨(blk_cell (Aside0.mk (show IsS59 w0 _ g s0_0 x1001_1 from Z142).1).out 0).trans rfl,(blk_cell (Aside0.mk (show IsS59 w0 _ g s0_0 x1001_1 from Z142).1).out 1).trans rfl⟩ (fun hHeld => ?_);refine with_tabW impl_csvReader_quoted.tab3 impl_csvReader_quoted.bits3 (fun HT_ HW_ => ?_)
   generalize wr.drew = w21 at HO_4 HI0 HK HB hHeld ⊢
   refine rP 0 13 10 1 HT_ (h := ?_)
   refine rP 1 14 10 3 HT_ (h := ?_)
   refine rP 2 15 10 7 HT_ (h := ?_)
   refine rP 4 17 10 23 HT_ (h := ?_)
   refine rP 5 18 10 55 HT_ (h := ?_)
   refine rP 6 19 10 119 HT_ (h := ?_)
   refine rT2 3 16 10 127 HT_ HW_ hHeld (h := ?_)
   refine rT2 7 20 10 255 HT_ HW_ hHeld (h := ?_)
   refine rP 8 21 10 511 HT_ (h := ?_)
   refine rP 9 22 10 1023 HT_ (h := ?_)
   refine done_ (done_of HT_.out Z253) ?_
   try go_wp2
   have n_ := jA (Kd.R_drew HO_4.out) (jA (IsS59.drew HI0.out) (jA (keep_drew HK.out) (Aside0.mk (below_drew1 HB.out))))
   clear HO_4 HI0 HK HB
   obtain ⟨HO_4,HI0,HK,HB⟩ := n_
   have p7 : 0 ≤ (x1001_1 : Int) := of_decide_eq_true Z330
   have q7 : x1001_1 < (s0_0.size : Int) := of_decide_eq_true Z330
   have hx7 := bt_at s0_0 x1001_1
   replace p7 := eq_true p7
   replace q7 := eq_true q7
   refine start_ (n := 10) (S := fun w' => w'.cell? ⟨g,0,none⟩ = some (.string s0_0) ∧ w'.cell? ⟨g,1,none⟩ = some (.int .i64 x1001_1)) (ds := []) (qM 10 0) Z253 rfl (by kernel_rfl) ⟨(blk_cell (Aside0.mk (show IsS59 w0 _ g s0_0 x1001_1 from Z142).1).out 0).trans rfl,(blk_cell (Aside0.mk (show IsS59 w0 _ g s0_0 x1001_1 from Z142).1).out 1).trans rfl⟩ (fun hHeld => ?_);refine with_tabW impl_csvReader_quoted.tab5 impl_csvReader_quoted.bits5 (fun HT_ HW_ => ?_)
   generalize w21.drew = w22 at HO_4 HI0 HK HB hHeld ⊢
   refine rP 0 30 10 1 HT_ (h := ?_)
   refine rP 1 31 10 3 HT_ (h := ?_)
   refine rP 2 32 10 7 HT_ (h := ?_)
   refine rP 4 34 10 23 HT_ (h := ?_)
   refine rP 5 35 10 55 HT_ (h := ?_)
   refine rP 6 36 10 119 HT_ (h := ?_)
   refine rT2 3 33 10 127 HT_ HW_ hHeld (h := ?_)
   refine rT2 7 37 10 255 HT_ HW_ hHeld (h := ?_)
   refine rT2 8 38 10 511 HT_ HW_ hHeld (h := ?_)
   refine rP 9 39 10 1023 HT_ (h := ?_)
   refine done_ (done_of HT_.out Z253) ?_
   try go_wp2
   have n_ := jA (Kd.R_drew HO_4.out) (jA (IsS59.drew HI0.out) (jA (keep_drew HK.out) (Aside0.mk (below_drew1 HB.out))))
   clear HO_4 HI0 HK HB
   obtain ⟨HO_4,HI0,HK,HB⟩ := n_
   have p18 : 0 ≤ ((ji15) : Int) := of_decide_eq_true Z330
   have q18 : (ji15) < (s0_0.size : Int) := of_decide_eq_true Z330
   have hx18 := bt_at s0_0 (ji15)
   replace p18 := eq_true p18
   replace q18 := eq_true q18
   refine start_ (n := 24) (S := fun w' => w'.cell? ⟨g,0,none⟩ = some (.string s0_0) ∧ w'.cell? ⟨g,1,none⟩ = some (.int .i64 x1001_1)) (ds := []) (qM 24 0) Z253 rfl (by kernel_rfl) ⟨(blk_cell (Aside0.mk (show IsS59 w0 _ g s0_0 x1001_1 from Z142).1).out 0).trans rfl,(blk_cell (Aside0.mk (show IsS59 w0 _ g s0_0 x1001_1 from Z142).1).out 1).trans rfl⟩ (fun hHeld => ?_);refine with_tabW impl_csvReader_quoted.tab7 impl_csvReader_quoted.bits7 (fun HT_ HW_ => ?_)
   generalize w22.drew = w23 at HO_4 HI0 HK HB hHeld ⊢
   refine rP 0 52 24 1 HT_ (h := ?_)
   refine rP 1 53 24 3 HT_ (h := ?_)
   refine rP 2 54 24 7 HT_ (h := ?_)
   refine rP 5 57 24 39 HT_ (h := ?_)
   refine rP 6 58 24 103 HT_ (h := ?_)
   refine rP 7 59 24 231 HT_ (h := ?_)
   refine rT2 3 55 24 239 HT_ HW_ hHeld (h := ?_)
   refine rP 4 56 24 255 HT_ (h := ?_)
   refine rT2 8 60 24 511 HT_ HW_ hHeld (h := ?_)
   refine rP 9 61 24 1023 HT_ (h := ?_)
   refine rP 10 62 24 2047 HT_ (h := ?_)
   refine rP 11 63 24 4095 HT_ (h := ?_)
   refine rP 12 64 24 8191 HT_ (h := ?_)
   refine rP 13 65 24 16383 HT_ (h := ?_)
   refine rP 14 66 24 32767 HT_ (h := ?_)
   refine rP 16 68 24 98303 HT_ (h := ?_)
   refine rP 17 69 24 229375 HT_ (h := ?_)
   refine rP 18 70 24 491519 HT_ (h := ?_)
   refine rT2 15 67 24 524287 HT_ HW_ hHeld (h := ?_)
   refine rT2 19 71 24 1048575 HT_ HW_ hHeld (h := ?_)
   refine rP 20 72 24 2097151 HT_ (h := ?_)
   refine rT2 21 73 24 4194303 HT_ HW_ hHeld (h := ?_)
   refine rP 22 74 24 8388607 HT_ (h := ?_)
   refine rP 23 75 24 16777215 HT_ (h := ?_)
   refine done_ (done_of HT_.out Z253) ?_
   try go_wp2_with (first | ((with_reducible refine gate_builtin (b := .append) (xs := #[.tmp 85,.tmp 86]) rfl ?_);at_builtin;refine Kd.R_append (Kd.int .u8) w.heap.size rfl (.tmp 85) (.tmp 86) 66 5 (.int .u8 0) 1 rfl Tryd.underlying66 info5 rfl Z355 Z254 u4 x4_1 34 [.int .u8 34] (fun _ => True) (fun _ => False) rfl rfl ?aP (fun _ hk => hk.elim) ?aF ?aO (Below.refl _ _) ?aS ?aL ?_;(case aP => exact rfl);(case aF => exact Z244);(case aO => exact Z187);(case aS => exact Z118);(case aL => have := LMc20.out;omega);intro v245 w24 ho hb hg hat;rw [← Ny244.out] at ho;have n_ := jA (IsS59.grown Z142 hg (IsS59.own_ne HI0.out HO_4.out Z355)) (jA (below_weaken Z139 HL.out hb) (jA (KeepBut.trans Z300 (KeepBut.of_grown hg g) (Kd.R_base2 HO_4.out)) (Aside0.mk (ho))));clear HI0 HB HK HO_4;obtain ⟨HI0,HB,HK,HO246⟩ := n_;clear ho hb hg hat;obtain ⟨HGz25,hgz25⟩ := HI0.out;have hcz25_0 := cellS59_0 HGz25;have hcz25_1 := cellS59_1 HGz25;have hfz25_0 := blk_frozen HGz25 0;have hfz25_1 := blk_frozen HGz25 1;clear HGz25 hgz25))
   go_roundg k1
   case measure => have := HK1.out;omega
   case rel => exact ⟨(y244),(wrap64 ((ji15) + 1)),H',⟨Z248⟩,⟨by (with_reducible repeat (first | apply Kd.R_alloc | apply Kd.R_drewN | apply Kd.R_drew));exact Kd.R_mono (Kd.R_far (p := ⟨g,1,none⟩) (Kd.R_far (p := ⟨g,1,none⟩) (IsS59.apart HI0.out HO246.out Z355) (fun _ hk => hk.2) (.int .i64 ji15)) (fun _ hk => hk.2) (.int .i64 (wrap64 ((ji15) + 1)))) (fun _ hk => trivial)⟩,⟨Z142⟩,⟨Z300⟩,⟨Z139⟩⟩

end Go.Proofs.YtepnbcdbagjmbaaDoor.QFnExactReadTable
