/- The machine side of FnBetter: what each Go function that it reaches comes to. Conditions: none. -/
import Derived.Test.YtlflcgdcegohjaaQFnBetterx0
namespace Go.Proofs.Ytlflcgdcegohjaa.QFnBetter
open Go.RowKit Go.Proofs.YtlflcgdcegohjaaW.PrintWords Go.Proofs.YtlflcgdcegohjaaW.PrintLast Go.Proofs.YtlflcgdcegohjaaW.PrintMore
attribute [local go_sem] max2_int min2_int max_two min_two max_three min_three max_four min_four   -- for this text's walks alone
set_option linter.unusedVariables false
set_option linter.unusedSimpArgs false

/-! ### laws_big: function 4 -/
def laws_big.f (l0 : List Int) : Option (Bool) := some (decide ((l0.length : Int) > 1048576))
set_option maxHeartbeats 8000000 in
set_option maxRecDepth 100000 in
theorem laws_big.calls (A0 : Option Addr) (c0 : Nat) (l0 : List Int) (r : Bool) (w : World) (hr0 : Kd.C (Kd.int .u8) w A0 l0.length l0) (hc0 : l0.length ≤ c0) (h : laws_big.f l0 = some r) :
  Calls Try.prog 4 #[.slice A0 l0.length c0] w fun e w' => e = .returned (.bool r) ∧ Drawn0 w w' := by
 have HR0 := Aside0.mk hr0
 have HC0 := Aside0.mk hc0
 clear hr0 hc0
 have H := h
 clear h
 unfold laws_big.f at H
 obtain rfl := Option.some.inj H
 go_enter Try.func4,Try.ntmps4
 go_wp2
 go_ret
 exact ⟨Z294,Z271⟩

/-- A state of type 48 at block g of W;what its slices lead to came in by w0. -/
def IsS48 (w0 W : World) (g : Nat) (f0 : List Int) (f1 : Int) (f2 : Int) : Prop := ∃ A0 c0,W.heap[g]? = some (.cells #[.slice A0 f0.length c0,.int .i64 f1,.int .i64 f2] 48 (0,0)) ∧ w0.heap.size ≤ g ∧ Kd.C (Kd.int .u8) w0 A0 f0.length f0
theorem IsS48.grown {w0 W : World} {g : Nat} {f0 : List Int} {f1 : Int} {f2 : Int} {W1 : World} {row : Option Nat} (h : IsS48 w0 W g f0 f1 f2) (hw : W.grownBy W1 row) (hne : some g ≠ row) : IsS48 w0 W1 g f0 f1 f2 := by
 obtain ⟨A0,c0,hb,hg,hr0⟩ := h
 exact ⟨A0,c0,blk_grown hb hw hne,hg,hr0⟩
theorem IsS48.own_neN {w0 W : World} {g : Nat} {f0 : List Int} {f1 : Int} {f2 : Int} {α : Type} {d : Kd α} {e : Nat} {base : Nat} {ok : Nat → Prop} {v : Value} {xs : List α} (h : IsS48 w0 W g f0 f1 f2) (ho : Kd.N d e W base ok v xs) (ht : e ≠ 48) : some g ≠ v.ownBlock := by
 obtain ⟨A0,c0,hb,hg,hr0⟩ := h
 exact Kd.N_ne ho hb ht
theorem IsS48.fresh {w0 W : World} {g : Nat} {f0 : List Int} {f1 : Int} {f2 : Int} (h : IsS48 w0 W g f0 f1 f2) : ∀ k,W.heap.size ≤ k → k ≠ g := by
 obtain ⟨A0,c0,hb,hg,hr0⟩ := h
 exact Kd.freshB hb
theorem IsS48.kept {w0 W : World} {g : Nat} {f0 : List Int} {f1 : Int} {f2 : Int} {W1 : World} {S : Nat → Prop} (h : IsS48 w0 W g f0 f1 f2) (hk : Kept W W1 S) (hne : ¬ S g) : IsS48 w0 W1 g f0 f1 f2 := by
 obtain ⟨A0,c0,hb,hg,hr0⟩ := h
 exact ⟨A0,c0,blk_kept hb hk hne,hg,hr0⟩
theorem IsS48.below {w0 W : World} {g : Nat} {f0 : List Int} {f1 : Int} {f2 : Int} {W1 : World} (h : IsS48 w0 W g f0 f1 f2) (hw : Below W.heap.size W W1) : IsS48 w0 W1 g f0 f1 f2 := h.grown (grown_of_below hw none) Z524
theorem IsS48.alloc {w0 W : World} {g : Nat} {f0 : List Int} {f1 : Int} {f2 : Int} (h : IsS48 w0 W g f0 f1 f2) (o : Obj) : IsS48 w0 (W.alloc o) g f0 f1 f2 := h.below (below_alloc (Below.refl _ _) o)
theorem IsS48.drewN {w0 W : World} {g : Nat} {f0 : List Int} {f1 : Int} {f2 : Int} (h : IsS48 w0 W g f0 f1 f2) (m : Nat) : IsS48 w0 (W.drewN m) g f0 f1 f2 := h
theorem IsS48.drew {w0 W : World} {g : Nat} {f0 : List Int} {f1 : Int} {f2 : Int} (h : IsS48 w0 W g f0 f1 f2) : IsS48 w0 W.drew g f0 f1 f2 := h
theorem IsS48.at_ {w0 W : World} {g : Nat} {f0 : List Int} {f1 : Int} {f2 : Int} {w' : World} {m : Nat} (hq : W.drewN m = w') (h : IsS48 w0 W g f0 f1 f2) : IsS48 w0 w' g f0 f1 f2 := by subst hq;exact IsS48.drewN h m
theorem IsS48.apart {w0 W : World} {g : Nat} {f0 : List Int} {f1 : Int} {f2 : Int} {α : Type} {d : Kd α} {e : Nat} {base : Nat} {ok : Nat → Prop} {v : Value} {xs : List α} (h : IsS48 w0 W g f0 f1 f2) (ho : d.R e W base ok v xs) (ht : ∀ q,q ∈ e :: d.E → q ≠ 48) : d.R e W base (fun k => ok k ∧ k ≠ g) v xs := by
 obtain ⟨A0,c0,hb,hg,hr0⟩ := h
 exact Kd.R_types ho hb ht
theorem IsS48.own_ne {w0 W : World} {g : Nat} {f0 : List Int} {f1 : Int} {f2 : Int} {α : Type} {d : Kd α} {e : Nat} {base : Nat} {ok : Nat → Prop} {v : Value} {xs : List α} (h : IsS48 w0 W g f0 f1 f2) (ho : d.R e W base ok v xs) (ht : e ≠ 48) : some g ≠ v.ownBlock := by
 obtain ⟨A0,c0,hb,hg,hr0⟩ := h
 exact Kd.R_ne ho hb ht
theorem IsS48.apartQ {w0 W : World} {g : Nat} {f0 : List Int} {f1 : Int} {f2 : Int} {α : Type} {d : Kd α} {e : Nat} {base : Nat} {ok : Nat → Prop} {v : Value} {xs : List α} (h : IsS48 w0 W g f0 f1 f2) (ho : d.Q e W base ok v xs) (ht : ∀ q,q ∈ e :: d.E → q ≠ 48) : d.Q e W base (fun k => ok k ∧ k ≠ g) v xs := by
 obtain ⟨A0,c0,hb,hg,hr0⟩ := h
 exact Kd.Q_types ho hb ht
theorem IsS48.own_neQ {w0 W : World} {g : Nat} {f0 : List Int} {f1 : Int} {f2 : Int} {α : Type} {d : Kd α} {e : Nat} {base : Nat} {ok : Nat → Prop} {v : Value} {xs : List α} (h : IsS48 w0 W g f0 f1 f2) (ho : d.Q e W base ok v xs) (ht : e ≠ 48) : some g ≠ v.ownBlock := by
 obtain ⟨A0,c0,hb,hg,hr0⟩ := h
 exact Kd.Q_ne ho hb ht
theorem IsS48.apartS {w0 W : World} {g : Nat} {f0 : List Int} {f1 : Int} {f2 : Int} {α : Type} {d : Kd α} {e : Nat} {base : Nat} {ok : Nat → Prop} {v : Value} {xs : List α} (h : IsS48 w0 W g f0 f1 f2) (ho : d.S e W base ok v xs) (ht : ∀ q,q ∈ e :: d.E → q ≠ 48) : d.S e W base (fun k => ok k ∧ k ≠ g) v xs := by
 obtain ⟨A0,c0,hb,hg,hr0⟩ := h
 exact Kd.S_types ho hb ht
theorem IsS48.own_neS {w0 W : World} {g : Nat} {f0 : List Int} {f1 : Int} {f2 : Int} {α : Type} {d : Kd α} {e : Nat} {base : Nat} {ok : Nat → Prop} {v : Value} {xs : List α} (h : IsS48 w0 W g f0 f1 f2) (ho : d.S e W base ok v xs) (ht : e ≠ 48) : some g ≠ v.ownBlock := by
 obtain ⟨A0,c0,hb,hg,hr0⟩ := h
 exact Kd.S_ne ho hb ht
theorem IsS48.lt {w0 W : World} {g : Nat} {f0 : List Int} {f1 : Int} {f2 : Int} (h : IsS48 w0 W g f0 f1 f2) : g < W.heap.size := by
 obtain ⟨A0,c0,hb,hg,hr0⟩ := h
 exact blk_lt hb
theorem IsS48.ge {w0 W : World} {g : Nat} {f0 : List Int} {f1 : Int} {f2 : Int} (h : IsS48 w0 W g f0 f1 f2) : w0.heap.size ≤ g := by
 obtain ⟨A0,c0,hb,hg,hr0⟩ := h
 exact hg
theorem IsS48.ne_blk {w0 W : World} {g : Nat} {f0 : List Int} {f1 : Int} {f2 : Int} {a : Nat} {cs : Array Value} {t : TypeId} {fr : Nat × Nat} (h : IsS48 w0 W g f0 f1 f2) (hb2 : W.heap[a]? = some (.cells cs t fr)) (ht : t ≠ 48) : g ≠ a := by
 obtain ⟨A0,c0,hb,hg,hr0⟩ := h
 rintro rfl
 rw [hb] at hb2
 injection hb2 with hb2
 injection hb2 with _ ht2
 exact ht ht2.symm
theorem IsS48.far {w0 W : World} {g : Nat} {f0 : List Int} {f1 : Int} {f2 : Int} {p : Addr} (h : IsS48 w0 W g f0 f1 f2) (hne : g ≠ p.block) (u : Value) : IsS48 w0 (W.setCell p u) g f0 f1 f2 := by
 obtain ⟨A0,c0,hb,hg,hr0⟩ := h
 exact ⟨A0,c0,blk_far hb hne u,hg,hr0⟩
theorem cellS48_0 {W : World} {g : Nat} {A0 : Option Addr} {c0 : Nat} {f0 : List Int} {f1 : Int} {f2 : Int} (h : W.heap[g]? = some (.cells #[.slice A0 f0.length c0,.int .i64 f1,.int .i64 f2] 48 (0,0))) : W.cell? ⟨g,0,none⟩ = some (.slice A0 f0.length c0) := (blk_cell h 0).trans rfl
theorem cellS48_1 {W : World} {g : Nat} {A0 : Option Addr} {c0 : Nat} {f0 : List Int} {f1 : Int} {f2 : Int} (h : W.heap[g]? = some (.cells #[.slice A0 f0.length c0,.int .i64 f1,.int .i64 f2] 48 (0,0))) : W.cell? ⟨g,1,none⟩ = some (.int .i64 f1) := (blk_cell h 1).trans rfl
theorem IsS48.set_1 {w0 W : World} {g : Nat} {f0 : List Int} {f1 : Int} {f2 : Int} (h : IsS48 w0 W g f0 f1 f2) (x : Int) : IsS48 w0 (W.setCell ⟨g,1,none⟩ (.int .i64 x)) g f0 x f2 := by
 obtain ⟨A0,c0,hb,hg,hr0⟩ := h
 exact ⟨A0,c0,by simpa using blk_set hb 1 (.int .i64 x),hg,hr0⟩
theorem cellS48_2 {W : World} {g : Nat} {A0 : Option Addr} {c0 : Nat} {f0 : List Int} {f1 : Int} {f2 : Int} (h : W.heap[g]? = some (.cells #[.slice A0 f0.length c0,.int .i64 f1,.int .i64 f2] 48 (0,0))) : W.cell? ⟨g,2,none⟩ = some (.int .i64 f2) := (blk_cell h 2).trans rfl
theorem IsS48.set_2 {w0 W : World} {g : Nat} {f0 : List Int} {f1 : Int} {f2 : Int} (h : IsS48 w0 W g f0 f1 f2) (x : Int) : IsS48 w0 (W.setCell ⟨g,2,none⟩ (.int .i64 x)) g f0 f1 x := by
 obtain ⟨A0,c0,hb,hg,hr0⟩ := h
 exact ⟨A0,c0,by simpa using blk_set hb 2 (.int .i64 x),hg,hr0⟩
theorem IsS48.new (w0 W : World) (A0 : Option Addr) (c0 : Nat) (f0 : List Int) (f1 : Int) (f2 : Int) (hB : Below w0.heap.size w0 W) (hr0 : Kd.C (Kd.int .u8) w0 A0 f0.length f0) : IsS48 w0 (W.alloc (.cells #[.slice A0 f0.length c0,.int .i64 f1,.int .i64 f2] 48)) W.heap.size f0 f1 f2 := ⟨A0,c0,by simpa using heap_alloc_new W _,hB.size,hr0⟩

/-! ### spec_l1New: function 8 -/
def spec_l1New.l0 : Nat → List Int → Int → Int → Option (List Int × Int × Int)
 | 0,_,_,_ => none
 | k + 1,x0,x3,x4 => if x4 < (x0.length : Int) then (if x4 < 4000 then (if 0 ≤ x4 then (spec_l1New.l0 k x0 (Go.bits .and .i64 (wrap64 ((wrap64 ((wrap64 (x3 * 131)) + (wrap64 (rd x0 x4)))) + 7)) 1073741823) (wrap64 (x4 + 1))) else (none)) else (some (x0,0,x3))) else (some (x0,0,x3))
def spec_l1New.f (k : Nat) (l0 : List Int) : Option (List Int × Int × Int) := spec_l1New.l0 k l0 (wrap64 (28507 + (l0.length : Int))) 0
theorem spec_l1New.mono_l : ∀ k,(∀ y0 y1 y2,LeO (spec_l1New.l0 k y0 y1 y2) (spec_l1New.l0 (k + 1) y0 y1 y2))
 | 0 => fun _ _ _ r h => by simp [spec_l1New.l0] at h
 | k + 1 => by
  have ih0 := spec_l1New.mono_l k
  ·intro y0 y1 y2
   unfold spec_l1New.l0
   repeat' first
   | (with_reducible exact ih0 _ _ _)
   | (with_reducible exact LeO.refl _)
   | (with_reducible exact LeO.none _)
   | (with_reducible refine LeO.ite ?_ ?_)
   | (with_reducible refine LeO.bind ?_ (fun _ => ?_))
   | exact ih0 _ _ _
   | exact LeO.none _
   | refine LeO.ite ?_ ?_
   | refine LeO.bind ?_ (fun _ => ?_)
theorem spec_l1New.mono : ∀ a0 k,LeO (spec_l1New.f k a0) (spec_l1New.f (k + 1) a0) := by
 intro a0 k
 have ih0 := spec_l1New.mono_l k
 unfold spec_l1New.f
 repeat' first
   | (with_reducible exact ih0 _ _ _)
   | (with_reducible exact LeO.refl _)
   | (with_reducible exact LeO.none _)
   | (with_reducible refine LeO.ite ?_ ?_)
   | (with_reducible refine LeO.bind ?_ (fun _ => ?_))
   | exact ih0 _ _ _
   | exact LeO.none _
   | refine LeO.ite ?_ ?_
   | refine LeO.bind ?_ (fun _ => ?_)
set_option maxHeartbeats 8000000 in
set_option maxRecDepth 100000 in
theorem spec_l1New.calls (k : Nat) (A0 : Option Addr) (c0 : Nat) (l0 : List Int) (r1 : List Int) (r2 : Int) (r3 : Int) (w0 w : World) (hB : Below w0.heap.size w0 w) (hr0 : Kd.C (Kd.int .u8) w0 A0 l0.length l0) (hc0 : l0.length ≤ c0) (h : spec_l1New.f k l0 = some (r1,r2,r3)) :
  Calls Try.prog 8 #[.slice A0 l0.length c0] w fun e w' => ∃ g_ : Nat,e = .returned (.pointer (some ⟨g_,0,none⟩)) ∧ IsS48 w0 w' g_ r1 r2 r3 ∧ Below w0.heap.size w0 w' ∧ Below w.heap.size w w' := by
 have hu48 := Try.underlying48
 have HR0 := Aside0.mk hr0
 have HC0 := Aside0.mk hc0
 clear hr0 hc0
 have HBW := Aside0.mk (Below.refl w.heap.size w)
 have HW0 := Aside0.mk hB.size
 have HB := Aside0.mk hB
 clear hB
 have H := h
 clear h
 unfold spec_l1New.f at H
 have H' := Aside0.mk H
 clear H
 go_enter Try.func8,Try.ntmps8
 go_wp2
 go_loopg [3,4] k (fun kq v3 v4 w' => ∃ (x3_1 : Int) (x4_1 : Int),v3 = .int .i64 x3_1 ∧ v4 = .int .i64 x4_1 ∧ Aside0 (spec_l1New.l0 kq l0 x3_1 x4_1 = some (r1,r2,r3)) ∧ Aside0 (kq ≤ k) ∧ Aside0 (Below w0.heap.size w0 w') ∧ Aside0 (Below w.heap.size w w'))
 case atStart => exact ⟨(wrap64 (28507 + (l0.length : Int))),(0),Z294,Z294,H',⟨Nat.le_refl _⟩,⟨Z574⟩,⟨Z481⟩⟩
 case round =>
  clear H'
  obtain ⟨x3_1,x4_1,rfl,rfl,HA,HK1,HB,HBW⟩ := hrel
  cases gk with
  | zero => exact absurd HA.out (by simp [spec_l1New.l0])
  | succ k1 =>
   have H := HA.out
   clear HA
   simp only [spec_l1New.l0] at H
   by_cases c2 : x4_1 < (l0.length : Int)
   rotate_left
   ·rw [if_neg c2] at H
    have c2b0 : decide (x4_1 < (l0.length : Int)) = false := decide_eq_false c2
    clear c2
    simp only [Option.some.injEq,Prod.mk.injEq] at H
    obtain ⟨rfl,rfl,rfl⟩ := H
    go_wp2_with (first | ((with_reducible refine gate_dst (N := 31) rfl ?_);refine bE 31 #[.slice A0 l0.length c0,.int .i64 0,.int .i64 x3_1] 48 (h := ?_);intro gb103 hg wq1 hbox hb;have n_ := jA (below_step HBW.out hb) (jA (below_step Z574 hb) (jA (hbox) (jA ((Z241 : w.heap.size ≤ gb103)) (Aside0.mk ((Nat.le_trans HW0.out (Z241 : w.heap.size ≤ gb103) : w0.heap.size ≤ gb103))))));clear HBW HB;obtain ⟨HBW,HB,BK103,GW103,GE103⟩ := n_;clear hb hbox hg))
    go_ret
    exact ⟨_,rfl,(show IsS48 w0 _ gb103 l0 0 x3_1 from ⟨_,_,by refine bP ?_;exact BK103.out,GE103.out,HR0.out⟩),by repeat (first | (with_reducible first | exact HB.out | apply below_alloc | apply pw_below_drewN | apply below_drew1 | refine below_set ?_ GE103.out) | exact HB.out),by repeat (first | (with_reducible first | exact HBW.out | apply below_alloc | apply pw_below_drewN | apply below_drew1 | refine below_set ?_ GW103.out) | exact HBW.out)⟩
   rw [if_pos c2] at H
   have c2b0 : decide (x4_1 < (l0.length : Int)) = true := decide_eq_true c2
   clear c2
   by_cases c3 : x4_1 < 4000
   ·rw [if_pos c3] at H
    have c3b0 : decide (x4_1 < 4000) = true := decide_eq_true c3
    clear c3
    obtain ⟨c4,H⟩ := ifp H
    have c4b0 : decide (0 ≤ x4_1) = true := decide_eq_true c4
    clear c4
    have H' := Aside0.mk H
    clear H
    have p101 : 0 ≤ (x4_1 : Int) := of_decide_eq_true Z293
    have q101 : x4_1 < (l0.length : Int) := of_decide_eq_true Z293
    obtain ⟨ad101,e101,hx101_0⟩ := Kd.at_int HR0.out x4_1 p101 q101
    cases e101
    replace hx101_0 := pw_cell_below HB.out hx101_0
    replace p101 := eq_true p101
    replace q101 := eq_true q101
    go_wp2
    go_roundg k1
    case measure => have := HK1.out;omega
    case rel => exact ⟨(Go.bits .and .i64 (wrap64 ((wrap64 ((wrap64 (x3_1 * 131)) + (wrap64 (rd l0 x4_1)))) + 7)) 1073741823),(wrap64 (x4_1 + 1)),Z294,Z294,H',⟨Z309⟩,⟨Z574⟩,⟨Z481⟩⟩
   rw [if_neg c3] at H
   have c3b0 : decide (x4_1 < 4000) = false := decide_eq_false c3
   clear c3
   simp only [Option.some.injEq,Prod.mk.injEq] at H
   obtain ⟨rfl,rfl,rfl⟩ := H
   go_wp2_with (first | ((with_reducible refine gate_dst (N := 31) rfl ?_);refine bE 31 #[.slice A0 l0.length c0,.int .i64 0,.int .i64 x3_1] 48 (h := ?_);intro gb102 hg wq1 hbox hb;have n_ := jA (below_step HBW.out hb) (jA (below_step Z574 hb) (jA (hbox) (jA ((Z241 : w.heap.size ≤ gb102)) (Aside0.mk ((Nat.le_trans HW0.out (Z241 : w.heap.size ≤ gb102) : w0.heap.size ≤ gb102))))));clear HBW HB;obtain ⟨HBW,HB,BK102,GW102,GE102⟩ := n_;clear hb hbox hg))
   go_ret
   exact ⟨_,rfl,(show IsS48 w0 _ gb102 l0 0 x3_1 from ⟨_,_,by refine bP ?_;exact BK102.out,GE102.out,HR0.out⟩),by repeat (first | (with_reducible first | exact HB.out | apply below_alloc | apply pw_below_drewN | apply below_drew1 | refine below_set ?_ GE102.out) | exact HB.out),by repeat (first | (with_reducible first | exact HBW.out | apply below_alloc | apply pw_below_drewN | apply below_drew1 | refine below_set ?_ GW102.out) | exact HBW.out)⟩

/-! ### spec_l1Byte: function 21 -/
def spec_l1Byte.f (s0_0 : List Int) (s0_1 : Int) (s0_2 : Int) : Option (Int × Int × Int) := if s0_1 < (s0_0.length : Int) then (if 0 ≤ s0_1 then (some (Go.bits .and .i64 (wrap64 ((Go.bits .and .i64 (Go.bits .xor .i64 ((wrap64 ((wrap64 (s0_2 * 6364136223846793005)) + 1442695040888963407)) / 8589934592) ((wrap64 ((wrap64 (s0_2 * 6364136223846793005)) + 1442695040888963407)) / 35184372088832)) 255) + (wrap64 (rd s0_0 s0_1)))) 255,wrap64 (s0_1 + 1),wrap64 ((wrap64 (s0_2 * 6364136223846793005)) + 1442695040888963407))) else (none)) else (some (Go.bits .and .i64 (Go.bits .xor .i64 ((wrap64 ((wrap64 (s0_2 * 6364136223846793005)) + 1442695040888963407)) / 8589934592) ((wrap64 ((wrap64 (s0_2 * 6364136223846793005)) + 1442695040888963407)) / 35184372088832)) 255,s0_1,wrap64 ((wrap64 (s0_2 * 6364136223846793005)) + 1442695040888963407)))
set_option maxHeartbeats 8000000 in
set_option maxRecDepth 100000 in
theorem spec_l1Byte.calls (g : Nat) (s0_0 : List Int) (s0_1 : Int) (s0_2 : Int) (r1 : Int) (r2 : Int) (r3 : Int) (w0 w : World) (hI : IsS48 w0 w g s0_0 s0_1 s0_2) (hB : Below w0.heap.size w0 w) (h : spec_l1Byte.f s0_0 s0_1 s0_2 = some (r1,r2,r3)) :
  Calls Try.prog 21 #[.pointer (some ⟨g,0,none⟩)] w fun e w' => e = .returned (.int .i64 r1) ∧ IsS48 w0 w' g s0_0 r2 r3 ∧ Below w0.heap.size w0 w' ∧ KeepBut w w' g none := by
 have HI0 := Aside0.mk hI
 have HK := Aside0.mk (KeepBut.refl w g none)
 have HL := Aside0.mk hB.size
 clear hI
 have HW0 := Aside0.mk hB.size
 have HB := Aside0.mk hB
 clear hB
 have H := h
 clear h
 unfold spec_l1Byte.f at H
 by_cases c2 : s0_1 < (s0_0.length : Int)
 rotate_left
 ·rw [if_neg c2] at H
  have c2b0 : decide (s0_1 < (s0_0.length : Int)) = false := decide_eq_false c2
  clear c2
  simp only [Option.some.injEq,Prod.mk.injEq] at H
  obtain ⟨rfl,rfl,rfl⟩ := H
  obtain ⟨ASz5_0,cSz5_0,HGz5,hgz5,HSz5_0⟩ := HI0.out
  have hcz5_0 := cellS48_0 HGz5
  have hcz5_1 := cellS48_1 HGz5
  have hcz5_2 := cellS48_2 HGz5
  have hfz5_1 := blk_frozen HGz5 1
  have hfz5_2 := blk_frozen HGz5 2
  clear HGz5 hgz5
  go_enter Try.func21,Try.ntmps21
  go_wp2
  repeat (go_quiet (fail);try go_wp2)
  go_ret
  exact ⟨Z265,Z399,Z398,Z573⟩
 rw [if_pos c2] at H
 have c2b0 : decide (s0_1 < (s0_0.length : Int)) = true := decide_eq_true c2
 clear c2
 obtain ⟨c3,H⟩ := ifp H
 have c3b0 : decide (0 ≤ s0_1) = true := decide_eq_true c3
 clear c3
 simp only [Option.some.injEq,Prod.mk.injEq] at H
 obtain ⟨rfl,rfl,rfl⟩ := H
 obtain ⟨ASz4_0,cSz4_0,HGz4,hgz4,HSz4_0⟩ := HI0.out
 have hcz4_0 := cellS48_0 HGz4
 have hcz4_1 := cellS48_1 HGz4
 have hcz4_2 := cellS48_2 HGz4
 have hfz4_1 := blk_frozen HGz4 1
 have hfz4_2 := blk_frozen HGz4 2
 clear HGz4 hgz4
 have p104 : 0 ≤ (s0_1 : Int) := of_decide_eq_true Z293
 have q104 : s0_1 < (s0_0.length : Int) := of_decide_eq_true Z293
 obtain ⟨ad104,e104,hx104_0⟩ := Kd.at_int HSz4_0 s0_1 p104 q104
 cases e104
 have hn104_0 : ad104.block ≠ g := Nat.ne_of_lt (Nat.lt_of_lt_of_le (by have := World.block_lt_of_cell? _ _ hx104_0;first | rwa [add_block] at this | exact this) (IsS48.ge HI0.out))
 replace hx104_0 := pw_cell_below HB.out hx104_0
 replace hx104_0 := (cell_far (p := ⟨g,2,none⟩) (by first | (rw [add_block];exact hn104_0) | (show (Addr.add _ _).block ≠ _;rw [add_block];exact hn104_0) | exact hn104_0) (.int .i64 (wrap64 ((wrap64 (s0_2 * 6364136223846793005)) + 1442695040888963407)))).trans hx104_0
 (try have hy104_0 := fun (n_ : Nat) => (show (((w.drewN n_).setCell ⟨g,2,none⟩ (.int .i64 (wrap64 ((wrap64 (s0_2 * 6364136223846793005)) + 1442695040888963407))))).cell? _ = some _ from hx104_0))
 clear hn104_0
 replace p104 := eq_true p104
 replace q104 := eq_true q104
 go_enter Try.func21,Try.ntmps21
 go_wp2
 repeat (go_quiet (fail);try go_wp2)
 go_ret
 exact ⟨Z265,Z399,Z398,Z573⟩

/-! ### spec_l1Below: function 10 -/
def spec_l1Below.f (s0_0 : List Int) (s0_1 : Int) (s0_2 : Int) (a1 : Int) : Option (Int × Int × Int) := if a1 ≤ 0 then (some (0,s0_1,s0_2)) else (if a1 ≤ 256 then ((spec_l1Byte.f s0_0 s0_1 s0_2).bind fun bt105 => (if a1 = 0 then (none) else (some (Int.tmod bt105.1 a1,bt105.2.1,bt105.2.2)))) else ((spec_l1Byte.f s0_0 s0_1 s0_2).bind fun bt108 => ((spec_l1Byte.f s0_0 bt108.2.1 bt108.2.2).bind fun bt111 => ((spec_l1Byte.f s0_0 bt111.2.1 bt111.2.2).bind fun bt114 => ((spec_l1Byte.f s0_0 bt114.2.1 bt114.2.2).bind fun bt117 => (if a1 = 0 then (none) else (some (Int.tmod (wrap64 ((wrap64 ((wrap64 ((wrap64 (bt108.1 * 16777216)) + (wrap64 (bt111.1 * 65536)))) + (wrap64 (bt114.1 * 256)))) + bt117.1)) a1,bt117.2.1,bt117.2.2))))))))
set_option maxHeartbeats 8000000 in
set_option maxRecDepth 100000 in
theorem spec_l1Below.calls (g : Nat) (s0_0 : List Int) (s0_1 : Int) (s0_2 : Int) (a1 : Int) (r1 : Int) (r2 : Int) (r3 : Int) (w0 w : World) (hI : IsS48 w0 w g s0_0 s0_1 s0_2) (hB : Below w0.heap.size w0 w) (h : spec_l1Below.f s0_0 s0_1 s0_2 a1 = some (r1,r2,r3)) :
  Calls Try.prog 10 #[.pointer (some ⟨g,0,none⟩),.int .i64 a1] w fun e w' => e = .returned (.int .i64 r1) ∧ IsS48 w0 w' g s0_0 r2 r3 ∧ Below w0.heap.size w0 w' ∧ KeepBut w w' g none := by
 have HI0 := Aside0.mk hI
 have HK := Aside0.mk (KeepBut.refl w g none)
 have HL := Aside0.mk hB.size
 clear hI
 have HW0 := Aside0.mk hB.size
 have HB := Aside0.mk hB
 clear hB
 have H := h
 clear h
 unfold spec_l1Below.f at H
 by_cases c3 : a1 ≤ 0
 ·rw [if_pos c3] at H
  have c3b0 : decide (a1 ≤ 0) = true := decide_eq_true c3
  clear c3
  simp only [Option.some.injEq,Prod.mk.injEq] at H
  obtain ⟨rfl,rfl,rfl⟩ := H
  go_enter Try.func10,Try.ntmps10
  go_wp2
  go_ret
  exact ⟨Z265,Z399,Z398,Z573⟩
 rw [if_neg c3] at H
 have c3b0 : decide (a1 ≤ 0) = false := decide_eq_false c3
 clear c3
 by_cases c4 : a1 ≤ 256
 ·rw [if_pos c4] at H
  have c4b0 : decide (a1 ≤ 256) = true := decide_eq_true c4
  clear c4
  obtain ⟨⟨t105,t106,t107⟩,A50,H⟩ := Option.bind_eq_some_iff.mp H
  try dsimp only at H
  have A5 := Aside0.mk A50
  clear A50
  by_cases c6 : a1 = 0
  ·rw [if_pos c6] at H
   exact absurd H Z524
  rw [if_neg c6] at H
  have c6b0 : (a1 == 0) = false := beq_eq_false_iff_ne.mpr c6
  have c6b1 : (a1 != 0) = true := bne_iff_ne.mpr c6
  simp only [Option.some.injEq,Prod.mk.injEq] at H
  obtain ⟨rfl,rfl,rfl⟩ := H
  go_enter Try.func10,Try.ntmps10
  go_wp2_with (first | ((with_reducible refine gate_callee (f := 21) rfl ?_);refine goesL_ (some 14) rfl rfl Try.func21 Z310 rfl #[.pointer (some ⟨g,0,none⟩)] rfl Z249 ?_;(with_reducible refine (spec_l1Byte.calls g s0_0 s0_1 s0_2 t105 t106 t107 w0 _ ?side1 ?side2 A5.out).mono ?_);(case side1 => exact Z399);(case side2 => exact Z398);rintro e wq1 ⟨rfl,hi,hb,hk⟩;refine ⟨_,rfl,?_⟩;have n_ := Z189;clear HK HB HI0;obtain ⟨HK,HB,HI0⟩ := n_;(try clear hb);(try clear hb2);(try clear hk);(try clear hi)))
  go_ret
  exact ⟨Z265,Z399,Z398,Z573⟩
 rw [if_neg c4] at H
 have c4b0 : decide (a1 ≤ 256) = false := decide_eq_false c4
 clear c4
 obtain ⟨⟨t108,t109,t110⟩,A80,H⟩ := Option.bind_eq_some_iff.mp H
 try dsimp only at H
 have A8 := Aside0.mk A80
 clear A80
 obtain ⟨⟨t111,t112,t113⟩,A90,H⟩ := Option.bind_eq_some_iff.mp H
 try dsimp only at H
 have A9 := Aside0.mk A90
 clear A90
 obtain ⟨⟨t114,t115,t116⟩,A100,H⟩ := Option.bind_eq_some_iff.mp H
 try dsimp only at H
 have A10 := Aside0.mk A100
 clear A100
 obtain ⟨⟨t117,t118,t119⟩,A110,H⟩ := Option.bind_eq_some_iff.mp H
 try dsimp only at H
 have A11 := Aside0.mk A110
 clear A110
 by_cases c12 : a1 = 0
 ·rw [if_pos c12] at H
  exact absurd H Z524
 rw [if_neg c12] at H
 have c12b0 : (a1 == 0) = false := beq_eq_false_iff_ne.mpr c12
 have c12b1 : (a1 != 0) = true := bne_iff_ne.mpr c12
 simp only [Option.some.injEq,Prod.mk.injEq] at H
 obtain ⟨rfl,rfl,rfl⟩ := H
 go_enter Try.func10,Try.ntmps10
 go_wp2_with (first | ((with_reducible refine gate_callee (f := 21) rfl ?_);refine goesL_ (some 18) rfl rfl Try.func21 Z310 rfl #[.pointer (some ⟨g,0,none⟩)] rfl Z249 ?_;(with_reducible refine (spec_l1Byte.calls g s0_0 s0_1 s0_2 t108 t109 t110 w0 _ ?side1 ?side2 A8.out).mono ?_);(case side1 => exact Z399);(case side2 => exact Z398);rintro e wq1 ⟨rfl,hi,hb,hk⟩;refine ⟨_,rfl,?_⟩;have n_ := Z189;clear HK HB HI0;obtain ⟨HK,HB,HI0⟩ := n_;(try clear hb);(try clear hb2);(try clear hk);(try clear hi)) | ((with_reducible refine gate_callee (f := 21) rfl ?_);refine goesL_ (some 20) rfl rfl Try.func21 Z310 rfl #[.pointer (some ⟨g,0,none⟩)] rfl Z249 ?_;(with_reducible refine (spec_l1Byte.calls g s0_0 t109 t110 t111 t112 t113 w0 _ ?side1 ?side2 A9.out).mono ?_);(case side1 => exact Z399);(case side2 => exact Z398);rintro e wq2 ⟨rfl,hi,hb,hk⟩;refine ⟨_,rfl,?_⟩;have n_ := Z189;clear HK HB HI0;obtain ⟨HK,HB,HI0⟩ := n_;(try clear hb);(try clear hb2);(try clear hk);(try clear hi)) | ((with_reducible refine gate_callee (f := 21) rfl ?_);refine goesL_ (some 22) rfl rfl Try.func21 Z310 rfl #[.pointer (some ⟨g,0,none⟩)] rfl Z249 ?_;(with_reducible refine (spec_l1Byte.calls g s0_0 t112 t113 t114 t115 t116 w0 _ ?side1 ?side2 A10.out).mono ?_);(case side1 => exact Z399);(case side2 => exact Z398);rintro e wq3 ⟨rfl,hi,hb,hk⟩;refine ⟨_,rfl,?_⟩;have n_ := Z189;clear HK HB HI0;obtain ⟨HK,HB,HI0⟩ := n_;(try clear hb);(try clear hb2);(try clear hk);(try clear hi)) | ((with_reducible refine gate_callee (f := 21) rfl ?_);refine goesL_ (some 24) rfl rfl Try.func21 Z310 rfl #[.pointer (some ⟨g,0,none⟩)] rfl Z249 ?_;(with_reducible refine (spec_l1Byte.calls g s0_0 t115 t116 t117 t118 t119 w0 _ ?side1 ?side2 A11.out).mono ?_);(case side1 => exact Z399);(case side2 => exact Z398);rintro e wq4 ⟨rfl,hi,hb,hk⟩;refine ⟨_,rfl,?_⟩;have n_ := Z189;clear HK HB HI0;obtain ⟨HK,HB,HI0⟩ := n_;(try clear hb);(try clear hb2);(try clear hk);(try clear hi)))
 go_ret
 exact ⟨Z265,Z399,Z398,Z573⟩

/-! ### spec_l1Once: function 19 -/
def spec_l1Once.f (s0_0 : List Int) (s0_1 : Int) (s0_2 : Int) (a1 : Int) : Option (Bool × Int × Int) := (spec_l1Below.f s0_0 s0_1 s0_2 a1).bind fun bt120 => (some ((bt120.1 == 0),bt120.2.1,bt120.2.2))
set_option maxHeartbeats 8000000 in
set_option maxRecDepth 100000 in
theorem spec_l1Once.calls (g : Nat) (s0_0 : List Int) (s0_1 : Int) (s0_2 : Int) (a1 : Int) (r1 : Bool) (r2 : Int) (r3 : Int) (w0 w : World) (hI : IsS48 w0 w g s0_0 s0_1 s0_2) (hB : Below w0.heap.size w0 w) (h : spec_l1Once.f s0_0 s0_1 s0_2 a1 = some (r1,r2,r3)) :
  Calls Try.prog 19 #[.pointer (some ⟨g,0,none⟩),.int .i64 a1] w fun e w' => e = .returned (.bool r1) ∧ IsS48 w0 w' g s0_0 r2 r3 ∧ Below w0.heap.size w0 w' ∧ KeepBut w w' g none := by
 have HI0 := Aside0.mk hI
 have HK := Aside0.mk (KeepBut.refl w g none)
 have HL := Aside0.mk hB.size
 clear hI
 have HW0 := Aside0.mk hB.size
 have HB := Aside0.mk hB
 clear hB
 have H := h
 clear h
 unfold spec_l1Once.f at H
 obtain ⟨⟨t120,t121,t122⟩,A30,H⟩ := Option.bind_eq_some_iff.mp H
 try dsimp only at H
 have A3 := Aside0.mk A30
 clear A30
 simp only [Option.some.injEq,Prod.mk.injEq] at H
 obtain ⟨rfl,rfl,rfl⟩ := H
 go_enter Try.func19,Try.ntmps19
 go_wp2_with (first | ((with_reducible refine gate_callee (f := 10) rfl ?_);refine goesL_ (some 7) rfl rfl Try.func10 Z310 rfl #[.pointer (some ⟨g,0,none⟩),.int .i64 a1] rfl Z249 ?_;(with_reducible refine (spec_l1Below.calls g s0_0 s0_1 s0_2 a1 t120 t121 t122 w0 _ ?side1 ?side2 A3.out).mono ?_);(case side1 => exact Z399);(case side2 => exact Z398);rintro e wq1 ⟨rfl,hi,hb,hk⟩;refine ⟨_,rfl,?_⟩;have n_ := Z189;clear HK HB HI0;obtain ⟨HK,HB,HI0⟩ := n_;(try clear hb);(try clear hb2);(try clear hk);(try clear hi)))
 go_ret
 exact ⟨Z265,Z399,Z398,Z573⟩

/-! ### spec_l1PickInt: function 36 -/
def spec_l1PickInt.f (s0_0 : List Int) (s0_1 : Int) (s0_2 : Int) (l1 : List Int) : Option (Int × Int × Int) := (spec_l1Below.f s0_0 s0_1 s0_2 (l1.length : Int)).bind fun bt123 => (if 0 ≤ bt123.1 then (if bt123.1 < (l1.length : Int) then (some (rd l1 bt123.1,bt123.2.1,bt123.2.2)) else (none)) else (none))
set_option maxHeartbeats 8000000 in
set_option maxRecDepth 100000 in
theorem spec_l1PickInt.calls (g : Nat) (s0_0 : List Int) (s0_1 : Int) (s0_2 : Int) (A1 : Option Addr) (c1 : Nat) (l1 : List Int) (r1 : Int) (r2 : Int) (r3 : Int) (w0 w : World) (hI : IsS48 w0 w g s0_0 s0_1 s0_2) (hB : Below w0.heap.size w0 w) (hr1 : Kd.C (Kd.int .i64) w A1 l1.length l1) (hc1 : l1.length ≤ c1) (hf1 : ∀ ad,A1 = some ad → 0 < l1.length → ad.block ≠ g) (h : spec_l1PickInt.f s0_0 s0_1 s0_2 l1 = some (r1,r2,r3)) :
  Calls Try.prog 36 #[.pointer (some ⟨g,0,none⟩),.slice A1 l1.length c1] w fun e w' => e = .returned (.int .i64 r1) ∧ IsS48 w0 w' g s0_0 r2 r3 ∧ Below w0.heap.size w0 w' ∧ KeepBut w w' g none := by
 have HR1 := Aside0.mk hr1
 have HC1 := Aside0.mk hc1
 clear hr1 hc1
 have HI0 := Aside0.mk hI
 have HK := Aside0.mk (KeepBut.refl w g none)
 have HL := Aside0.mk hB.size
 clear hI
 have HW0 := Aside0.mk hB.size
 have HB := Aside0.mk hB
 clear hB
 have H := h
 clear h
 unfold spec_l1PickInt.f at H
 obtain ⟨⟨t123,t124,t125⟩,A30,H⟩ := Option.bind_eq_some_iff.mp H
 try dsimp only at H
 have A3 := Aside0.mk A30
 clear A30
 obtain ⟨c4,H⟩ := ifp H
 have c4b0 : decide (0 ≤ t123) = true := decide_eq_true c4
 clear c4
 obtain ⟨c5,H⟩ := ifp H
 have c5b0 : decide (t123 < (l1.length : Int)) = true := decide_eq_true c5
 clear c5
 simp only [Option.some.injEq,Prod.mk.injEq] at H
 obtain ⟨rfl,rfl,rfl⟩ := H
 go_enter Try.func36,Try.ntmps36
 go_wp2_with (first | ((with_reducible refine gate_callee (f := 10) rfl ?_);refine goesL_ (some 9) rfl rfl Try.func10 Z310 rfl #[.pointer (some ⟨g,0,none⟩),.int .i64 (l1.length : Int)] rfl Z249 ?_;(with_reducible refine (spec_l1Below.calls g s0_0 s0_1 s0_2 (l1.length : Int) t123 t124 t125 w0 _ ?side1 ?side2 A3.out).mono ?_);(case side1 => exact Z399);(case side2 => exact Z398);rintro e wq1 ⟨rfl,hi,hb,hk⟩;refine ⟨_,rfl,?_⟩;have n_ := Z189;clear HK HB HI0;obtain ⟨HK,HB,HI0⟩ := n_;(try clear hb);(try clear hb2);(try clear hk);(try clear hi);have pq2 : 0 ≤ (t123 : Int) := of_decide_eq_true Z293;have qq2 : t123 < (l1.length : Int) := of_decide_eq_true Z293;obtain ⟨adq2,eq2,hxq2_0⟩ := Kd.at_int HR1.out t123 pq2 qq2;cases eq2;replace hxq2_0 := keep_cell HK.out hxq2_0 (by first | (rw [add_block];exact hf1 _ rfl Z523) | exact hf1 _ rfl Z523 | exact hf1 adq2 rfl Z523);replace pq2 := eq_true pq2;replace qq2 := eq_true qq2))
 go_ret
 exact ⟨Z265,Z399,Z398,Z573⟩

/-! ### spec_l1Whole: function 33 -/
def spec_l1Whole.l0 : Nat → Int → Int → List Int → Int → Int → Option (Int × Int × Int)
 | 0,_,_,_,_,_ => none
 | k + 1,x3,x4,x1000,x1001,x1002 => if x4 < 8 then ((spec_l1Byte.f x1000 x1001 x1002).bind fun bt136 => (spec_l1Whole.l0 k (wrap64 ((wrap64 (x3 * 256)) + bt136.1)) (wrap64 (x4 + 1)) x1000 bt136.2.1 bt136.2.2)) else (some (x3,x1001,x1002))
def spec_l1Whole.f (k : Nat) (s0_0 : List Int) (s0_1 : Int) (s0_2 : Int) : Option (Int × Int × Int) := (spec_l1Below.f s0_0 s0_1 s0_2 4).bind fun bt127 => (if bt127.1 = 0 then ((spec_l1PickInt.f s0_0 bt127.2.1 bt127.2.2 (([0,1,(-1),9,10,999,1000,2147483647,(-2147483648),3037000499,3037000500,9223372036854775807,(-9223372036854775807),(-9223372036854775808)] : List Int))).bind fun bt133 => (some (bt133.1,bt133.2.1,bt133.2.2))) else (if bt127.1 = 1 then (spec_l1Whole.l0 k 0 0 s0_0 bt127.2.1 bt127.2.2) else (if bt127.1 = 2 then ((spec_l1Below.f s0_0 bt127.2.1 bt127.2.2 1000000).bind fun bt139 => (some (wrap64 (bt139.1 - 500000),bt139.2.1,bt139.2.2))) else ((spec_l1Below.f s0_0 bt127.2.1 bt127.2.2 41).bind fun bt142 => (some (wrap64 (bt142.1 - 20),bt142.2.1,bt142.2.2))))))
theorem spec_l1Whole.mono_l : ∀ k,(∀ y0 y1 y2 y3 y4,LeO (spec_l1Whole.l0 k y0 y1 y2 y3 y4) (spec_l1Whole.l0 (k + 1) y0 y1 y2 y3 y4))
 | 0 => fun _ _ _ _ _ r h => by simp [spec_l1Whole.l0] at h
 | k + 1 => by
  have ih0 := spec_l1Whole.mono_l k
  ·intro y0 y1 y2 y3 y4
   unfold spec_l1Whole.l0
   repeat' first
   | (with_reducible exact ih0 _ _ _ _ _)
   | (with_reducible exact LeO.refl _)
   | (with_reducible exact LeO.none _)
   | (with_reducible refine LeO.ite ?_ ?_)
   | (with_reducible refine LeO.bind ?_ (fun _ => ?_))
   | exact ih0 _ _ _ _ _
   | exact LeO.none _
   | refine LeO.ite ?_ ?_
   | refine LeO.bind ?_ (fun _ => ?_)
theorem spec_l1Whole.mono : ∀ a0 a1 a2 k,LeO (spec_l1Whole.f k a0 a1 a2) (spec_l1Whole.f (k + 1) a0 a1 a2) := by
 intro a0 a1 a2 k
 have ih0 := spec_l1Whole.mono_l k
 unfold spec_l1Whole.f
 repeat' first
   | (with_reducible exact ih0 _ _ _ _ _)
   | (with_reducible exact LeO.refl _)
   | (with_reducible exact LeO.none _)
   | (with_reducible refine LeO.ite ?_ ?_)
   | (with_reducible refine LeO.bind ?_ (fun _ => ?_))
   | exact ih0 _ _ _ _ _
   | exact LeO.none _
   | refine LeO.ite ?_ ?_
   | refine LeO.bind ?_ (fun _ => ?_)
set_option maxHeartbeats 8000000 in
set_option maxRecDepth 100000 in
theorem spec_l1Whole.calls (k : Nat) (g : Nat) (s0_0 : List Int) (s0_1 : Int) (s0_2 : Int) (r1 : Int) (r2 : Int) (r3 : Int) (w0 w : World) (hI : IsS48 w0 w g s0_0 s0_1 s0_2) (hB : Below w0.heap.size w0 w) (h : spec_l1Whole.f k s0_0 s0_1 s0_2 = some (r1,r2,r3)) :
  Calls Try.prog 33 #[.pointer (some ⟨g,0,none⟩)] w fun e w' => e = .returned (.int .i64 r1) ∧ IsS48 w0 w' g s0_0 r2 r3 ∧ Below w0.heap.size w0 w' ∧ KeepBut w w' g none := by
 have HI0 := Aside0.mk hI
 have HK := Aside0.mk (KeepBut.refl w g none)
 have HL := Aside0.mk hB.size
 clear hI
 have HW0 := Aside0.mk hB.size
 have HB := Aside0.mk hB
 clear hB
 have H := h
 clear h
 unfold spec_l1Whole.f at H
 obtain ⟨⟨t127,t128,t129⟩,A20,H⟩ := Option.bind_eq_some_iff.mp H
 try dsimp only at H
 have A2 := Aside0.mk A20
 clear A20
 by_cases c3 : t127 = 0
 ·rw [if_pos c3] at H
  have c3b0 : (t127 == 0) = true := beq_iff_eq.mpr c3
  have c3b1 : (t127 != 0) = false := bne_eq_false_iff_eq.mpr c3
  clear c3
  obtain ⟨y130,hy130⟩ : ∃ y_ : List Int,y_ = (([0,1,(-1),9,10,999,1000,2147483647,(-2147483648),3037000499,3037000500,9223372036854775807,(-9223372036854775807),(-9223372036854775808)] : List Int)) := ⟨_,rfl⟩
  replace H : ((spec_l1PickInt.f s0_0 t128 t129 y130).bind fun bt133 => (some (bt133.1,bt133.2.1,bt133.2.2))) = some (r1,r2,r3) := by first | (rw [hy130];with_reducible exact H) | (have H2_ := (Option.bind_some _ _).symm.trans H;rw [hy130];with_reducible exact H2_) | (have H2_ := (Option.bind_some _ _).symm.trans H;with_reducible exact H2_) | with_reducible exact H | (rw [hy130];exact H) | exact H
  have Ny130 := Aside0.mk hy130
  clear hy130
  obtain ⟨⟨t133,t134,t135⟩,A40,H⟩ := Option.bind_eq_some_iff.mp H
  try dsimp only at H
  have A4 := Aside0.mk A40
  clear A40
  simp only [Option.some.injEq,Prod.mk.injEq] at H
  obtain ⟨rfl,rfl,rfl⟩ := H
  go_enter Try.func33,Try.ntmps33
  go_wp2_with (first | ((with_reducible refine gate_callee (f := 10) rfl ?_);refine goesL_ (some 6) rfl rfl Try.func10 Z310 rfl #[.pointer (some ⟨g,0,none⟩),.int .i64 4] rfl Z249 ?_;(with_reducible refine (spec_l1Below.calls g s0_0 s0_1 s0_2 4 t127 t128 t129 w0 _ ?side1 ?side2 A2.out).mono ?_);(case side1 => exact Z399);(case side2 => exact Z398);rintro e wq1 ⟨rfl,hi,hb,hk⟩;refine ⟨_,rfl,?_⟩;have n_ := Z189;clear HK HB HI0;obtain ⟨HK,HB,HI0⟩ := n_;(try clear hb);(try clear hb2);(try clear hk);(try clear hi)) | ((with_reducible refine gate_dst (N := 10) rfl ?_);refine Kd.R_lit (Kd.int .i64) _ 3 ?hg (N := 10) ?hd (xs := ([0,1,(-1),9,10,999,1000,2147483647,(-2147483648),3037000499,3037000500,9223372036854775807,(-9223372036854775807),(-9223372036854775808)] : List Int)) (inner := [.int .i64 0,.int .i64 1,.int .i64 (-1),.int .i64 9,.int .i64 10,.int .i64 999,.int .i64 1000,.int .i64 2147483647,.int .i64 (-2147483648),.int .i64 3037000499,.int .i64 3037000500,.int .i64 9223372036854775807,.int .i64 (-9223372036854775807),.int .i64 (-9223372036854775808)]) (ok := fun _ => True) (okp := fun _ => True) ?hr ?hp (fun _ hk => hk) trivial (Below.refl _ _) (Nat.le_refl _) Z524 ?_;(case hd => rfl);(case hg => rfl);(case hr => exact Z295);(case hp => exact (Reps.one (show Kd.M (Kd.int .i64) _ _ _ 0 [.int .i64 0] from rfl) (Reps.one (show Kd.M (Kd.int .i64) _ _ _ 1 [.int .i64 1] from rfl) (Reps.one (show Kd.M (Kd.int .i64) _ _ _ (-1) [.int .i64 (-1)] from rfl) (Reps.one (show Kd.M (Kd.int .i64) _ _ _ 9 [.int .i64 9] from rfl) (Reps.one (show Kd.M (Kd.int .i64) _ _ _ 10 [.int .i64 10] from rfl) (Reps.one (show Kd.M (Kd.int .i64) _ _ _ 999 [.int .i64 999] from rfl) (Reps.one (show Kd.M (Kd.int .i64) _ _ _ 1000 [.int .i64 1000] from rfl) (Reps.one (show Kd.M (Kd.int .i64) _ _ _ 2147483647 [.int .i64 2147483647] from rfl) (Reps.one (show Kd.M (Kd.int .i64) _ _ _ (-2147483648) [.int .i64 (-2147483648)] from rfl) (Reps.one (show Kd.M (Kd.int .i64) _ _ _ 3037000499 [.int .i64 3037000499] from rfl) (Reps.one (show Kd.M (Kd.int .i64) _ _ _ 3037000500 [.int .i64 3037000500] from rfl) (Reps.one (show Kd.M (Kd.int .i64) _ _ _ 9223372036854775807 [.int .i64 9223372036854775807] from rfl) (Reps.one (show Kd.M (Kd.int .i64) _ _ _ (-9223372036854775807) [.int .i64 (-9223372036854775807)] from rfl) (Reps.one (show Kd.M (Kd.int .i64) _ _ _ (-9223372036854775808) [.int .i64 (-9223372036854775808)] from rfl) (Reps.none _ _))))))))))))))));intro vq2 wq3 hoq4 hb hg_ hnew_;clear hg_ hnew_;(first | rw [← Ny130.out] at hoq4 | (simp only [Int.reduceToNat] at hoq4;rw [← Ny130.out] at hoq4));have n_ := jA (Kd.R_lower hoq4 (keep_size (w := w) (g := g) (row := none) Z573)) (jA (IsS48.below Z399 hb) (jA (KeepBut.trans Z573 (KeepBut.of_below hb g none) (.inl rfl)) (Aside0.mk (below_step Z398 hb))));clear HI0 HK HB;obtain ⟨HO132,HI0,HK,HB⟩ := n_;clear hb hoq4;obtain ⟨Aoq5,coq5,eoq5⟩ := Kd.R_slice HO132.out;subst eoq5) | ((with_reducible refine gate_callee (f := 36) rfl ?_);refine goesL_ (some 11) rfl rfl Try.func36 Z310 rfl #[.pointer (some ⟨g,0,none⟩),.slice Aoq5 y130.length coq5] rfl Z249 ?_;(with_reducible refine (spec_l1PickInt.calls g s0_0 t128 t129 _ _ y130 t133 t134 t135 w0 _ ?side1 ?side2 ?side3 ?side4 ?side5 A4.out).mono ?_);(case side1 => exact Z399);(case side2 => exact Z398);(case side3 => repeat (first | exact (Kd.R_reads' HO132.out).2.2 | (with_reducible refine Kd.C_alloc ?_ _) | (with_reducible refine Kd.C_drewN ?_ _) | (with_reducible refine Kd.C_drew ?_)));(case side4 => exact (Kd.R_reads' HO132.out).2.1);(case side5 => exact far_slice (IsS48.own_ne HI0.out HO132.out Z522));rintro e wq6 ⟨rfl,hi,hb,hk⟩;refine ⟨_,rfl,?_⟩;have n_ := jA (Kd.R_mono (Kd.R_keep (IsS48.apart (show IsS48 w0 _ g s0_0 t128 t129 from Z399) (by (with_reducible repeat (first | apply Kd.R_alloc | apply Kd.R_drewN | apply Kd.R_drew));exact HO132.out) Z522) hk (fun _ h => h.2)) (fun _ h => h.1)) (jA (KeepBut.trans Z573 hk (.inl rfl)) (jA (hb) (Aside0.mk (hi))));clear HO132 HK HB HI0;obtain ⟨HO132,HK,HB,HI0⟩ := n_;(try clear hb);(try clear hb2);(try clear hk);(try clear hi)))
  go_ret
  exact ⟨Z265,Z399,Z398,Z573⟩
 rw [if_neg c3] at H
 have c3b0 : (t127 == 0) = false := beq_eq_false_iff_ne.mpr c3
 have c3b1 : (t127 != 0) = true := bne_iff_ne.mpr c3
 by_cases c10 : t127 = 1
 ·rw [if_pos c10] at H
  have c10b0 : (t127 == 1) = true := beq_iff_eq.mpr c10
  have c10b1 : (t127 != 1) = false := bne_eq_false_iff_eq.mpr c10
  clear c10
  have H' := Aside0.mk H
  clear H
  go_enter Try.func33,Try.ntmps33
  go_wp2_with (first | ((with_reducible refine gate_callee (f := 10) rfl ?_);refine goesL_ (some 6) rfl rfl Try.func10 Z310 rfl #[.pointer (some ⟨g,0,none⟩),.int .i64 4] rfl Z249 ?_;(with_reducible refine (spec_l1Below.calls g s0_0 s0_1 s0_2 4 t127 t128 t129 w0 _ ?side1 ?side2 A2.out).mono ?_);(case side1 => exact Z399);(case side2 => exact Z398);rintro e w11 ⟨rfl,hi,hb,hk⟩;refine ⟨_,rfl,?_⟩;have n_ := Z189;clear HK HB HI0;obtain ⟨HK,HB,HI0⟩ := n_;(try clear hb);(try clear hb2);(try clear hk);(try clear hi)))
  go_loopg [3,4] k (fun kq v3 v4 w' => ∃ (x3_1 : Int) (x4_1 : Int) (x1001_1 : Int) (x1002_1 : Int),v3 = .int .i64 x3_1 ∧ v4 = .int .i64 x4_1 ∧ Aside0 (spec_l1Whole.l0 kq x3_1 x4_1 s0_0 x1001_1 x1002_1 = some (r1,r2,r3)) ∧ Aside0 (kq ≤ k) ∧ Aside0 (IsS48 w0 w' g s0_0 x1001_1 x1002_1) ∧ Aside0 (KeepBut w w' g none) ∧ Aside0 (Below w0.heap.size w0 w'))
  case atStart => exact ⟨(0),(0),(t128),(t129),Z294,Z294,H',⟨Nat.le_refl _⟩,⟨Z399⟩,⟨Z573⟩,⟨Z398⟩⟩
  case round =>
   clear H'
   try clear c1
   try clear p2
   try clear c3
   try clear c3b0
   try clear c3b1
   try clear p6
   try clear c10
   try clear c10b0
   try clear c10b1
   obtain ⟨x3_1,x4_1,x1001_1,x1002_1,rfl,rfl,HA,HK1,HI0,HK,HB⟩ := hrel
   cases gk with
   | zero => exact absurd HA.out (by simp [spec_l1Whole.l0])
   | succ k1 =>
    have H := HA.out
    clear HA
    simp only [spec_l1Whole.l0] at H
    by_cases c12 : x4_1 < 8
    rotate_left
    ·rw [if_neg c12] at H
     have c12b0 : decide (x4_1 < 8) = false := decide_eq_false c12
     clear c12
     simp only [Option.some.injEq,Prod.mk.injEq] at H
     obtain ⟨rfl,rfl,rfl⟩ := H
     go_wp2
     go_ret
     exact ⟨Z265,Z399,Z398,Z573⟩
    rw [if_pos c12] at H
    have c12b0 : decide (x4_1 < 8) = true := decide_eq_true c12
    clear c12
    obtain ⟨⟨t136,t137,t138⟩,A130,H⟩ := Option.bind_eq_some_iff.mp H
    try dsimp only at H
    have A13 := Aside0.mk A130
    clear A130
    have H' := Aside0.mk H
    clear H
    go_wp2_with (first | ((with_reducible refine gate_callee (f := 21) rfl ?_);refine goesL_ (some 21) rfl rfl Try.func21 Z310 rfl #[.pointer (some ⟨g,0,none⟩)] rfl Z249 ?_;(with_reducible refine (spec_l1Byte.calls g s0_0 x1001_1 x1002_1 t136 t137 t138 w0 _ ?side1 ?side2 A13.out).mono ?_);(case side1 => exact Z399);(case side2 => exact Z398);rintro e w14 ⟨rfl,hi,hb,hk⟩;refine ⟨_,rfl,?_⟩;have n_ := Z189;clear HK HB HI0;obtain ⟨HK,HB,HI0⟩ := n_;(try clear hb);(try clear hb2);(try clear hk);(try clear hi)))
    go_roundg k1
    case measure => have := HK1.out;omega
    case rel => exact ⟨(wrap64 ((wrap64 (x3_1 * 256)) + t136)),(wrap64 (x4_1 + 1)),(t137),(t138),Z294,Z294,H',⟨Z309⟩,⟨Z399⟩,⟨Z573⟩,⟨Z398⟩⟩
 rw [if_neg c10] at H
 have c10b0 : (t127 == 1) = false := beq_eq_false_iff_ne.mpr c10
 have c10b1 : (t127 != 1) = true := bne_iff_ne.mpr c10
 by_cases c15 : t127 = 2
 rotate_left
 ·rw [if_neg c15] at H
  have c15b0 : (t127 == 2) = false := beq_eq_false_iff_ne.mpr c15
  have c15b1 : (t127 != 2) = true := bne_iff_ne.mpr c15
  obtain ⟨⟨t142,t143,t144⟩,A190,H⟩ := Option.bind_eq_some_iff.mp H
  try dsimp only at H
  have A19 := Aside0.mk A190
  clear A190
  simp only [Option.some.injEq,Prod.mk.injEq] at H
  obtain ⟨rfl,rfl,rfl⟩ := H
  go_enter Try.func33,Try.ntmps33
  go_wp2_with (first | ((with_reducible refine gate_callee (f := 10) rfl ?_);refine goesL_ (some 6) rfl rfl Try.func10 Z310 rfl #[.pointer (some ⟨g,0,none⟩),.int .i64 4] rfl Z249 ?_;(with_reducible refine (spec_l1Below.calls g s0_0 s0_1 s0_2 4 t127 t128 t129 w0 _ ?side1 ?side2 A2.out).mono ?_);(case side1 => exact Z399);(case side2 => exact Z398);rintro e wq1 ⟨rfl,hi,hb,hk⟩;refine ⟨_,rfl,?_⟩;have n_ := Z189;clear HK HB HI0;obtain ⟨HK,HB,HI0⟩ := n_;(try clear hb);(try clear hb2);(try clear hk);(try clear hi)) | ((with_reducible refine gate_callee (f := 10) rfl ?_);refine goesL_ (some 30) rfl rfl Try.func10 Z310 rfl #[.pointer (some ⟨g,0,none⟩),.int .i64 41] rfl Z249 ?_;(with_reducible refine (spec_l1Below.calls g s0_0 t128 t129 41 t142 t143 t144 w0 _ ?side1 ?side2 A19.out).mono ?_);(case side1 => exact Z399);(case side2 => exact Z398);rintro e wq2 ⟨rfl,hi,hb,hk⟩;refine ⟨_,rfl,?_⟩;have n_ := Z189;clear HK HB HI0;obtain ⟨HK,HB,HI0⟩ := n_;(try clear hb);(try clear hb2);(try clear hk);(try clear hi)))
  go_ret
  exact ⟨Z265,Z399,Z398,Z573⟩
 rw [if_pos c15] at H
 have c15b0 : (t127 == 2) = true := beq_iff_eq.mpr c15
 have c15b1 : (t127 != 2) = false := bne_eq_false_iff_eq.mpr c15
 clear c15
 obtain ⟨⟨t139,t140,t141⟩,A160,H⟩ := Option.bind_eq_some_iff.mp H
 try dsimp only at H
 have A16 := Aside0.mk A160
 clear A160
 simp only [Option.some.injEq,Prod.mk.injEq] at H
 obtain ⟨rfl,rfl,rfl⟩ := H
 go_enter Try.func33,Try.ntmps33
 go_wp2_with (first | ((with_reducible refine gate_callee (f := 10) rfl ?_);refine goesL_ (some 6) rfl rfl Try.func10 Z310 rfl #[.pointer (some ⟨g,0,none⟩),.int .i64 4] rfl Z249 ?_;(with_reducible refine (spec_l1Below.calls g s0_0 s0_1 s0_2 4 t127 t128 t129 w0 _ ?side1 ?side2 A2.out).mono ?_);(case side1 => exact Z399);(case side2 => exact Z398);rintro e wq1 ⟨rfl,hi,hb,hk⟩;refine ⟨_,rfl,?_⟩;have n_ := Z189;clear HK HB HI0;obtain ⟨HK,HB,HI0⟩ := n_;(try clear hb);(try clear hb2);(try clear hk);(try clear hi)) | ((with_reducible refine gate_callee (f := 10) rfl ?_);refine goesL_ (some 27) rfl rfl Try.func10 Z310 rfl #[.pointer (some ⟨g,0,none⟩),.int .i64 1000000] rfl Z249 ?_;(with_reducible refine (spec_l1Below.calls g s0_0 t128 t129 1000000 t139 t140 t141 w0 _ ?side1 ?side2 A16.out).mono ?_);(case side1 => exact Z399);(case side2 => exact Z398);rintro e wq2 ⟨rfl,hi,hb,hk⟩;refine ⟨_,rfl,?_⟩;have n_ := Z189;clear HK HB HI0;obtain ⟨HK,HB,HI0⟩ := n_;(try clear hb);(try clear hb2);(try clear hk);(try clear hi)))
 go_ret
 exact ⟨Z265,Z399,Z398,Z573⟩

/-! ### spec_l14Slot: function 22 -/
def spec_l14Slot.f (k : Nat) (s0_0 : List Int) (s0_1 : Int) (s0_2 : Int) : Option (Int × Int × Int × Int) := (spec_l1Once.f s0_0 s0_1 s0_2 10).bind fun bt146 => (if bt146.1 = true then ((spec_l1PickInt.f s0_0 bt146.2.1 bt146.2.2 (([0,40,41,(-1),9223372036854775807] : List Int))).bind fun bt152 => ((spec_l1Whole.f k s0_0 bt152.2.1 bt152.2.2).bind fun bt155 => (some (bt152.1,bt155.1,bt155.2.1,bt155.2.2)))) else ((spec_l1Below.f s0_0 bt146.2.1 bt146.2.2 12).bind fun bt158 => ((spec_l1Below.f s0_0 bt158.2.1 bt158.2.2 8001).bind fun bt161 => (some (bt158.1,wrap64 (bt161.1 - 4000),bt161.2.1,bt161.2.2)))))
theorem spec_l14Slot.mono : ∀ a0 a1 a2 k,LeO (spec_l14Slot.f k a0 a1 a2) (spec_l14Slot.f (k + 1) a0 a1 a2) := by
 intro a0 a1 a2 k
 unfold spec_l14Slot.f
 repeat' first
   | (with_reducible exact spec_l1Whole.mono _ _ _ _)
   | (with_reducible exact LeO.refl _)
   | (with_reducible exact LeO.none _)
   | (with_reducible refine LeO.ite ?_ ?_)
   | (with_reducible refine LeO.bind ?_ (fun _ => ?_))
   | exact spec_l1Whole.mono _ _ _ _
   | exact LeO.none _
   | refine LeO.ite ?_ ?_
   | refine LeO.bind ?_ (fun _ => ?_)
set_option maxHeartbeats 8000000 in
set_option maxRecDepth 100000 in
theorem spec_l14Slot.calls (k : Nat) (g : Nat) (s0_0 : List Int) (s0_1 : Int) (s0_2 : Int) (r1 : Int) (r2 : Int) (r3 : Int) (r4 : Int) (w0 w : World) (hI : IsS48 w0 w g s0_0 s0_1 s0_2) (hB : Below w0.heap.size w0 w) (h : spec_l14Slot.f k s0_0 s0_1 s0_2 = some (r1,r2,r3,r4)) :
  Calls Try.prog 22 #[.pointer (some ⟨g,0,none⟩)] w fun e w' => e = .returned (.agg #[.int .i64 r1,.int .i64 r2]) ∧ IsS48 w0 w' g s0_0 r3 r4 ∧ Below w0.heap.size w0 w' ∧ KeepBut w w' g none := by
 have hu25 := Try.underlying25
 have HI0 := Aside0.mk hI
 have HK := Aside0.mk (KeepBut.refl w g none)
 have HL := Aside0.mk hB.size
 clear hI
 have HW0 := Aside0.mk hB.size
 have HB := Aside0.mk hB
 clear hB
 have H := h
 clear h
 unfold spec_l14Slot.f at H
 obtain ⟨⟨t146,t147,t148⟩,A20,H⟩ := Option.bind_eq_some_iff.mp H
 try dsimp only at H
 have A2 := Aside0.mk A20
 clear A20
 by_cases c3 : t146 = true
 rotate_left
 ·replace c3 := Bool.eq_false_iff.mpr c3
  subst c3
  rw [if_neg Bool.false_ne_true] at H
  obtain ⟨⟨t158,t159,t160⟩,A150,H⟩ := Option.bind_eq_some_iff.mp H
  try dsimp only at H
  have A15 := Aside0.mk A150
  clear A150
  obtain ⟨⟨t161,t162,t163⟩,A160,H⟩ := Option.bind_eq_some_iff.mp H
  try dsimp only at H
  have A16 := Aside0.mk A160
  clear A160
  simp only [Option.some.injEq,Prod.mk.injEq] at H
  obtain ⟨rfl,rfl,rfl,rfl⟩ := H
  go_enter Try.func22,Try.ntmps22
  go_wp2_with (first | ((with_reducible refine gate_dst (N := 2) rfl ?_);refine bE 2 #[.int .i64 0,.int .i64 0] 25 (h := ?_);intro gb145 hg wq1 hbox hb;have n_ := Z43;clear HI0 HK HB;obtain ⟨HI0,HK,HB,BK145,GW145,GE145,NB0_145,NB145_0⟩ := n_;clear hb hbox hg) | ((with_reducible refine gate_callee (f := 19) rfl ?_);refine goesL_ (some 4) rfl rfl Try.func19 Z310 rfl #[.pointer (some ⟨g,0,none⟩),.int .i64 10] rfl Z249 ?_;(with_reducible refine (spec_l1Once.calls g s0_0 s0_1 s0_2 10 false t147 t148 w0 _ ?side1 ?side2 A2.out).mono ?_);(case side1 => exact Z194);(case side2 => exact Z195);rintro e wq2 ⟨rfl,hi,hb,hk⟩;refine ⟨_,rfl,?_⟩;have n_ := Z140;clear BK145 HK HB HI0;obtain ⟨BK145,HK,HB,HI0⟩ := n_;(try clear hb);(try clear hb2);(try clear hk);(try clear hi)) | ((with_reducible refine gate_callee (f := 10) rfl ?_);refine goesL_ (some 12) rfl rfl Try.func10 Z310 rfl #[.pointer (some ⟨g,0,none⟩),.int .i64 12] rfl Z249 ?_;(with_reducible refine (spec_l1Below.calls g s0_0 t147 t148 12 t158 t159 t160 w0 _ ?side1 ?side2 A15.out).mono ?_);(case side1 => exact Z194);(case side2 => exact Z195);rintro e wq3 ⟨rfl,hi,hb,hk⟩;refine ⟨_,rfl,?_⟩;have n_ := Z140;clear BK145 HK HB HI0;obtain ⟨BK145,HK,HB,HI0⟩ := n_;(try clear hb);(try clear hb2);(try clear hk);(try clear hi)) | ((with_reducible refine gate_callee (f := 10) rfl ?_);refine goesL_ (some 14) rfl rfl Try.func10 Z310 rfl #[.pointer (some ⟨g,0,none⟩),.int .i64 8001] rfl Z249 ?_;(with_reducible refine (spec_l1Below.calls g s0_0 t159 t160 8001 t161 t162 t163 w0 _ ?side1 ?side2 A16.out).mono ?_);(case side1 => exact Z194);(case side2 => exact Z195);rintro e wq4 ⟨rfl,hi,hb,hk⟩;refine ⟨_,rfl,?_⟩;have n_ := Z140;clear BK145 HK HB HI0;obtain ⟨BK145,HK,HB,HI0⟩ := n_;(try clear hb);(try clear hb2);(try clear hk);(try clear hi);have hnbq5 := NB145_0.out;have hncq5 := NB0_145.out;obtain ⟨hczq6_0,hczq6_1,hfzq6_0,hfzq6_1⟩ := cells2 BK145.out))
  refine bodyPost_ret (results_cell_row rfl _ _ gb145 25 #[.int .i64 t158,.int .i64 (wrap64 (t161 - 4000))] (0,0) _ rfl (by refine bP ?_;refine blk_put (cs := #[.int .i64 t158,.int .i64 0]) ?_ 1 _ rfl;refine bP ?_;refine blk_put (cs := #[.int .i64 0,.int .i64 0]) ?_ 0 _ rfl;refine bP ?_;exact BK145.out) Try.underlying25 rfl Z310) rfl ?_
  exact ⟨Z265,Z194,Z195,Z397⟩
 subst c3
 rw [if_pos rfl] at H
 obtain ⟨y149,hy149⟩ : ∃ y_ : List Int,y_ = (([0,40,41,(-1),9223372036854775807] : List Int)) := ⟨_,rfl⟩
 replace H : ((spec_l1PickInt.f s0_0 t147 t148 y149).bind fun bt152 => ((spec_l1Whole.f k s0_0 bt152.2.1 bt152.2.2).bind fun bt155 => (some (bt152.1,bt155.1,bt155.2.1,bt155.2.2)))) = some (r1,r2,r3,r4) := by first | (rw [hy149];with_reducible exact H) | (have H2_ := (Option.bind_some _ _).symm.trans H;rw [hy149];with_reducible exact H2_) | (have H2_ := (Option.bind_some _ _).symm.trans H;with_reducible exact H2_) | with_reducible exact H | (rw [hy149];exact H) | exact H
 have Ny149 := Aside0.mk hy149
 clear hy149
 obtain ⟨⟨t152,t153,t154⟩,A40,H⟩ := Option.bind_eq_some_iff.mp H
 try dsimp only at H
 have A4 := Aside0.mk A40
 clear A40
 obtain ⟨⟨t155,t156,t157⟩,A50,H⟩ := Option.bind_eq_some_iff.mp H
 try dsimp only at H
 have A5 := Aside0.mk A50
 clear A50
 simp only [Option.some.injEq,Prod.mk.injEq] at H
 obtain ⟨rfl,rfl,rfl,rfl⟩ := H
 go_enter Try.func22,Try.ntmps22
 go_wp2_with (first | ((with_reducible refine gate_dst (N := 2) rfl ?_);refine bE 2 #[.int .i64 0,.int .i64 0] 25 (h := ?_);intro gb145 hg wq1 hbox hb;have n_ := Z43;clear HI0 HK HB;obtain ⟨HI0,HK,HB,BK145,GW145,GE145,NB0_145,NB145_0⟩ := n_;clear hb hbox hg) | ((with_reducible refine gate_callee (f := 19) rfl ?_);refine goesL_ (some 4) rfl rfl Try.func19 Z310 rfl #[.pointer (some ⟨g,0,none⟩),.int .i64 10] rfl Z249 ?_;(with_reducible refine (spec_l1Once.calls g s0_0 s0_1 s0_2 10 true t147 t148 w0 _ ?side1 ?side2 A2.out).mono ?_);(case side1 => exact Z194);(case side2 => exact Z195);rintro e wq2 ⟨rfl,hi,hb,hk⟩;refine ⟨_,rfl,?_⟩;have n_ := Z140;clear BK145 HK HB HI0;obtain ⟨BK145,HK,HB,HI0⟩ := n_;(try clear hb);(try clear hb2);(try clear hk);(try clear hi)) | ((with_reducible refine gate_dst (N := 6) rfl ?_);refine Kd.R_lit (Kd.int .i64) _ 3 ?hg (N := 6) ?hd (xs := ([0,40,41,(-1),9223372036854775807] : List Int)) (inner := [.int .i64 0,.int .i64 40,.int .i64 41,.int .i64 (-1),.int .i64 9223372036854775807]) (ok := fun _ => True) (okp := fun _ => True) ?hr ?hp (fun _ hk => hk) trivial (Below.refl _ _) (Nat.le_refl _) Z524 ?_;(case hd => rfl);(case hg => rfl);(case hr => exact Z295);(case hp => exact (Reps.one (show Kd.M (Kd.int .i64) _ _ _ 0 [.int .i64 0] from rfl) (Reps.one (show Kd.M (Kd.int .i64) _ _ _ 40 [.int .i64 40] from rfl) (Reps.one (show Kd.M (Kd.int .i64) _ _ _ 41 [.int .i64 41] from rfl) (Reps.one (show Kd.M (Kd.int .i64) _ _ _ (-1) [.int .i64 (-1)] from rfl) (Reps.one (show Kd.M (Kd.int .i64) _ _ _ 9223372036854775807 [.int .i64 9223372036854775807] from rfl) (Reps.none _ _)))))));intro vq3 wq4 hoq5 hb hg_ hnew_;clear hg_ hnew_;(first | rw [← Ny149.out] at hoq5 | (simp only [Int.reduceToNat] at hoq5;rw [← Ny149.out] at hoq5));have n_ := jA (Kd.R_lower hoq5 (keep_size (w := w) (g := g) (row := none) Z397)) (jA (IsS48.below Z194 hb) (jA (blk_below (g := gb145) (o := .cells #[.int .i64 0,.int .i64 0] 25 (0,0)) Z509 hb) (jA (KeepBut.trans Z397 (KeepBut.of_below hb g none) (.inl rfl)) (Aside0.mk (below_step Z195 hb)))));clear HI0 BK145 HK HB;obtain ⟨HO151,HI0,BK145,HK,HB⟩ := n_;clear hb hoq5;obtain ⟨Aoq6,coq6,eoq6⟩ := Kd.R_slice HO151.out;subst eoq6) | ((with_reducible refine gate_callee (f := 36) rfl ?_);refine goesL_ (some 7) rfl rfl Try.func36 Z310 rfl #[.pointer (some ⟨g,0,none⟩),.slice Aoq6 y149.length coq6] rfl Z249 ?_;(with_reducible refine (spec_l1PickInt.calls g s0_0 t147 t148 _ _ y149 t152 t153 t154 w0 _ ?side1 ?side2 ?side3 ?side4 ?side5 A4.out).mono ?_);(case side1 => exact Z194);(case side2 => exact Z195);(case side3 => repeat (first | exact (Kd.R_reads' HO151.out).2.2 | (with_reducible refine Kd.C_alloc ?_ _) | (with_reducible refine Kd.C_drewN ?_ _) | (with_reducible refine Kd.C_drew ?_)));(case side4 => exact (Kd.R_reads' HO151.out).2.1);(case side5 => exact far_slice (IsS48.own_ne HI0.out HO151.out Z522));rintro e wq7 ⟨rfl,hi,hb,hk⟩;refine ⟨_,rfl,?_⟩;have n_ := jA (KeepBut.blk hk (g' := gb145) (o := .cells #[.int .i64 0,.int .i64 0] 25 (0,0)) Z509 NB145_0.out Z524) (jA (Kd.R_mono (Kd.R_keep (IsS48.apart (show IsS48 w0 _ g s0_0 t147 t148 from Z194) Z261 Z522) hk (fun _ h => h.2)) (fun _ h => h.1)) (jA (KeepBut.trans Z397 hk (.inl rfl)) (jA (hb) (Aside0.mk (hi)))));clear BK145 HO151 HK HB HI0;obtain ⟨BK145,HO151,HK,HB,HI0⟩ := n_;(try clear hb);(try clear hb2);(try clear hk);(try clear hi)) | ((with_reducible refine gate_callee (f := 33) rfl ?_);refine goesL_ (some 9) rfl rfl Try.func33 Z310 rfl #[.pointer (some ⟨g,0,none⟩)] rfl Z249 ?_;(with_reducible refine (spec_l1Whole.calls k g s0_0 t153 t154 t155 t156 t157 w0 _ ?side1 ?side2 A5.out).mono ?_);(case side1 => exact Z194);(case side2 => exact Z195);rintro e wq8 ⟨rfl,hi,hb,hk⟩;refine ⟨_,rfl,?_⟩;have n_ := jA (KeepBut.blk hk (g' := gb145) (o := .cells #[.int .i64 0,.int .i64 0] 25 (0,0)) Z509 NB145_0.out Z524) (jA (Kd.R_mono (Kd.R_keep (IsS48.apart (show IsS48 w0 _ g s0_0 t153 t154 from Z194) Z261 Z522) hk (fun _ h => h.2)) (fun _ h => h.1)) (jA (KeepBut.trans Z397 hk (.inl rfl)) (jA (hb) (Aside0.mk (hi)))));clear BK145 HO151 HK HB HI0;obtain ⟨BK145,HO151,HK,HB,HI0⟩ := n_;(try clear hb);(try clear hb2);(try clear hk);(try clear hi);have hnbq9 := NB145_0.out;have hncq9 := NB0_145.out;obtain ⟨hczq10_0,hczq10_1,hfzq10_0,hfzq10_1⟩ := cells2 BK145.out))
 refine bodyPost_ret (results_cell_row rfl _ _ gb145 25 #[.int .i64 t152,.int .i64 t155] (0,0) _ rfl (by refine bP ?_;refine blk_put (cs := #[.int .i64 t152,.int .i64 0]) ?_ 1 _ rfl;refine bP ?_;refine blk_put (cs := #[.int .i64 0,.int .i64 0]) ?_ 0 _ rfl;refine bP ?_;exact BK145.out) Try.underlying25 rfl Z310) rfl ?_
 exact ⟨Z265,Z194,Z195,Z397⟩

/-! ### spec_l15Cand: function 11 -/
def spec_l15Cand.f (k : Nat) (s0_0 : List Int) (s0_1 : Int) (s0_2 : Int) : Option (Int × Int × Int × Int × Int × Int × Int × Int) := (spec_l1Below.f s0_0 s0_1 s0_2 3).bind fun bt165 => ((spec_l1Below.f s0_0 bt165.2.1 bt165.2.2 4).bind fun bt168 => ((spec_l14Slot.f k s0_0 bt168.2.1 bt168.2.2).bind fun bt171 => ((spec_l14Slot.f k s0_0 bt171.2.2.1 bt171.2.2.2).bind fun bt175 => ((spec_l1Once.f s0_0 bt175.2.2.1 bt175.2.2.2 4).bind fun bt180 => (if bt180.1 = true then (if bt171.1 > 0 then (if bt171.1 < 20 then ((spec_l1Below.f s0_0 bt180.2.1 bt180.2.2 9).bind fun bt183 => (some (bt165.1,bt168.1,bt171.1,wrap64 (10 * bt171.1),bt183.1,wrap64 (10 * bt183.1),bt183.2.1,bt183.2.2))) else (some (bt165.1,bt168.1,bt171.1,bt171.2.1,bt175.1,bt175.2.1,bt180.2.1,bt180.2.2))) else (some (bt165.1,bt168.1,bt171.1,bt171.2.1,bt175.1,bt175.2.1,bt180.2.1,bt180.2.2))) else (some (bt165.1,bt168.1,bt171.1,bt171.2.1,bt175.1,bt175.2.1,bt180.2.1,bt180.2.2)))))))
theorem spec_l15Cand.mono : ∀ a0 a1 a2 k,LeO (spec_l15Cand.f k a0 a1 a2) (spec_l15Cand.f (k + 1) a0 a1 a2) := by
 intro a0 a1 a2 k
 unfold spec_l15Cand.f
 repeat' first
   | (with_reducible exact spec_l14Slot.mono _ _ _ _)
   | (with_reducible exact LeO.refl _)
   | (with_reducible exact LeO.none _)
   | (with_reducible refine LeO.ite ?_ ?_)
   | (with_reducible refine LeO.bind ?_ (fun _ => ?_))
   | exact spec_l14Slot.mono _ _ _ _
   | exact LeO.none _
   | refine LeO.ite ?_ ?_
   | refine LeO.bind ?_ (fun _ => ?_)
set_option maxHeartbeats 8000000 in
set_option maxRecDepth 100000 in
theorem spec_l15Cand.calls (k : Nat) (g : Nat) (s0_0 : List Int) (s0_1 : Int) (s0_2 : Int) (r1 : Int) (r2 : Int) (r3 : Int) (r4 : Int) (r5 : Int) (r6 : Int) (r7 : Int) (r8 : Int) (w0 w : World) (hI : IsS48 w0 w g s0_0 s0_1 s0_2) (hB : Below w0.heap.size w0 w) (h : spec_l15Cand.f k s0_0 s0_1 s0_2 = some (r1,r2,r3,r4,r5,r6,r7,r8)) :
  Calls Try.prog 11 #[.pointer (some ⟨g,0,none⟩)] w fun e w' => e = .returned (.agg #[.int .i64 r1,.int .i64 r2,.int .i64 r3,.int .i64 r4,.int .i64 r5,.int .i64 r6]) ∧ IsS48 w0 w' g s0_0 r7 r8 ∧ Below w0.heap.size w0 w' ∧ KeepBut w w' g none := by
 have hu27 := Try.underlying27
 have hu25 := Try.underlying25
 have HI0 := Aside0.mk hI
 have HK := Aside0.mk (KeepBut.refl w g none)
 have HL := Aside0.mk hB.size
 clear hI
 have HW0 := Aside0.mk hB.size
 have HB := Aside0.mk hB
 clear hB
 have H := h
 clear h
 unfold spec_l15Cand.f at H
 obtain ⟨⟨t165,t166,t167⟩,A20,H⟩ := Option.bind_eq_some_iff.mp H
 try dsimp only at H
 have A2 := Aside0.mk A20
 clear A20
 obtain ⟨⟨t168,t169,t170⟩,A30,H⟩ := Option.bind_eq_some_iff.mp H
 try dsimp only at H
 have A3 := Aside0.mk A30
 clear A30
 obtain ⟨⟨t171,t172,t173,t174⟩,A40,H⟩ := Option.bind_eq_some_iff.mp H
 try dsimp only at H
 have A4 := Aside0.mk A40
 clear A40
 obtain ⟨⟨t175,t176,t177,t178⟩,A50,H⟩ := Option.bind_eq_some_iff.mp H
 try dsimp only at H
 have A5 := Aside0.mk A50
 clear A50
 obtain ⟨⟨t180,t181,t182⟩,A60,H⟩ := Option.bind_eq_some_iff.mp H
 try dsimp only at H
 have A6 := Aside0.mk A60
 clear A60
 by_cases c7 : t180 = true
 rotate_left
 ·replace c7 := Bool.eq_false_iff.mpr c7
  subst c7
  rw [if_neg Bool.false_ne_true] at H
  simp only [Option.some.injEq,Prod.mk.injEq] at H
  obtain ⟨rfl,rfl,rfl,rfl,rfl,rfl,rfl,rfl⟩ := H
  go_enter Try.func11,Try.ntmps11
  go_wp2_with (first | ((with_reducible refine gate_dst (N := 2) rfl ?_);refine bE 2 #[.int .i64 0,.int .i64 0,.int .i64 0,.int .i64 0,.int .i64 0,.int .i64 0] 27 (h := ?_);intro gb164 hg wq1 hbox hb;have n_ := Z42;clear HI0 HK HB;obtain ⟨HI0,HK,HB,BK164,GW164,GE164,NB0_164,NB164_0⟩ := n_;clear hb hbox hg) | ((with_reducible refine gate_callee (f := 10) rfl ?_);refine goesL_ (some 5) rfl rfl Try.func10 Z310 rfl #[.pointer (some ⟨g,0,none⟩),.int .i64 3] rfl Z249 ?_;(with_reducible refine (spec_l1Below.calls g s0_0 s0_1 s0_2 3 t165 t166 t167 w0 _ ?side1 ?side2 A2.out).mono ?_);(case side1 => exact Z360);(case side2 => exact Z361);rintro e wq2 ⟨rfl,hi,hb,hk⟩;refine ⟨_,rfl,?_⟩;have n_ := Z132;clear BK164 HK HB HI0;obtain ⟨BK164,HK,HB,HI0⟩ := n_;(try clear hb);(try clear hb2);(try clear hk);(try clear hi)) | ((with_reducible refine gate_callee (f := 10) rfl ?_);refine goesL_ (some 7) rfl rfl Try.func10 Z310 rfl #[.pointer (some ⟨g,0,none⟩),.int .i64 4] rfl Z249 ?_;(with_reducible refine (spec_l1Below.calls g s0_0 t166 t167 4 t168 t169 t170 w0 _ ?side1 ?side2 A3.out).mono ?_);(case side1 => exact Z360);(case side2 => exact Z361);rintro e wq3 ⟨rfl,hi,hb,hk⟩;refine ⟨_,rfl,?_⟩;have n_ := Z132;clear BK164 HK HB HI0;obtain ⟨BK164,HK,HB,HI0⟩ := n_;(try clear hb);(try clear hb2);(try clear hk);(try clear hi)) | ((with_reducible refine gate_callee (f := 22) rfl ?_);refine goesL_ (some 9) rfl rfl Try.func22 Z310 rfl #[.pointer (some ⟨g,0,none⟩)] rfl Z249 ?_;(with_reducible refine (spec_l14Slot.calls k g s0_0 t169 t170 t171 t172 t173 t174 w0 _ ?side1 ?side2 A4.out).mono ?_);(case side1 => exact Z360);(case side2 => exact Z361);rintro e wq4 ⟨rfl,hi,hb,hk⟩;refine ⟨_,rfl,?_⟩;have n_ := Z132;clear BK164 HK HB HI0;obtain ⟨BK164,HK,HB,HI0⟩ := n_;(try clear hb);(try clear hb2);(try clear hk);(try clear hi)) | ((with_reducible refine gate_callee (f := 22) rfl ?_);refine goesL_ (some 11) rfl rfl Try.func22 Z310 rfl #[.pointer (some ⟨g,0,none⟩)] rfl Z249 ?_;(with_reducible refine (spec_l14Slot.calls k g s0_0 t173 t174 t175 t176 t177 t178 w0 _ ?side1 ?side2 A5.out).mono ?_);(case side1 => exact Z360);(case side2 => exact Z361);rintro e wq5 ⟨rfl,hi,hb,hk⟩;refine ⟨_,rfl,?_⟩;have n_ := Z132;clear BK164 HK HB HI0;obtain ⟨BK164,HK,HB,HI0⟩ := n_;(try clear hb);(try clear hb2);(try clear hk);(try clear hi)) | ((with_reducible refine gate_dst (N := 3) rfl ?_);refine bE 3 #[.int .i64 0,.int .i64 0,.int .i64 0,.int .i64 0,.int .i64 0,.int .i64 0] 27 (h := ?_);intro gb179 hg wq6 hbox hb;have n_ := Z19;clear HI0 BK164 HK HB;obtain ⟨HI0,BK164,HK,HB,BK179,GW179,GE179,NB164_179,NB179_164,NB0_179,NB179_0⟩ := n_;clear hb hbox hg;have hnbq7 := NB179_164.out;have hncq7 := NB164_179.out;have hnbq8 := NB179_0.out;have hncq8 := NB0_179.out;obtain ⟨hczq9_0,hczq9_1,hczq9_2,hczq9_3,hczq9_4,hczq9_5,hfzq9_0,hfzq9_1,hfzq9_2,hfzq9_3,hfzq9_4,hfzq9_5⟩ := cells6 BK179.out) | ((with_reducible refine gate_callee (f := 19) rfl ?_);refine goesL_ (some 14) rfl rfl Try.func19 Z310 rfl #[.pointer (some ⟨g,0,none⟩),.int .i64 4] rfl Z249 ?_;(with_reducible refine (spec_l1Once.calls g s0_0 t177 t178 4 false t181 t182 w0 _ ?side1 ?side2 A6.out).mono ?_);(case side1 => exact Z177);(case side2 => exact Z179);rintro e wq10 ⟨rfl,hi,hb,hk⟩;refine ⟨_,rfl,?_⟩;have n_ := Z41;clear BK164 BK179 HK HB HI0;obtain ⟨BK164,BK179,HK,HB,HI0⟩ := n_;(try clear hb);(try clear hb2);(try clear hk);(try clear hi);obtain ⟨hczq11_0,hczq11_1,hczq11_2,hczq11_3,hczq11_4,hczq11_5,hfzq11_0,hfzq11_1,hfzq11_2,hfzq11_3,hfzq11_4,hfzq11_5⟩ := cells6 BK179.out;have hnbq12 := NB164_0.out;have hncq12 := NB0_164.out;obtain ⟨hczq13_0,hczq13_1,hczq13_2,hczq13_3,hczq13_4,hczq13_5,hfzq13_0,hfzq13_1,hfzq13_2,hfzq13_3,hfzq13_4,hfzq13_5⟩ := cells6 BK164.out))
  refine bodyPost_ret (results_cell_row rfl _ _ gb164 27 #[.int .i64 t165,.int .i64 t168,.int .i64 t171,.int .i64 t172,.int .i64 t175,.int .i64 t176] (0,0) _ rfl Z83 Try.underlying27 rfl Z310) rfl ?_
  exact ⟨Z265,Z177,Z179,Z358⟩
 subst c7
 rw [if_pos rfl] at H
 by_cases c8 : t171 > 0
 rotate_left
 ·rw [if_neg c8] at H
  have c8b0 : decide (0 < t171) = false := decide_eq_false c8
  clear c8
  simp only [Option.some.injEq,Prod.mk.injEq] at H
  obtain ⟨rfl,rfl,rfl,rfl,rfl,rfl,rfl,rfl⟩ := H
  go_enter Try.func11,Try.ntmps11
  go_wp2_with (first | ((with_reducible refine gate_dst (N := 2) rfl ?_);refine bE 2 #[.int .i64 0,.int .i64 0,.int .i64 0,.int .i64 0,.int .i64 0,.int .i64 0] 27 (h := ?_);intro gb164 hg wq1 hbox hb;have n_ := Z42;clear HI0 HK HB;obtain ⟨HI0,HK,HB,BK164,GW164,GE164,NB0_164,NB164_0⟩ := n_;clear hb hbox hg) | ((with_reducible refine gate_callee (f := 10) rfl ?_);refine goesL_ (some 5) rfl rfl Try.func10 Z310 rfl #[.pointer (some ⟨g,0,none⟩),.int .i64 3] rfl Z249 ?_;(with_reducible refine (spec_l1Below.calls g s0_0 s0_1 s0_2 3 t165 t166 t167 w0 _ ?side1 ?side2 A2.out).mono ?_);(case side1 => exact Z360);(case side2 => exact Z361);rintro e wq2 ⟨rfl,hi,hb,hk⟩;refine ⟨_,rfl,?_⟩;have n_ := Z132;clear BK164 HK HB HI0;obtain ⟨BK164,HK,HB,HI0⟩ := n_;(try clear hb);(try clear hb2);(try clear hk);(try clear hi)) | ((with_reducible refine gate_callee (f := 10) rfl ?_);refine goesL_ (some 7) rfl rfl Try.func10 Z310 rfl #[.pointer (some ⟨g,0,none⟩),.int .i64 4] rfl Z249 ?_;(with_reducible refine (spec_l1Below.calls g s0_0 t166 t167 4 t168 t169 t170 w0 _ ?side1 ?side2 A3.out).mono ?_);(case side1 => exact Z360);(case side2 => exact Z361);rintro e wq3 ⟨rfl,hi,hb,hk⟩;refine ⟨_,rfl,?_⟩;have n_ := Z132;clear BK164 HK HB HI0;obtain ⟨BK164,HK,HB,HI0⟩ := n_;(try clear hb);(try clear hb2);(try clear hk);(try clear hi)) | ((with_reducible refine gate_callee (f := 22) rfl ?_);refine goesL_ (some 9) rfl rfl Try.func22 Z310 rfl #[.pointer (some ⟨g,0,none⟩)] rfl Z249 ?_;(with_reducible refine (spec_l14Slot.calls k g s0_0 t169 t170 t171 t172 t173 t174 w0 _ ?side1 ?side2 A4.out).mono ?_);(case side1 => exact Z360);(case side2 => exact Z361);rintro e wq4 ⟨rfl,hi,hb,hk⟩;refine ⟨_,rfl,?_⟩;have n_ := Z132;clear BK164 HK HB HI0;obtain ⟨BK164,HK,HB,HI0⟩ := n_;(try clear hb);(try clear hb2);(try clear hk);(try clear hi)) | ((with_reducible refine gate_callee (f := 22) rfl ?_);refine goesL_ (some 11) rfl rfl Try.func22 Z310 rfl #[.pointer (some ⟨g,0,none⟩)] rfl Z249 ?_;(with_reducible refine (spec_l14Slot.calls k g s0_0 t173 t174 t175 t176 t177 t178 w0 _ ?side1 ?side2 A5.out).mono ?_);(case side1 => exact Z360);(case side2 => exact Z361);rintro e wq5 ⟨rfl,hi,hb,hk⟩;refine ⟨_,rfl,?_⟩;have n_ := Z132;clear BK164 HK HB HI0;obtain ⟨BK164,HK,HB,HI0⟩ := n_;(try clear hb);(try clear hb2);(try clear hk);(try clear hi)) | ((with_reducible refine gate_dst (N := 3) rfl ?_);refine bE 3 #[.int .i64 0,.int .i64 0,.int .i64 0,.int .i64 0,.int .i64 0,.int .i64 0] 27 (h := ?_);intro gb179 hg wq6 hbox hb;have n_ := Z19;clear HI0 BK164 HK HB;obtain ⟨HI0,BK164,HK,HB,BK179,GW179,GE179,NB164_179,NB179_164,NB0_179,NB179_0⟩ := n_;clear hb hbox hg;have hnbq7 := NB179_164.out;have hncq7 := NB164_179.out;have hnbq8 := NB179_0.out;have hncq8 := NB0_179.out;obtain ⟨hczq9_0,hczq9_1,hczq9_2,hczq9_3,hczq9_4,hczq9_5,hfzq9_0,hfzq9_1,hfzq9_2,hfzq9_3,hfzq9_4,hfzq9_5⟩ := cells6 BK179.out) | ((with_reducible refine gate_callee (f := 19) rfl ?_);refine goesL_ (some 14) rfl rfl Try.func19 Z310 rfl #[.pointer (some ⟨g,0,none⟩),.int .i64 4] rfl Z249 ?_;(with_reducible refine (spec_l1Once.calls g s0_0 t177 t178 4 true t181 t182 w0 _ ?side1 ?side2 A6.out).mono ?_);(case side1 => exact Z177);(case side2 => exact Z179);rintro e wq10 ⟨rfl,hi,hb,hk⟩;refine ⟨_,rfl,?_⟩;have n_ := Z41;clear BK164 BK179 HK HB HI0;obtain ⟨BK164,BK179,HK,HB,HI0⟩ := n_;(try clear hb);(try clear hb2);(try clear hk);(try clear hi);obtain ⟨hczq11_0,hczq11_1,hczq11_2,hczq11_3,hczq11_4,hczq11_5,hfzq11_0,hfzq11_1,hfzq11_2,hfzq11_3,hfzq11_4,hfzq11_5⟩ := cells6 BK179.out;have hnbq12 := NB164_0.out;have hncq12 := NB0_164.out;obtain ⟨hczq13_0,hczq13_1,hczq13_2,hczq13_3,hczq13_4,hczq13_5,hfzq13_0,hfzq13_1,hfzq13_2,hfzq13_3,hfzq13_4,hfzq13_5⟩ := cells6 BK164.out))
  refine bodyPost_ret (results_cell_row rfl _ _ gb164 27 #[.int .i64 t165,.int .i64 t168,.int .i64 t171,.int .i64 t172,.int .i64 t175,.int .i64 t176] (0,0) _ rfl Z83 Try.underlying27 rfl Z310) rfl ?_
  exact ⟨Z265,Z177,Z179,Z358⟩
 rw [if_pos c8] at H
 have c8b0 : decide (0 < t171) = true := decide_eq_true c8
 clear c8
 by_cases c9 : t171 < 20
 rotate_left
 ·rw [if_neg c9] at H
  have c9b0 : decide (t171 < 20) = false := decide_eq_false c9
  clear c9
  simp only [Option.some.injEq,Prod.mk.injEq] at H
  obtain ⟨rfl,rfl,rfl,rfl,rfl,rfl,rfl,rfl⟩ := H
  go_enter Try.func11,Try.ntmps11
  go_wp2_with (first | ((with_reducible refine gate_dst (N := 2) rfl ?_);refine bE 2 #[.int .i64 0,.int .i64 0,.int .i64 0,.int .i64 0,.int .i64 0,.int .i64 0] 27 (h := ?_);intro gb164 hg wq1 hbox hb;have n_ := Z42;clear HI0 HK HB;obtain ⟨HI0,HK,HB,BK164,GW164,GE164,NB0_164,NB164_0⟩ := n_;clear hb hbox hg) | ((with_reducible refine gate_callee (f := 10) rfl ?_);refine goesL_ (some 5) rfl rfl Try.func10 Z310 rfl #[.pointer (some ⟨g,0,none⟩),.int .i64 3] rfl Z249 ?_;(with_reducible refine (spec_l1Below.calls g s0_0 s0_1 s0_2 3 t165 t166 t167 w0 _ ?side1 ?side2 A2.out).mono ?_);(case side1 => exact Z360);(case side2 => exact Z361);rintro e wq2 ⟨rfl,hi,hb,hk⟩;refine ⟨_,rfl,?_⟩;have n_ := Z132;clear BK164 HK HB HI0;obtain ⟨BK164,HK,HB,HI0⟩ := n_;(try clear hb);(try clear hb2);(try clear hk);(try clear hi)) | ((with_reducible refine gate_callee (f := 10) rfl ?_);refine goesL_ (some 7) rfl rfl Try.func10 Z310 rfl #[.pointer (some ⟨g,0,none⟩),.int .i64 4] rfl Z249 ?_;(with_reducible refine (spec_l1Below.calls g s0_0 t166 t167 4 t168 t169 t170 w0 _ ?side1 ?side2 A3.out).mono ?_);(case side1 => exact Z360);(case side2 => exact Z361);rintro e wq3 ⟨rfl,hi,hb,hk⟩;refine ⟨_,rfl,?_⟩;have n_ := Z132;clear BK164 HK HB HI0;obtain ⟨BK164,HK,HB,HI0⟩ := n_;(try clear hb);(try clear hb2);(try clear hk);(try clear hi)) | ((with_reducible refine gate_callee (f := 22) rfl ?_);refine goesL_ (some 9) rfl rfl Try.func22 Z310 rfl #[.pointer (some ⟨g,0,none⟩)] rfl Z249 ?_;(with_reducible refine (spec_l14Slot.calls k g s0_0 t169 t170 t171 t172 t173 t174 w0 _ ?side1 ?side2 A4.out).mono ?_);(case side1 => exact Z360);(case side2 => exact Z361);rintro e wq4 ⟨rfl,hi,hb,hk⟩;refine ⟨_,rfl,?_⟩;have n_ := Z132;clear BK164 HK HB HI0;obtain ⟨BK164,HK,HB,HI0⟩ := n_;(try clear hb);(try clear hb2);(try clear hk);(try clear hi)) | ((with_reducible refine gate_callee (f := 22) rfl ?_);refine goesL_ (some 11) rfl rfl Try.func22 Z310 rfl #[.pointer (some ⟨g,0,none⟩)] rfl Z249 ?_;(with_reducible refine (spec_l14Slot.calls k g s0_0 t173 t174 t175 t176 t177 t178 w0 _ ?side1 ?side2 A5.out).mono ?_);(case side1 => exact Z360);(case side2 => exact Z361);rintro e wq5 ⟨rfl,hi,hb,hk⟩;refine ⟨_,rfl,?_⟩;have n_ := Z132;clear BK164 HK HB HI0;obtain ⟨BK164,HK,HB,HI0⟩ := n_;(try clear hb);(try clear hb2);(try clear hk);(try clear hi)) | ((with_reducible refine gate_dst (N := 3) rfl ?_);refine bE 3 #[.int .i64 0,.int .i64 0,.int .i64 0,.int .i64 0,.int .i64 0,.int .i64 0] 27 (h := ?_);intro gb179 hg wq6 hbox hb;have n_ := Z19;clear HI0 BK164 HK HB;obtain ⟨HI0,BK164,HK,HB,BK179,GW179,GE179,NB164_179,NB179_164,NB0_179,NB179_0⟩ := n_;clear hb hbox hg;have hnbq7 := NB179_164.out;have hncq7 := NB164_179.out;have hnbq8 := NB179_0.out;have hncq8 := NB0_179.out;obtain ⟨hczq9_0,hczq9_1,hczq9_2,hczq9_3,hczq9_4,hczq9_5,hfzq9_0,hfzq9_1,hfzq9_2,hfzq9_3,hfzq9_4,hfzq9_5⟩ := cells6 BK179.out) | ((with_reducible refine gate_callee (f := 19) rfl ?_);refine goesL_ (some 14) rfl rfl Try.func19 Z310 rfl #[.pointer (some ⟨g,0,none⟩),.int .i64 4] rfl Z249 ?_;(with_reducible refine (spec_l1Once.calls g s0_0 t177 t178 4 true t181 t182 w0 _ ?side1 ?side2 A6.out).mono ?_);(case side1 => exact Z177);(case side2 => exact Z179);rintro e wq10 ⟨rfl,hi,hb,hk⟩;refine ⟨_,rfl,?_⟩;have n_ := Z41;clear BK164 BK179 HK HB HI0;obtain ⟨BK164,BK179,HK,HB,HI0⟩ := n_;(try clear hb);(try clear hb2);(try clear hk);(try clear hi);obtain ⟨hczq11_0,hczq11_1,hczq11_2,hczq11_3,hczq11_4,hczq11_5,hfzq11_0,hfzq11_1,hfzq11_2,hfzq11_3,hfzq11_4,hfzq11_5⟩ := cells6 BK179.out;have hnbq12 := NB164_0.out;have hncq12 := NB0_164.out;obtain ⟨hczq13_0,hczq13_1,hczq13_2,hczq13_3,hczq13_4,hczq13_5,hfzq13_0,hfzq13_1,hfzq13_2,hfzq13_3,hfzq13_4,hfzq13_5⟩ := cells6 BK164.out))
  refine bodyPost_ret (results_cell_row rfl _ _ gb164 27 #[.int .i64 t165,.int .i64 t168,.int .i64 t171,.int .i64 t172,.int .i64 t175,.int .i64 t176] (0,0) _ rfl Z83 Try.underlying27 rfl Z310) rfl ?_
  exact ⟨Z265,Z177,Z179,Z358⟩
 rw [if_pos c9] at H
 have c9b0 : decide (t171 < 20) = true := decide_eq_true c9
 clear c9
 obtain ⟨⟨t183,t184,t185⟩,A100,H⟩ := Option.bind_eq_some_iff.mp H
 try dsimp only at H
 have A10 := Aside0.mk A100
 clear A100
 simp only [Option.some.injEq,Prod.mk.injEq] at H
 obtain ⟨rfl,rfl,rfl,rfl,rfl,rfl,rfl,rfl⟩ := H
 go_enter Try.func11,Try.ntmps11
 go_wp2_with (first | ((with_reducible refine gate_dst (N := 2) rfl ?_);refine bE 2 #[.int .i64 0,.int .i64 0,.int .i64 0,.int .i64 0,.int .i64 0,.int .i64 0] 27 (h := ?_);intro gb164 hg wq1 hbox hb;have n_ := Z42;clear HI0 HK HB;obtain ⟨HI0,HK,HB,BK164,GW164,GE164,NB0_164,NB164_0⟩ := n_;clear hb hbox hg) | ((with_reducible refine gate_callee (f := 10) rfl ?_);refine goesL_ (some 5) rfl rfl Try.func10 Z310 rfl #[.pointer (some ⟨g,0,none⟩),.int .i64 3] rfl Z249 ?_;(with_reducible refine (spec_l1Below.calls g s0_0 s0_1 s0_2 3 t165 t166 t167 w0 _ ?side1 ?side2 A2.out).mono ?_);(case side1 => exact Z360);(case side2 => exact Z361);rintro e wq2 ⟨rfl,hi,hb,hk⟩;refine ⟨_,rfl,?_⟩;have n_ := Z132;clear BK164 HK HB HI0;obtain ⟨BK164,HK,HB,HI0⟩ := n_;(try clear hb);(try clear hb2);(try clear hk);(try clear hi)) | ((with_reducible refine gate_callee (f := 10) rfl ?_);refine goesL_ (some 7) rfl rfl Try.func10 Z310 rfl #[.pointer (some ⟨g,0,none⟩),.int .i64 4] rfl Z249 ?_;(with_reducible refine (spec_l1Below.calls g s0_0 t166 t167 4 t168 t169 t170 w0 _ ?side1 ?side2 A3.out).mono ?_);(case side1 => exact Z360);(case side2 => exact Z361);rintro e wq3 ⟨rfl,hi,hb,hk⟩;refine ⟨_,rfl,?_⟩;have n_ := Z132;clear BK164 HK HB HI0;obtain ⟨BK164,HK,HB,HI0⟩ := n_;(try clear hb);(try clear hb2);(try clear hk);(try clear hi)) | ((with_reducible refine gate_callee (f := 22) rfl ?_);refine goesL_ (some 9) rfl rfl Try.func22 Z310 rfl #[.pointer (some ⟨g,0,none⟩)] rfl Z249 ?_;(with_reducible refine (spec_l14Slot.calls k g s0_0 t169 t170 t171 t172 t173 t174 w0 _ ?side1 ?side2 A4.out).mono ?_);(case side1 => exact Z360);(case side2 => exact Z361);rintro e wq4 ⟨rfl,hi,hb,hk⟩;refine ⟨_,rfl,?_⟩;have n_ := Z132;clear BK164 HK HB HI0;obtain ⟨BK164,HK,HB,HI0⟩ := n_;(try clear hb);(try clear hb2);(try clear hk);(try clear hi)) | ((with_reducible refine gate_callee (f := 22) rfl ?_);refine goesL_ (some 11) rfl rfl Try.func22 Z310 rfl #[.pointer (some ⟨g,0,none⟩)] rfl Z249 ?_;(with_reducible refine (spec_l14Slot.calls k g s0_0 t173 t174 t175 t176 t177 t178 w0 _ ?side1 ?side2 A5.out).mono ?_);(case side1 => exact Z360);(case side2 => exact Z361);rintro e wq5 ⟨rfl,hi,hb,hk⟩;refine ⟨_,rfl,?_⟩;have n_ := Z132;clear BK164 HK HB HI0;obtain ⟨BK164,HK,HB,HI0⟩ := n_;(try clear hb);(try clear hb2);(try clear hk);(try clear hi)) | ((with_reducible refine gate_dst (N := 3) rfl ?_);refine bE 3 #[.int .i64 0,.int .i64 0,.int .i64 0,.int .i64 0,.int .i64 0,.int .i64 0] 27 (h := ?_);intro gb179 hg wq6 hbox hb;have n_ := Z19;clear HI0 BK164 HK HB;obtain ⟨HI0,BK164,HK,HB,BK179,GW179,GE179,NB164_179,NB179_164,NB0_179,NB179_0⟩ := n_;clear hb hbox hg;have hnbq7 := NB179_164.out;have hncq7 := NB164_179.out;have hnbq8 := NB179_0.out;have hncq8 := NB0_179.out;obtain ⟨hczq9_0,hczq9_1,hczq9_2,hczq9_3,hczq9_4,hczq9_5,hfzq9_0,hfzq9_1,hfzq9_2,hfzq9_3,hfzq9_4,hfzq9_5⟩ := cells6 BK179.out) | ((with_reducible refine gate_callee (f := 19) rfl ?_);refine goesL_ (some 14) rfl rfl Try.func19 Z310 rfl #[.pointer (some ⟨g,0,none⟩),.int .i64 4] rfl Z249 ?_;(with_reducible refine (spec_l1Once.calls g s0_0 t177 t178 4 true t181 t182 w0 _ ?side1 ?side2 A6.out).mono ?_);(case side1 => exact Z177);(case side2 => exact Z179);rintro e wq10 ⟨rfl,hi,hb,hk⟩;refine ⟨_,rfl,?_⟩;have n_ := Z41;clear BK164 BK179 HK HB HI0;obtain ⟨BK164,BK179,HK,HB,HI0⟩ := n_;(try clear hb);(try clear hb2);(try clear hk);(try clear hi);obtain ⟨hczq11_0,hczq11_1,hczq11_2,hczq11_3,hczq11_4,hczq11_5,hfzq11_0,hfzq11_1,hfzq11_2,hfzq11_3,hfzq11_4,hfzq11_5⟩ := cells6 BK179.out) | ((with_reducible refine gate_callee (f := 10) rfl ?_);refine goesL_ (some 34) rfl rfl Try.func10 Z310 rfl #[.pointer (some ⟨g,0,none⟩),.int .i64 9] rfl Z249 ?_;(with_reducible refine (spec_l1Below.calls g s0_0 t181 t182 9 t183 t184 t185 w0 _ ?side1 ?side2 A10.out).mono ?_);(case side1 => exact Z177);(case side2 => exact Z179);rintro e wq12 ⟨rfl,hi,hb,hk⟩;refine ⟨_,rfl,?_⟩;have n_ := jA (KeepBut.blk hk (g' := gb164) (o := .cells #[.int .i64 0,.int .i64 0,.int .i64 0,.int .i64 0,.int .i64 0,.int .i64 0] 27 (0,0)) (by refine bP ?_;refine blk_far ?_ NB164_179.out _;refine bP ?_;exact BK164.out) NB164_0.out Z524) (jA (KeepBut.blk hk (g' := gb179) (o := .cells #[.int .i64 t165,.int .i64 t168,.int .i64 t171,.int .i64 (wrap64 (10 * t171)),.int .i64 t175,.int .i64 t176] 27 (0,0)) (by refine bP ?_;refine blk_put (cs := #[.int .i64 t165,.int .i64 t168,.int .i64 t171,.int .i64 t172,.int .i64 t175,.int .i64 t176]) ?_ 3 _ rfl;refine bP ?_;exact BK179.out) NB179_0.out Z524) (jA (KeepBut.trans Z358 hk (.inl rfl)) (jA (hb) (Aside0.mk (hi)))));clear BK164 BK179 HK HB HI0;obtain ⟨BK164,BK179,HK,HB,HI0⟩ := n_;(try clear hb);(try clear hb2);(try clear hk);(try clear hi);have hczq13_0 : wq12.cell? ⟨gb179,0,none⟩ = some (.int .i64 t165) := bc BK179 0;have hczq13_1 : wq12.cell? ⟨gb179,1,none⟩ = some (.int .i64 t168) := bc BK179 1;have hczq13_2 : wq12.cell? ⟨gb179,2,none⟩ = some (.int .i64 t171) := bc BK179 2;have hczq13_3 : wq12.cell? ⟨gb179,3,none⟩ = some (.int .i64 (wrap64 (10 * t171))) := bc BK179 3;have hczq13_4 : wq12.cell? ⟨gb179,4,none⟩ = some (.int .i64 t175) := bc BK179 4;have hczq13_5 : wq12.cell? ⟨gb179,5,none⟩ = some (.int .i64 t176) := bc BK179 5;have hzhczq13 : ((wq12.setCell ⟨gb179,4,none⟩ (.int .i64 t183)).setCell ⟨gb179,5,none⟩ (.int .i64 0)).cell? ⟨gb179,5,none⟩ = some (.int .i64 0) := (by simp [go_sem,hczq13_4,hczq13_5]);have hfzq13_0 := blk_frozen BK179.out 0;have hfzq13_1 := blk_frozen BK179.out 1;have hfzq13_2 := blk_frozen BK179.out 2;have hfzq13_3 := blk_frozen BK179.out 3;have hfzq13_4 := blk_frozen BK179.out 4;have hfzq13_5 := blk_frozen BK179.out 5;have hnbq14 := NB164_0.out;have hncq14 := NB0_164.out;obtain ⟨hczq15_0,hczq15_1,hczq15_2,hczq15_3,hczq15_4,hczq15_5,hfzq15_0,hfzq15_1,hfzq15_2,hfzq15_3,hfzq15_4,hfzq15_5⟩ := cells6 BK164.out))
 refine bodyPost_ret (results_cell_row rfl _ _ gb164 27 #[.int .i64 t165,.int .i64 t168,.int .i64 t171,.int .i64 (wrap64 (10 * t171)),.int .i64 t183,.int .i64 (wrap64 (10 * t183))] (0,0) _ rfl (by refine bP ?_;refine blk_put (cs := #[.int .i64 t165,.int .i64 t168,.int .i64 t171,.int .i64 (wrap64 (10 * t171)),.int .i64 t183,.int .i64 0]) ?_ 5 _ rfl;refine bP ?_;refine blk_put (cs := #[.int .i64 t165,.int .i64 t168,.int .i64 t171,.int .i64 (wrap64 (10 * t171)),.int .i64 0,.int .i64 0]) ?_ 4 _ rfl;refine bP ?_;refine blk_put (cs := #[.int .i64 t165,.int .i64 t168,.int .i64 t171,.int .i64 0,.int .i64 0,.int .i64 0]) ?_ 3 _ rfl;refine bP ?_;refine blk_put (cs := #[.int .i64 t165,.int .i64 t168,.int .i64 0,.int .i64 0,.int .i64 0,.int .i64 0]) ?_ 2 _ rfl;refine bP ?_;refine blk_put (cs := #[.int .i64 t165,.int .i64 0,.int .i64 0,.int .i64 0,.int .i64 0,.int .i64 0]) ?_ 1 _ rfl;refine bP ?_;refine blk_put (cs := #[.int .i64 0,.int .i64 0,.int .i64 0,.int .i64 0,.int .i64 0,.int .i64 0]) ?_ 0 _ rfl;refine bP ?_;refine blk_far ?_ NB164_179.out _;refine bP ?_;refine blk_far ?_ NB164_179.out _;refine bP ?_;refine blk_far ?_ NB164_179.out _;refine bP ?_;exact BK164.out) Try.underlying27 rfl Z310) rfl ?_
 exact ⟨Z265,Z177,Z179,Z358⟩

end Go.Proofs.Ytlflcgdcegohjaa.QFnBetter
