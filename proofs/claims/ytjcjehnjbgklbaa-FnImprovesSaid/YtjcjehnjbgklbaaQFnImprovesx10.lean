/- The machine side of FnImproves: what each Go function that it reaches comes to. Conditions: none. -/
import Derived.Test.YtjcjehnjbgklbaaQFnImprovesx0
namespace Go.Proofs.Ytjcjehnjbgklbaa.QFnImproves
open Go.RowKit Go.Proofs.YtjcjehnjbgklbaaW.PrintWords Go.Proofs.YtjcjehnjbgklbaaW.PrintLast Go.Proofs.YtjcjehnjbgklbaaW.PrintMore
attribute [local go_sem] max2_int min2_int max_two min_two max_three min_three max_four min_four   -- for this text's walks alone
set_option linter.unusedVariables false
set_option linter.unusedSimpArgs false

/-- A state of type 76 at block g of W; what its slices lead to came in by w0. -/
def IsS76 (w0 W : World) (g : Nat) (f0 : List Int) (f1 : Int) (f2 : Int) : Prop := ∃ A0 c0, W.heap[g]? = some (.cells #[.slice A0 f0.length c0, .int .i64 f1, .int .i64 f2] 76 (0, 0)) ∧ w0.heap.size ≤ g ∧ Kd.C (Kd.int .u8) w0 A0 f0.length f0
theorem IsS76.grown {w0 W : World} {g : Nat} {f0 : List Int} {f1 : Int} {f2 : Int} {W1 : World} {row : Option Nat} (h : IsS76 w0 W g f0 f1 f2) (hw : W.grownBy W1 row) (hne : some g ≠ row) : IsS76 w0 W1 g f0 f1 f2 := by
  obtain ⟨A0, c0, hb, hg, hr0⟩ := h
  exact ⟨A0, c0, blk_grown hb hw hne, hg, hr0⟩
theorem IsS76.own_neN {w0 W : World} {g : Nat} {f0 : List Int} {f1 : Int} {f2 : Int} {α : Type} {d : Kd α} {e : Nat} {base : Nat} {ok : Nat → Prop} {v : Value} {xs : List α} (h : IsS76 w0 W g f0 f1 f2) (ho : Kd.N d e W base ok v xs) (ht : e ≠ 76) : some g ≠ v.ownBlock := by
  obtain ⟨A0, c0, hb, hg, hr0⟩ := h
  exact Kd.N_ne ho hb ht
theorem IsS76.fresh {w0 W : World} {g : Nat} {f0 : List Int} {f1 : Int} {f2 : Int} (h : IsS76 w0 W g f0 f1 f2) : ∀ k, W.heap.size ≤ k → k ≠ g := by
  obtain ⟨A0, c0, hb, hg, hr0⟩ := h
  exact Kd.freshB hb
theorem IsS76.kept {w0 W : World} {g : Nat} {f0 : List Int} {f1 : Int} {f2 : Int} {W1 : World} {S : Nat → Prop} (h : IsS76 w0 W g f0 f1 f2) (hk : Kept W W1 S) (hne : ¬ S g) : IsS76 w0 W1 g f0 f1 f2 := by
  obtain ⟨A0, c0, hb, hg, hr0⟩ := h
  exact ⟨A0, c0, blk_kept hb hk hne, hg, hr0⟩
theorem IsS76.below {w0 W : World} {g : Nat} {f0 : List Int} {f1 : Int} {f2 : Int} {W1 : World} (h : IsS76 w0 W g f0 f1 f2) (hw : Below W.heap.size W W1) : IsS76 w0 W1 g f0 f1 f2 := h.grown (grown_of_below hw none) Z596
theorem IsS76.alloc {w0 W : World} {g : Nat} {f0 : List Int} {f1 : Int} {f2 : Int} (h : IsS76 w0 W g f0 f1 f2) (o : Obj) : IsS76 w0 (W.alloc o) g f0 f1 f2 := h.below (below_alloc (Below.refl _ _) o)
theorem IsS76.drewN {w0 W : World} {g : Nat} {f0 : List Int} {f1 : Int} {f2 : Int} (h : IsS76 w0 W g f0 f1 f2) (m : Nat) : IsS76 w0 (W.drewN m) g f0 f1 f2 := h
theorem IsS76.drew {w0 W : World} {g : Nat} {f0 : List Int} {f1 : Int} {f2 : Int} (h : IsS76 w0 W g f0 f1 f2) : IsS76 w0 W.drew g f0 f1 f2 := h
theorem IsS76.at_ {w0 W : World} {g : Nat} {f0 : List Int} {f1 : Int} {f2 : Int} {w' : World} {m : Nat} (hq : W.drewN m = w') (h : IsS76 w0 W g f0 f1 f2) : IsS76 w0 w' g f0 f1 f2 := by subst hq; exact IsS76.drewN h m
theorem IsS76.apart {w0 W : World} {g : Nat} {f0 : List Int} {f1 : Int} {f2 : Int} {α : Type} {d : Kd α} {e : Nat} {base : Nat} {ok : Nat → Prop} {v : Value} {xs : List α} (h : IsS76 w0 W g f0 f1 f2) (ho : d.R e W base ok v xs) (ht : ∀ q, q ∈ e :: d.E → q ≠ 76) : d.R e W base (fun k => ok k ∧ k ≠ g) v xs := by
  obtain ⟨A0, c0, hb, hg, hr0⟩ := h
  exact Kd.R_types ho hb ht
theorem IsS76.own_ne {w0 W : World} {g : Nat} {f0 : List Int} {f1 : Int} {f2 : Int} {α : Type} {d : Kd α} {e : Nat} {base : Nat} {ok : Nat → Prop} {v : Value} {xs : List α} (h : IsS76 w0 W g f0 f1 f2) (ho : d.R e W base ok v xs) (ht : e ≠ 76) : some g ≠ v.ownBlock := by
  obtain ⟨A0, c0, hb, hg, hr0⟩ := h
  exact Kd.R_ne ho hb ht
theorem IsS76.apartQ {w0 W : World} {g : Nat} {f0 : List Int} {f1 : Int} {f2 : Int} {α : Type} {d : Kd α} {e : Nat} {base : Nat} {ok : Nat → Prop} {v : Value} {xs : List α} (h : IsS76 w0 W g f0 f1 f2) (ho : d.Q e W base ok v xs) (ht : ∀ q, q ∈ e :: d.E → q ≠ 76) : d.Q e W base (fun k => ok k ∧ k ≠ g) v xs := by
  obtain ⟨A0, c0, hb, hg, hr0⟩ := h
  exact Kd.Q_types ho hb ht
theorem IsS76.own_neQ {w0 W : World} {g : Nat} {f0 : List Int} {f1 : Int} {f2 : Int} {α : Type} {d : Kd α} {e : Nat} {base : Nat} {ok : Nat → Prop} {v : Value} {xs : List α} (h : IsS76 w0 W g f0 f1 f2) (ho : d.Q e W base ok v xs) (ht : e ≠ 76) : some g ≠ v.ownBlock := by
  obtain ⟨A0, c0, hb, hg, hr0⟩ := h
  exact Kd.Q_ne ho hb ht
theorem IsS76.apartS {w0 W : World} {g : Nat} {f0 : List Int} {f1 : Int} {f2 : Int} {α : Type} {d : Kd α} {e : Nat} {base : Nat} {ok : Nat → Prop} {v : Value} {xs : List α} (h : IsS76 w0 W g f0 f1 f2) (ho : d.S e W base ok v xs) (ht : ∀ q, q ∈ e :: d.E → q ≠ 76) : d.S e W base (fun k => ok k ∧ k ≠ g) v xs := by
  obtain ⟨A0, c0, hb, hg, hr0⟩ := h
  exact Kd.S_types ho hb ht
theorem IsS76.own_neS {w0 W : World} {g : Nat} {f0 : List Int} {f1 : Int} {f2 : Int} {α : Type} {d : Kd α} {e : Nat} {base : Nat} {ok : Nat → Prop} {v : Value} {xs : List α} (h : IsS76 w0 W g f0 f1 f2) (ho : d.S e W base ok v xs) (ht : e ≠ 76) : some g ≠ v.ownBlock := by
  obtain ⟨A0, c0, hb, hg, hr0⟩ := h
  exact Kd.S_ne ho hb ht
theorem IsS76.lt {w0 W : World} {g : Nat} {f0 : List Int} {f1 : Int} {f2 : Int} (h : IsS76 w0 W g f0 f1 f2) : g < W.heap.size := by
  obtain ⟨A0, c0, hb, hg, hr0⟩ := h
  exact blk_lt hb
theorem IsS76.ge {w0 W : World} {g : Nat} {f0 : List Int} {f1 : Int} {f2 : Int} (h : IsS76 w0 W g f0 f1 f2) : w0.heap.size ≤ g := by
  obtain ⟨A0, c0, hb, hg, hr0⟩ := h
  exact hg
theorem IsS76.ne_blk {w0 W : World} {g : Nat} {f0 : List Int} {f1 : Int} {f2 : Int} {a : Nat} {cs : Array Value} {t : TypeId} {fr : Nat × Nat} (h : IsS76 w0 W g f0 f1 f2) (hb2 : W.heap[a]? = some (.cells cs t fr)) (ht : t ≠ 76) : g ≠ a := by
  obtain ⟨A0, c0, hb, hg, hr0⟩ := h
  rintro rfl
  rw [hb] at hb2
  injection hb2 with hb2
  injection hb2 with _ ht2
  exact ht ht2.symm
theorem IsS76.far {w0 W : World} {g : Nat} {f0 : List Int} {f1 : Int} {f2 : Int} {p : Addr} (h : IsS76 w0 W g f0 f1 f2) (hne : g ≠ p.block) (u : Value) : IsS76 w0 (W.setCell p u) g f0 f1 f2 := by
  obtain ⟨A0, c0, hb, hg, hr0⟩ := h
  exact ⟨A0, c0, blk_far hb hne u, hg, hr0⟩
theorem cellS76_0 {W : World} {g : Nat} {A0 : Option Addr} {c0 : Nat} {f0 : List Int} {f1 : Int} {f2 : Int} (h : W.heap[g]? = some (.cells #[.slice A0 f0.length c0, .int .i64 f1, .int .i64 f2] 76 (0, 0))) : W.cell? ⟨g, 0, none⟩ = some (.slice A0 f0.length c0) := (blk_cell h 0).trans rfl
theorem cellS76_1 {W : World} {g : Nat} {A0 : Option Addr} {c0 : Nat} {f0 : List Int} {f1 : Int} {f2 : Int} (h : W.heap[g]? = some (.cells #[.slice A0 f0.length c0, .int .i64 f1, .int .i64 f2] 76 (0, 0))) : W.cell? ⟨g, 1, none⟩ = some (.int .i64 f1) := (blk_cell h 1).trans rfl
theorem IsS76.set_1 {w0 W : World} {g : Nat} {f0 : List Int} {f1 : Int} {f2 : Int} (h : IsS76 w0 W g f0 f1 f2) (x : Int) : IsS76 w0 (W.setCell ⟨g, 1, none⟩ (.int .i64 x)) g f0 x f2 := by
  obtain ⟨A0, c0, hb, hg, hr0⟩ := h
  exact ⟨A0, c0, by simpa using blk_set hb 1 (.int .i64 x), hg, hr0⟩
theorem cellS76_2 {W : World} {g : Nat} {A0 : Option Addr} {c0 : Nat} {f0 : List Int} {f1 : Int} {f2 : Int} (h : W.heap[g]? = some (.cells #[.slice A0 f0.length c0, .int .i64 f1, .int .i64 f2] 76 (0, 0))) : W.cell? ⟨g, 2, none⟩ = some (.int .i64 f2) := (blk_cell h 2).trans rfl
theorem IsS76.set_2 {w0 W : World} {g : Nat} {f0 : List Int} {f1 : Int} {f2 : Int} (h : IsS76 w0 W g f0 f1 f2) (x : Int) : IsS76 w0 (W.setCell ⟨g, 2, none⟩ (.int .i64 x)) g f0 f1 x := by
  obtain ⟨A0, c0, hb, hg, hr0⟩ := h
  exact ⟨A0, c0, by simpa using blk_set hb 2 (.int .i64 x), hg, hr0⟩
theorem IsS76.new (w0 W : World) (A0 : Option Addr) (c0 : Nat) (f0 : List Int) (f1 : Int) (f2 : Int) (hB : Below w0.heap.size w0 W) (hr0 : Kd.C (Kd.int .u8) w0 A0 f0.length f0) : IsS76 w0 (W.alloc (.cells #[.slice A0 f0.length c0, .int .i64 f1, .int .i64 f2] 76)) W.heap.size f0 f1 f2 := ⟨A0, c0, by simpa using heap_alloc_new W _, hB.size, hr0⟩

/-! ### spec_l1New: function 28 -/
def spec_l1New.l0 : Nat → List Int → Int → Int → Option (List Int × Int × Int)
  | 0,_,_,_ => none
  | k + 1,x0,x3,x4 => if x4 < (x0.length : Int) then (if x4 < 4000 then (if 0 ≤ x4 then (spec_l1New.l0 k x0 (Go.bits .and .i64 (wrap64 ((wrap64 ((wrap64 (x3 * 131)) + (wrap64 (rd x0 x4)))) + 7)) 1073741823) (wrap64 (x4 + 1))) else (none)) else (some (x0,0,x3))) else (some (x0,0,x3))
def spec_l1New.f (k : Nat) (l0 : List Int) : Option (List Int × Int × Int) := spec_l1New.l0 k l0 (wrap64 (28507 + (l0.length : Int))) 0
theorem spec_l1New.mono_l : ∀ k,(∀ y0 y1 y2,LeO (spec_l1New.l0 k y0 y1 y2) (spec_l1New.l0 (k + 1) y0 y1 y2))
  | 0 => fun _ _ _ r h => by simp [spec_l1New.l0] at h
  | k + 1 => by
    have ih0 := spec_l1New.mono_l k
    · intro y0 y1 y2
      unfold spec_l1New.l0
      repeat' first
      | (with_reducible exact ih0 _ _ _)
      | (with_reducible exact LeO.refl _)
      | (with_reducible exact LeO.none _)
      | (with_reducible refine LeO.ite ?_ ?_)
      | (with_reducible refine LeO.bind ?_ (fun _ => ?_))
      | exact ih0 _ _ _
      | exact LeO.none _
      | refine LeO.ite ?_ ?_
      | refine LeO.bind ?_ (fun _ => ?_)
theorem spec_l1New.mono : ∀ a0 k,LeO (spec_l1New.f k a0) (spec_l1New.f (k + 1) a0) := by
  intro a0 k
  have ih0 := spec_l1New.mono_l k
  unfold spec_l1New.f
  repeat' first
      | (with_reducible exact ih0 _ _ _)
      | (with_reducible exact LeO.refl _)
      | (with_reducible exact LeO.none _)
      | (with_reducible refine LeO.ite ?_ ?_)
      | (with_reducible refine LeO.bind ?_ (fun _ => ?_))
      | exact ih0 _ _ _
      | exact LeO.none _
      | refine LeO.ite ?_ ?_
      | refine LeO.bind ?_ (fun _ => ?_)
set_option maxHeartbeats 8000000 in
set_option maxRecDepth 100000 in
theorem spec_l1New.calls (k : Nat) (A0 : Option Addr) (c0 : Nat) (l0 : List Int) (r1 : List Int) (r2 : Int) (r3 : Int) (w0 w : World) (hB : Below w0.heap.size w0 w) (hr0 : Kd.C (Kd.int .u8) w0 A0 l0.length l0) (hc0 : l0.length ≤ c0) (h : spec_l1New.f k l0 = some (r1,r2,r3)) :
    Calls Try.prog 28 #[.slice A0 l0.length c0] w fun e w' => ∃ g_ : Nat,e = .returned (.pointer (some ⟨g_,0,none⟩)) ∧ IsS76 w0 w' g_ r1 r2 r3 ∧ Below w0.heap.size w0 w' ∧ Below w.heap.size w w' := by
  have hu76 := Try.underlying76
  have HR0 := Aside0.mk hr0
  have HC0 := Aside0.mk hc0
  clear hr0 hc0
  have HBW := Aside0.mk (Below.refl w.heap.size w)
  have HW0 := Aside0.mk hB.size
  have HB := Aside0.mk hB
  clear hB
  have H : (spec_l1New.l0 k l0 (wrap64 (28507 + (l0.length : Int))) 0) = some (r1,r2,r3) := h
  clear h
  have H' := Aside0.mk H
  clear H
  go_enter Try.func28,Try.ntmps28
  go_wp2
  go_loopg [3,4] k (fun kq v3 v4 w' => ∃ (x3_1 : Int) (x4_1 : Int),v3 = .int .i64 x3_1 ∧ v4 = .int .i64 x4_1 ∧ Aside0 (spec_l1New.l0 kq l0 x3_1 x4_1 = some (r1,r2,r3)) ∧ Aside0 (kq ≤ k) ∧ Aside0 (Below w0.heap.size w0 w') ∧ Aside0 (Below w.heap.size w w'))
  case atStart => exact ⟨(wrap64 (28507 + (l0.length : Int))),(0),Z514,Z514,H',⟨Nat.le_refl _⟩,⟨Z486⟩,⟨Z485⟩⟩
  case round =>
    clear H'
    obtain ⟨x3_1,x4_1,rfl,rfl,HA,HK1,HB,HBW⟩ := hrel
    cases gk with
    | zero => exact absurd HA.out (by simp [spec_l1New.l0])
    | succ k1 =>
      have H := HA.out
      clear HA
      simp only [spec_l1New.l0] at H
      by_cases c2 : x4_1 < (l0.length : Int)
      · rw [if_pos c2] at H
        have c2b0 : decide (x4_1 < (l0.length : Int)) = true := decide_eq_true c2
        clear c2
        by_cases c3 : x4_1 < 4000
        · rw [if_pos c3] at H
          have c3b0 : decide (x4_1 < 4000) = true := decide_eq_true c3
          clear c3
          by_cases c4 : 0 ≤ x4_1
          · rw [if_pos c4] at H
            have c4b0 : decide (0 ≤ x4_1) = true := decide_eq_true c4
            clear c4
            have H' := Aside0.mk H
            clear H
            have p458 : 0 ≤ (x4_1 : Int) := of_decide_eq_true Z513
            have q458 : x4_1 < (l0.length : Int) := of_decide_eq_true Z513
            obtain ⟨ad458,e458,hx458_0⟩ := Kd.at_int HR0.out x4_1 p458 q458
            cases e458
            replace hx458_0 := pw_cell_below HB.out hx458_0
            replace p458 := eq_true p458
            replace q458 := eq_true q458
            go_wp2
            go_roundg k1
            case measure => have := HK1.out;omega
            case rel => exact ⟨(Go.bits .and .i64 (wrap64 ((wrap64 ((wrap64 (x3_1 * 131)) + (wrap64 (rd l0 x4_1)))) + 7)) 1073741823),(wrap64 (x4_1 + 1)),Z514,Z514,H',⟨by have := HK1.out;omega⟩,⟨Z486⟩,⟨Z485⟩⟩
          · rw [if_neg c4] at H
            exact absurd H Z596
        · rw [if_neg c3] at H
          have c3b0 : decide (x4_1 < 4000) = false := decide_eq_false c3
          clear c3
          simp only [Option.some.injEq,Prod.mk.injEq] at H
          obtain ⟨rfl,rfl,rfl⟩ := H
          go_wp2_with (first | ((with_reducible refine gate_dst (N := 31) rfl ?_);refine box_event ?hg (N := 31) ?hd (cs := #[.slice A0 l0.length c0,.int .i64 0,.int .i64 x3_1]) (t := 76) ?hr ?_;(case hd => rfl);(case hg => rfl);(case hr => exact Z515);intro gb459 hg w5 hbox hb;have n_ := jA (below_step HBW.out hb) (jA (below_step Z486 hb) (jA (hbox) (jA ((Z270 : w.heap.size ≤ gb459)) (Aside0.mk ((Nat.le_trans HW0.out (Z270 : w.heap.size ≤ gb459) : w0.heap.size ≤ gb459))))));clear HBW HB;obtain ⟨HBW,HB,BK459,GW459,GE459⟩ := n_;clear hb hbox hg))
          go_ret
          exact ⟨_,rfl,(show IsS76 w0 _ gb459 l0 0 x3_1 from ⟨_,_,by refine bP ?_;exact BK459.out,GE459.out,HR0.out⟩),by repeat (first | (with_reducible first | exact HB.out | apply below_alloc | apply pw_below_drewN | apply below_drew1 | refine below_set ?_ GE459.out) | exact HB.out),by repeat (first | (with_reducible first | exact HBW.out | apply below_alloc | apply pw_below_drewN | apply below_drew1 | refine below_set ?_ GW459.out) | exact HBW.out)⟩
      · rw [if_neg c2] at H
        have c2b0 : decide (x4_1 < (l0.length : Int)) = false := decide_eq_false c2
        clear c2
        simp only [Option.some.injEq,Prod.mk.injEq] at H
        obtain ⟨rfl,rfl,rfl⟩ := H
        go_wp2_with (first | ((with_reducible refine gate_dst (N := 31) rfl ?_);refine box_event ?hg (N := 31) ?hd (cs := #[.slice A0 l0.length c0,.int .i64 0,.int .i64 x3_1]) (t := 76) ?hr ?_;(case hd => rfl);(case hg => rfl);(case hr => exact Z515);intro gb460 hg w6 hbox hb;have n_ := jA (below_step HBW.out hb) (jA (below_step Z486 hb) (jA (hbox) (jA ((Z270 : w.heap.size ≤ gb460)) (Aside0.mk ((Nat.le_trans HW0.out (Z270 : w.heap.size ≤ gb460) : w0.heap.size ≤ gb460))))));clear HBW HB;obtain ⟨HBW,HB,BK460,GW460,GE460⟩ := n_;clear hb hbox hg))
        go_ret
        exact ⟨_,rfl,(show IsS76 w0 _ gb460 l0 0 x3_1 from ⟨_,_,by refine bP ?_;exact BK460.out,GE460.out,HR0.out⟩),by repeat (first | (with_reducible first | exact HB.out | apply below_alloc | apply pw_below_drewN | apply below_drew1 | refine below_set ?_ GE460.out) | exact HB.out),by repeat (first | (with_reducible first | exact HBW.out | apply below_alloc | apply pw_below_drewN | apply below_drew1 | refine below_set ?_ GW460.out) | exact HBW.out)⟩

/-! ### spec_l1Byte: function 63 -/
def spec_l1Byte.f (s0_0 : List Int) (s0_1 : Int) (s0_2 : Int) : Option (Int × Int × Int) := if s0_1 < (s0_0.length : Int) then (if 0 ≤ s0_1 then (some (Go.bits .and .i64 (wrap64 ((Go.bits .and .i64 (Go.bits .xor .i64 ((wrap64 ((wrap64 (s0_2 * 6364136223846793005)) + 1442695040888963407)) / 8589934592) ((wrap64 ((wrap64 (s0_2 * 6364136223846793005)) + 1442695040888963407)) / 35184372088832)) 255) + (wrap64 (rd s0_0 s0_1)))) 255,wrap64 (s0_1 + 1),wrap64 ((wrap64 (s0_2 * 6364136223846793005)) + 1442695040888963407))) else (none)) else (some (Go.bits .and .i64 (Go.bits .xor .i64 ((wrap64 ((wrap64 (s0_2 * 6364136223846793005)) + 1442695040888963407)) / 8589934592) ((wrap64 ((wrap64 (s0_2 * 6364136223846793005)) + 1442695040888963407)) / 35184372088832)) 255,s0_1,wrap64 ((wrap64 (s0_2 * 6364136223846793005)) + 1442695040888963407)))
set_option maxHeartbeats 8000000 in
set_option maxRecDepth 100000 in
theorem spec_l1Byte.calls (g : Nat) (s0_0 : List Int) (s0_1 : Int) (s0_2 : Int) (r1 : Int) (r2 : Int) (r3 : Int) (w0 w : World) (hI : IsS76 w0 w g s0_0 s0_1 s0_2) (hB : Below w0.heap.size w0 w) (h : spec_l1Byte.f s0_0 s0_1 s0_2 = some (r1,r2,r3)) :
    Calls Try.prog 63 #[.pointer (some ⟨g,0,none⟩)] w fun e w' => e = .returned (.int .i64 r1) ∧ IsS76 w0 w' g s0_0 r2 r3 ∧ Below w0.heap.size w0 w' ∧ KeepBut w w' g none := by
  have HI0 := Aside0.mk hI
  have HK := Aside0.mk (KeepBut.refl w g none)
  have HL := Aside0.mk hB.size
  clear hI
  have HW0 := Aside0.mk hB.size
  have HB := Aside0.mk hB
  clear hB
  have H : (if s0_1 < (s0_0.length : Int) then (if 0 ≤ s0_1 then (some (Go.bits .and .i64 (wrap64 ((Go.bits .and .i64 (Go.bits .xor .i64 ((wrap64 ((wrap64 (s0_2 * 6364136223846793005)) + 1442695040888963407)) / 8589934592) ((wrap64 ((wrap64 (s0_2 * 6364136223846793005)) + 1442695040888963407)) / 35184372088832)) 255) + (wrap64 (rd s0_0 s0_1)))) 255,wrap64 (s0_1 + 1),wrap64 ((wrap64 (s0_2 * 6364136223846793005)) + 1442695040888963407))) else (none)) else (some (Go.bits .and .i64 (Go.bits .xor .i64 ((wrap64 ((wrap64 (s0_2 * 6364136223846793005)) + 1442695040888963407)) / 8589934592) ((wrap64 ((wrap64 (s0_2 * 6364136223846793005)) + 1442695040888963407)) / 35184372088832)) 255,s0_1,wrap64 ((wrap64 (s0_2 * 6364136223846793005)) + 1442695040888963407)))) = some (r1,r2,r3) := h
  clear h
  by_cases c2 : s0_1 < (s0_0.length : Int)
  · rw [if_pos c2] at H
    have c2b0 : decide (s0_1 < (s0_0.length : Int)) = true := decide_eq_true c2
    clear c2
    by_cases c3 : 0 ≤ s0_1
    · rw [if_pos c3] at H
      have c3b0 : decide (0 ≤ s0_1) = true := decide_eq_true c3
      clear c3
      simp only [Option.some.injEq,Prod.mk.injEq] at H
      obtain ⟨rfl,rfl,rfl⟩ := H
      obtain ⟨ASz4_0,cSz4_0,HGz4,hgz4,HSz4_0⟩ := HI0.out
      have hcz4_0 := cellS76_0 HGz4
      have hcz4_1 := cellS76_1 HGz4
      have hcz4_2 := cellS76_2 HGz4
      have hfz4_1 := blk_frozen HGz4 1
      have hfz4_2 := blk_frozen HGz4 2
      clear HGz4 hgz4
      have p461 : 0 ≤ (s0_1 : Int) := of_decide_eq_true Z513
      have q461 : s0_1 < (s0_0.length : Int) := of_decide_eq_true Z513
      obtain ⟨ad461,e461,hx461_0⟩ := Kd.at_int HSz4_0 s0_1 p461 q461
      cases e461
      have hn461_0 : ad461.block ≠ g := Nat.ne_of_lt (Nat.lt_of_lt_of_le (by have := World.block_lt_of_cell? _ _ hx461_0;first | rwa [add_block] at this | exact this) (IsS76.ge HI0.out))
      replace hx461_0 := pw_cell_below HB.out hx461_0
      replace hx461_0 := (cell_far (p := ⟨g,2,none⟩) (by first | (rw [add_block];exact hn461_0) | (show (Addr.add _ _).block ≠ _;rw [add_block];exact hn461_0) | exact hn461_0) (.int .i64 (wrap64 ((wrap64 (s0_2 * 6364136223846793005)) + 1442695040888963407)))).trans hx461_0
      (try have hy461_0 := fun (n_ : Nat) => (show (((w.drewN n_).setCell ⟨g,2,none⟩ (.int .i64 (wrap64 ((wrap64 (s0_2 * 6364136223846793005)) + 1442695040888963407))))).cell? _ = some _ from hx461_0))
      clear hn461_0
      replace p461 := eq_true p461
      replace q461 := eq_true q461
      go_enter Try.func63,Try.ntmps63
      go_wp2
      repeat (go_quiet (fail);try go_wp2)
      go_ret
      exact ⟨Z400,Z228,Z227,Z484⟩
    · rw [if_neg c3] at H
      exact absurd H Z596
  · rw [if_neg c2] at H
    have c2b0 : decide (s0_1 < (s0_0.length : Int)) = false := decide_eq_false c2
    clear c2
    simp only [Option.some.injEq,Prod.mk.injEq] at H
    obtain ⟨rfl,rfl,rfl⟩ := H
    obtain ⟨ASz5_0,cSz5_0,HGz5,hgz5,HSz5_0⟩ := HI0.out
    have hcz5_0 := cellS76_0 HGz5
    have hcz5_1 := cellS76_1 HGz5
    have hcz5_2 := cellS76_2 HGz5
    have hfz5_1 := blk_frozen HGz5 1
    have hfz5_2 := blk_frozen HGz5 2
    clear HGz5 hgz5
    go_enter Try.func63,Try.ntmps63
    go_wp2
    repeat (go_quiet (fail);try go_wp2)
    go_ret
    exact ⟨Z400,Z228,Z227,Z484⟩

/-! ### spec_l1Below: function 44 -/
def spec_l1Below.f (s0_0 : List Int) (s0_1 : Int) (s0_2 : Int) (a1 : Int) : Option (Int × Int × Int) := if a1 ≤ 0 then (some (0,s0_1,s0_2)) else (if a1 ≤ 256 then ((spec_l1Byte.f s0_0 s0_1 s0_2).bind fun bt462 => (if a1 = 0 then (none) else (some (Int.tmod bt462.1 a1,bt462.2.1,bt462.2.2)))) else ((spec_l1Byte.f s0_0 s0_1 s0_2).bind fun bt465 => ((spec_l1Byte.f s0_0 bt465.2.1 bt465.2.2).bind fun bt468 => ((spec_l1Byte.f s0_0 bt468.2.1 bt468.2.2).bind fun bt471 => ((spec_l1Byte.f s0_0 bt471.2.1 bt471.2.2).bind fun bt474 => (if a1 = 0 then (none) else (some (Int.tmod (wrap64 ((wrap64 ((wrap64 ((wrap64 (bt465.1 * 16777216)) + (wrap64 (bt468.1 * 65536)))) + (wrap64 (bt471.1 * 256)))) + bt474.1)) a1,bt474.2.1,bt474.2.2))))))))
set_option maxHeartbeats 8000000 in
set_option maxRecDepth 100000 in
theorem spec_l1Below.calls (g : Nat) (s0_0 : List Int) (s0_1 : Int) (s0_2 : Int) (a1 : Int) (r1 : Int) (r2 : Int) (r3 : Int) (w0 w : World) (hI : IsS76 w0 w g s0_0 s0_1 s0_2) (hB : Below w0.heap.size w0 w) (h : spec_l1Below.f s0_0 s0_1 s0_2 a1 = some (r1,r2,r3)) :
    Calls Try.prog 44 #[.pointer (some ⟨g,0,none⟩),.int .i64 a1] w fun e w' => e = .returned (.int .i64 r1) ∧ IsS76 w0 w' g s0_0 r2 r3 ∧ Below w0.heap.size w0 w' ∧ KeepBut w w' g none := by
  have HI0 := Aside0.mk hI
  have HK := Aside0.mk (KeepBut.refl w g none)
  have HL := Aside0.mk hB.size
  clear hI
  have HW0 := Aside0.mk hB.size
  have HB := Aside0.mk hB
  clear hB
  have H : (if a1 ≤ 0 then (some (0,s0_1,s0_2)) else (if a1 ≤ 256 then ((spec_l1Byte.f s0_0 s0_1 s0_2).bind fun bt462 => (if a1 = 0 then (none) else (some (Int.tmod bt462.1 a1,bt462.2.1,bt462.2.2)))) else ((spec_l1Byte.f s0_0 s0_1 s0_2).bind fun bt465 => ((spec_l1Byte.f s0_0 bt465.2.1 bt465.2.2).bind fun bt468 => ((spec_l1Byte.f s0_0 bt468.2.1 bt468.2.2).bind fun bt471 => ((spec_l1Byte.f s0_0 bt471.2.1 bt471.2.2).bind fun bt474 => (if a1 = 0 then (none) else (some (Int.tmod (wrap64 ((wrap64 ((wrap64 ((wrap64 (bt465.1 * 16777216)) + (wrap64 (bt468.1 * 65536)))) + (wrap64 (bt471.1 * 256)))) + bt474.1)) a1,bt474.2.1,bt474.2.2))))))))) = some (r1,r2,r3) := h
  clear h
  by_cases c3 : a1 ≤ 0
  · rw [if_pos c3] at H
    have c3b0 : decide (a1 ≤ 0) = true := decide_eq_true c3
    clear c3
    simp only [Option.some.injEq,Prod.mk.injEq] at H
    obtain ⟨rfl,rfl,rfl⟩ := H
    go_enter Try.func44,Try.ntmps44
    go_wp2
    go_ret
    exact ⟨Z400,Z228,Z227,Z484⟩
  · rw [if_neg c3] at H
    have c3b0 : decide (a1 ≤ 0) = false := decide_eq_false c3
    clear c3
    by_cases c4 : a1 ≤ 256
    · rw [if_pos c4] at H
      have c4b0 : decide (a1 ≤ 256) = true := decide_eq_true c4
      clear c4
      obtain ⟨⟨t462,t463,t464⟩,A50,H⟩ := Option.bind_eq_some_iff.mp H
      try dsimp only at H
      have A5 := Aside0.mk A50
      clear A50
      by_cases c6 : a1 = 0
      · rw [if_pos c6] at H
        exact absurd H Z596
      · rw [if_neg c6] at H
        have c6b0 : (a1 == 0) = false := beq_eq_false_iff_ne.mpr c6
        have c6b1 : (a1 != 0) = true := bne_iff_ne.mpr c6
        simp only [Option.some.injEq,Prod.mk.injEq] at H
        obtain ⟨rfl,rfl,rfl⟩ := H
        go_enter Try.func44,Try.ntmps44
        go_wp2_with (first | ((with_reducible refine gate_callee (f := 63) rfl ?_);refine goesL_ (some 14) rfl rfl Try.func63 Z580 rfl #[.pointer (some ⟨g,0,none⟩)] rfl Z395 ?_;(with_reducible refine (spec_l1Byte.calls g s0_0 s0_1 s0_2 t462 t463 t464 w0 _ ?side1 ?side2 A5.out).mono ?_);(case side1 => exact Z228);(case side2 => exact Z227);rintro e w7 ⟨rfl,hi,hb,hk⟩;refine ⟨_,rfl,?_⟩;have n_ := jA (KeepBut.trans Z484 hk (.inl rfl)) (jA (hb) (Aside0.mk (hi)));clear HK HB HI0;obtain ⟨HK,HB,HI0⟩ := n_;(try clear hb);(try clear hb2);(try clear hk);(try clear hi)))
        go_ret
        exact ⟨Z400,Z228,Z227,Z484⟩
    · rw [if_neg c4] at H
      have c4b0 : decide (a1 ≤ 256) = false := decide_eq_false c4
      clear c4
      obtain ⟨⟨t465,t466,t467⟩,A80,H⟩ := Option.bind_eq_some_iff.mp H
      try dsimp only at H
      have A8 := Aside0.mk A80
      clear A80
      obtain ⟨⟨t468,t469,t470⟩,A90,H⟩ := Option.bind_eq_some_iff.mp H
      try dsimp only at H
      have A9 := Aside0.mk A90
      clear A90
      obtain ⟨⟨t471,t472,t473⟩,A100,H⟩ := Option.bind_eq_some_iff.mp H
      try dsimp only at H
      have A10 := Aside0.mk A100
      clear A100
      obtain ⟨⟨t474,t475,t476⟩,A110,H⟩ := Option.bind_eq_some_iff.mp H
      try dsimp only at H
      have A11 := Aside0.mk A110
      clear A110
      by_cases c12 : a1 = 0
      · rw [if_pos c12] at H
        exact absurd H Z596
      · rw [if_neg c12] at H
        have c12b0 : (a1 == 0) = false := beq_eq_false_iff_ne.mpr c12
        have c12b1 : (a1 != 0) = true := bne_iff_ne.mpr c12
        simp only [Option.some.injEq,Prod.mk.injEq] at H
        obtain ⟨rfl,rfl,rfl⟩ := H
        go_enter Try.func44,Try.ntmps44
        go_wp2_with (first | ((with_reducible refine gate_callee (f := 63) rfl ?_);refine goesL_ (some 18) rfl rfl Try.func63 Z580 rfl #[.pointer (some ⟨g,0,none⟩)] rfl Z395 ?_;(with_reducible refine (spec_l1Byte.calls g s0_0 s0_1 s0_2 t465 t466 t467 w0 _ ?side1 ?side2 A8.out).mono ?_);(case side1 => exact Z228);(case side2 => exact Z227);rintro e w13 ⟨rfl,hi,hb,hk⟩;refine ⟨_,rfl,?_⟩;have n_ := jA (KeepBut.trans Z484 hk (.inl rfl)) (jA (hb) (Aside0.mk (hi)));clear HK HB HI0;obtain ⟨HK,HB,HI0⟩ := n_;(try clear hb);(try clear hb2);(try clear hk);(try clear hi)) | ((with_reducible refine gate_callee (f := 63) rfl ?_);refine goesL_ (some 20) rfl rfl Try.func63 Z580 rfl #[.pointer (some ⟨g,0,none⟩)] rfl Z395 ?_;(with_reducible refine (spec_l1Byte.calls g s0_0 t466 t467 t468 t469 t470 w0 _ ?side1 ?side2 A9.out).mono ?_);(case side1 => exact Z228);(case side2 => exact Z227);rintro e w14 ⟨rfl,hi,hb,hk⟩;refine ⟨_,rfl,?_⟩;have n_ := jA (KeepBut.trans Z484 hk (.inl rfl)) (jA (hb) (Aside0.mk (hi)));clear HK HB HI0;obtain ⟨HK,HB,HI0⟩ := n_;(try clear hb);(try clear hb2);(try clear hk);(try clear hi)) | ((with_reducible refine gate_callee (f := 63) rfl ?_);refine goesL_ (some 22) rfl rfl Try.func63 Z580 rfl #[.pointer (some ⟨g,0,none⟩)] rfl Z395 ?_;(with_reducible refine (spec_l1Byte.calls g s0_0 t469 t470 t471 t472 t473 w0 _ ?side1 ?side2 A10.out).mono ?_);(case side1 => exact Z228);(case side2 => exact Z227);rintro e w15 ⟨rfl,hi,hb,hk⟩;refine ⟨_,rfl,?_⟩;have n_ := jA (KeepBut.trans Z484 hk (.inl rfl)) (jA (hb) (Aside0.mk (hi)));clear HK HB HI0;obtain ⟨HK,HB,HI0⟩ := n_;(try clear hb);(try clear hb2);(try clear hk);(try clear hi)) | ((with_reducible refine gate_callee (f := 63) rfl ?_);refine goesL_ (some 24) rfl rfl Try.func63 Z580 rfl #[.pointer (some ⟨g,0,none⟩)] rfl Z395 ?_;(with_reducible refine (spec_l1Byte.calls g s0_0 t472 t473 t474 t475 t476 w0 _ ?side1 ?side2 A11.out).mono ?_);(case side1 => exact Z228);(case side2 => exact Z227);rintro e w16 ⟨rfl,hi,hb,hk⟩;refine ⟨_,rfl,?_⟩;have n_ := jA (KeepBut.trans Z484 hk (.inl rfl)) (jA (hb) (Aside0.mk (hi)));clear HK HB HI0;obtain ⟨HK,HB,HI0⟩ := n_;(try clear hb);(try clear hb2);(try clear hk);(try clear hi)))
        go_ret
        exact ⟨Z400,Z228,Z227,Z484⟩

/-! ### spec_l1PickInt: function 30 -/
def spec_l1PickInt.f (s0_0 : List Int) (s0_1 : Int) (s0_2 : Int) (l1 : List Int) : Option (Int × Int × Int) := (spec_l1Below.f s0_0 s0_1 s0_2 (l1.length : Int)).bind fun bt477 => (if 0 ≤ bt477.1 then (if bt477.1 < (l1.length : Int) then (some (rd l1 bt477.1,bt477.2.1,bt477.2.2)) else (none)) else (none))
set_option maxHeartbeats 8000000 in
set_option maxRecDepth 100000 in
theorem spec_l1PickInt.calls (g : Nat) (s0_0 : List Int) (s0_1 : Int) (s0_2 : Int) (A1 : Option Addr) (c1 : Nat) (l1 : List Int) (r1 : Int) (r2 : Int) (r3 : Int) (w0 w : World) (hI : IsS76 w0 w g s0_0 s0_1 s0_2) (hB : Below w0.heap.size w0 w) (hr1 : Kd.C (Kd.int .i64) w A1 l1.length l1) (hc1 : l1.length ≤ c1) (hf1 : ∀ ad,A1 = some ad → 0 < l1.length → ad.block ≠ g) (h : spec_l1PickInt.f s0_0 s0_1 s0_2 l1 = some (r1,r2,r3)) :
    Calls Try.prog 30 #[.pointer (some ⟨g,0,none⟩),.slice A1 l1.length c1] w fun e w' => e = .returned (.int .i64 r1) ∧ IsS76 w0 w' g s0_0 r2 r3 ∧ Below w0.heap.size w0 w' ∧ KeepBut w w' g none := by
  have HR1 := Aside0.mk hr1
  have HC1 := Aside0.mk hc1
  clear hr1 hc1
  have HI0 := Aside0.mk hI
  have HK := Aside0.mk (KeepBut.refl w g none)
  have HL := Aside0.mk hB.size
  clear hI
  have HW0 := Aside0.mk hB.size
  have HB := Aside0.mk hB
  clear hB
  have H : ((spec_l1Below.f s0_0 s0_1 s0_2 (l1.length : Int)).bind fun bt477 => (if 0 ≤ bt477.1 then (if bt477.1 < (l1.length : Int) then (some (rd l1 bt477.1,bt477.2.1,bt477.2.2)) else (none)) else (none))) = some (r1,r2,r3) := h
  clear h
  obtain ⟨⟨t477,t478,t479⟩,A30,H⟩ := Option.bind_eq_some_iff.mp H
  try dsimp only at H
  have A3 := Aside0.mk A30
  clear A30
  by_cases c4 : 0 ≤ t477
  · rw [if_pos c4] at H
    have c4b0 : decide (0 ≤ t477) = true := decide_eq_true c4
    clear c4
    by_cases c5 : t477 < (l1.length : Int)
    · rw [if_pos c5] at H
      have c5b0 : decide (t477 < (l1.length : Int)) = true := decide_eq_true c5
      clear c5
      simp only [Option.some.injEq,Prod.mk.injEq] at H
      obtain ⟨rfl,rfl,rfl⟩ := H
      go_enter Try.func30,Try.ntmps30
      go_wp2_with (first | ((with_reducible refine gate_callee (f := 44) rfl ?_);refine goesL_ (some 9) rfl rfl Try.func44 Z580 rfl #[.pointer (some ⟨g,0,none⟩),.int .i64 (l1.length : Int)] rfl Z395 ?_;(with_reducible refine (spec_l1Below.calls g s0_0 s0_1 s0_2 (l1.length : Int) t477 t478 t479 w0 _ ?side1 ?side2 A3.out).mono ?_);(case side1 => exact Z228);(case side2 => exact Z227);rintro e w6 ⟨rfl,hi,hb,hk⟩;refine ⟨_,rfl,?_⟩;have n_ := jA (KeepBut.trans Z484 hk (.inl rfl)) (jA (hb) (Aside0.mk (hi)));clear HK HB HI0;obtain ⟨HK,HB,HI0⟩ := n_;(try clear hb);(try clear hb2);(try clear hk);(try clear hi);have p480 : 0 ≤ (t477 : Int) := of_decide_eq_true Z513;have q480 : t477 < (l1.length : Int) := of_decide_eq_true Z513;obtain ⟨ad480,e480,hx480_0⟩ := Kd.at_int HR1.out t477 p480 q480;cases e480;replace hx480_0 := keep_cell HK.out hx480_0 (by first | (rw [add_block];exact hf1 _ rfl (by omega)) | exact hf1 _ rfl (by omega) | exact hf1 ad480 rfl (by omega));replace p480 := eq_true p480;replace q480 := eq_true q480))
      go_ret
      exact ⟨Z400,Z228,Z227,Z484⟩
    · rw [if_neg c5] at H
      exact absurd H Z596
  · rw [if_neg c4] at H
    exact absurd H Z596

/-! ### spec_l1Once: function 52 -/
def spec_l1Once.f (s0_0 : List Int) (s0_1 : Int) (s0_2 : Int) (a1 : Int) : Option (Bool × Int × Int) := (spec_l1Below.f s0_0 s0_1 s0_2 a1).bind fun bt481 => (some ((bt481.1 == 0),bt481.2.1,bt481.2.2))
set_option maxHeartbeats 8000000 in
set_option maxRecDepth 100000 in
theorem spec_l1Once.calls (g : Nat) (s0_0 : List Int) (s0_1 : Int) (s0_2 : Int) (a1 : Int) (r1 : Bool) (r2 : Int) (r3 : Int) (w0 w : World) (hI : IsS76 w0 w g s0_0 s0_1 s0_2) (hB : Below w0.heap.size w0 w) (h : spec_l1Once.f s0_0 s0_1 s0_2 a1 = some (r1,r2,r3)) :
    Calls Try.prog 52 #[.pointer (some ⟨g,0,none⟩),.int .i64 a1] w fun e w' => e = .returned (.bool r1) ∧ IsS76 w0 w' g s0_0 r2 r3 ∧ Below w0.heap.size w0 w' ∧ KeepBut w w' g none := by
  have HI0 := Aside0.mk hI
  have HK := Aside0.mk (KeepBut.refl w g none)
  have HL := Aside0.mk hB.size
  clear hI
  have HW0 := Aside0.mk hB.size
  have HB := Aside0.mk hB
  clear hB
  have H : ((spec_l1Below.f s0_0 s0_1 s0_2 a1).bind fun bt481 => (some ((bt481.1 == 0),bt481.2.1,bt481.2.2))) = some (r1,r2,r3) := h
  clear h
  obtain ⟨⟨t481,t482,t483⟩,A30,H⟩ := Option.bind_eq_some_iff.mp H
  try dsimp only at H
  have A3 := Aside0.mk A30
  clear A30
  simp only [Option.some.injEq,Prod.mk.injEq] at H
  obtain ⟨rfl,rfl,rfl⟩ := H
  go_enter Try.func52,Try.ntmps52
  go_wp2_with (first | ((with_reducible refine gate_callee (f := 44) rfl ?_);refine goesL_ (some 7) rfl rfl Try.func44 Z580 rfl #[.pointer (some ⟨g,0,none⟩),.int .i64 a1] rfl Z395 ?_;(with_reducible refine (spec_l1Below.calls g s0_0 s0_1 s0_2 a1 t481 t482 t483 w0 _ ?side1 ?side2 A3.out).mono ?_);(case side1 => exact Z228);(case side2 => exact Z227);rintro e w4 ⟨rfl,hi,hb,hk⟩;refine ⟨_,rfl,?_⟩;have n_ := jA (KeepBut.trans Z484 hk (.inl rfl)) (jA (hb) (Aside0.mk (hi)));clear HK HB HI0;obtain ⟨HK,HB,HI0⟩ := n_;(try clear hb);(try clear hb2);(try clear hk);(try clear hi)))
  go_ret
  exact ⟨Z400,Z228,Z227,Z484⟩

/-! ### spec_l1Whole: function 73 -/
def spec_l1Whole.l0 : Nat → Int → Int → List Int → Int → Int → Option (Int × Int × Int)
  | 0,_,_,_,_,_ => none
  | k + 1,x3,x4,x1000,x1001,x1002 => if x4 < 8 then ((spec_l1Byte.f x1000 x1001 x1002).bind fun bt493 => (spec_l1Whole.l0 k (wrap64 ((wrap64 (x3 * 256)) + bt493.1)) (wrap64 (x4 + 1)) x1000 bt493.2.1 bt493.2.2)) else (some (x3,x1001,x1002))
def spec_l1Whole.f (k : Nat) (s0_0 : List Int) (s0_1 : Int) (s0_2 : Int) : Option (Int × Int × Int) := (spec_l1Below.f s0_0 s0_1 s0_2 4).bind fun bt484 => (if bt484.1 = 0 then ((spec_l1PickInt.f s0_0 bt484.2.1 bt484.2.2 (([0,1,(-1),9,10,999,1000,2147483647,(-2147483648),3037000499,3037000500,9223372036854775807,(-9223372036854775807),(-9223372036854775808)] : List Int))).bind fun bt490 => (some (bt490.1,bt490.2.1,bt490.2.2))) else (if bt484.1 = 1 then (spec_l1Whole.l0 k 0 0 s0_0 bt484.2.1 bt484.2.2) else (if bt484.1 = 2 then ((spec_l1Below.f s0_0 bt484.2.1 bt484.2.2 1000000).bind fun bt496 => (some (wrap64 (bt496.1 - 500000),bt496.2.1,bt496.2.2))) else ((spec_l1Below.f s0_0 bt484.2.1 bt484.2.2 41).bind fun bt499 => (some (wrap64 (bt499.1 - 20),bt499.2.1,bt499.2.2))))))
theorem spec_l1Whole.mono_l : ∀ k,(∀ y0 y1 y2 y3 y4,LeO (spec_l1Whole.l0 k y0 y1 y2 y3 y4) (spec_l1Whole.l0 (k + 1) y0 y1 y2 y3 y4))
  | 0 => fun _ _ _ _ _ r h => by simp [spec_l1Whole.l0] at h
  | k + 1 => by
    have ih0 := spec_l1Whole.mono_l k
    · intro y0 y1 y2 y3 y4
      unfold spec_l1Whole.l0
      repeat' first
      | (with_reducible exact ih0 _ _ _ _ _)
      | (with_reducible exact LeO.refl _)
      | (with_reducible exact LeO.none _)
      | (with_reducible refine LeO.ite ?_ ?_)
      | (with_reducible refine LeO.bind ?_ (fun _ => ?_))
      | exact ih0 _ _ _ _ _
      | exact LeO.none _
      | refine LeO.ite ?_ ?_
      | refine LeO.bind ?_ (fun _ => ?_)
theorem spec_l1Whole.mono : ∀ a0 a1 a2 k,LeO (spec_l1Whole.f k a0 a1 a2) (spec_l1Whole.f (k + 1) a0 a1 a2) := by
  intro a0 a1 a2 k
  have ih0 := spec_l1Whole.mono_l k
  unfold spec_l1Whole.f
  repeat' first
      | (with_reducible exact ih0 _ _ _ _ _)
      | (with_reducible exact LeO.refl _)
      | (with_reducible exact LeO.none _)
      | (with_reducible refine LeO.ite ?_ ?_)
      | (with_reducible refine LeO.bind ?_ (fun _ => ?_))
      | exact ih0 _ _ _ _ _
      | exact LeO.none _
      | refine LeO.ite ?_ ?_
      | refine LeO.bind ?_ (fun _ => ?_)
set_option maxHeartbeats 8000000 in
set_option maxRecDepth 100000 in
theorem spec_l1Whole.calls (k : Nat) (g : Nat) (s0_0 : List Int) (s0_1 : Int) (s0_2 : Int) (r1 : Int) (r2 : Int) (r3 : Int) (w0 w : World) (hI : IsS76 w0 w g s0_0 s0_1 s0_2) (hB : Below w0.heap.size w0 w) (h : spec_l1Whole.f k s0_0 s0_1 s0_2 = some (r1,r2,r3)) :
    Calls Try.prog 73 #[.pointer (some ⟨g,0,none⟩)] w fun e w' => e = .returned (.int .i64 r1) ∧ IsS76 w0 w' g s0_0 r2 r3 ∧ Below w0.heap.size w0 w' ∧ KeepBut w w' g none := by
  have HI0 := Aside0.mk hI
  have HK := Aside0.mk (KeepBut.refl w g none)
  have HL := Aside0.mk hB.size
  clear hI
  have HW0 := Aside0.mk hB.size
  have HB := Aside0.mk hB
  clear hB
  have H : ((spec_l1Below.f s0_0 s0_1 s0_2 4).bind fun bt484 => (if bt484.1 = 0 then ((spec_l1PickInt.f s0_0 bt484.2.1 bt484.2.2 (([0,1,(-1),9,10,999,1000,2147483647,(-2147483648),3037000499,3037000500,9223372036854775807,(-9223372036854775807),(-9223372036854775808)] : List Int))).bind fun bt490 => (some (bt490.1,bt490.2.1,bt490.2.2))) else (if bt484.1 = 1 then (spec_l1Whole.l0 k 0 0 s0_0 bt484.2.1 bt484.2.2) else (if bt484.1 = 2 then ((spec_l1Below.f s0_0 bt484.2.1 bt484.2.2 1000000).bind fun bt496 => (some (wrap64 (bt496.1 - 500000),bt496.2.1,bt496.2.2))) else ((spec_l1Below.f s0_0 bt484.2.1 bt484.2.2 41).bind fun bt499 => (some (wrap64 (bt499.1 - 20),bt499.2.1,bt499.2.2))))))) = some (r1,r2,r3) := h
  clear h
  obtain ⟨⟨t484,t485,t486⟩,A20,H⟩ := Option.bind_eq_some_iff.mp H
  try dsimp only at H
  have A2 := Aside0.mk A20
  clear A20
  by_cases c3 : t484 = 0
  · rw [if_pos c3] at H
    have c3b0 : (t484 == 0) = true := beq_iff_eq.mpr c3
    have c3b1 : (t484 != 0) = false := bne_eq_false_iff_eq.mpr c3
    clear c3
    obtain ⟨y487,hy487⟩ : ∃ y_ : List Int,y_ = (([0,1,(-1),9,10,999,1000,2147483647,(-2147483648),3037000499,3037000500,9223372036854775807,(-9223372036854775807),(-9223372036854775808)] : List Int)) := ⟨_,rfl⟩
    replace H : ((spec_l1PickInt.f s0_0 t485 t486 y487).bind fun bt490 => (some (bt490.1,bt490.2.1,bt490.2.2))) = some (r1,r2,r3) := by first | (rw [hy487];with_reducible exact H) | (have H2_ := (Option.bind_some _ _).symm.trans H;rw [hy487];with_reducible exact H2_) | (have H2_ := (Option.bind_some _ _).symm.trans H;with_reducible exact H2_) | with_reducible exact H | (rw [hy487];exact H) | exact H
    have Ny487 := Aside0.mk hy487
    clear hy487
    obtain ⟨⟨t490,t491,t492⟩,A40,H⟩ := Option.bind_eq_some_iff.mp H
    try dsimp only at H
    have A4 := Aside0.mk A40
    clear A40
    simp only [Option.some.injEq,Prod.mk.injEq] at H
    obtain ⟨rfl,rfl,rfl⟩ := H
    go_enter Try.func73,Try.ntmps73
    go_wp2_with (first | ((with_reducible refine gate_callee (f := 44) rfl ?_);refine goesL_ (some 6) rfl rfl Try.func44 Z580 rfl #[.pointer (some ⟨g,0,none⟩),.int .i64 4] rfl Z395 ?_;(with_reducible refine (spec_l1Below.calls g s0_0 s0_1 s0_2 4 t484 t485 t486 w0 _ ?side1 ?side2 A2.out).mono ?_);(case side1 => exact Z228);(case side2 => exact Z227);rintro e w5 ⟨rfl,hi,hb,hk⟩;refine ⟨_,rfl,?_⟩;have n_ := jA (KeepBut.trans Z484 hk (.inl rfl)) (jA (hb) (Aside0.mk (hi)));clear HK HB HI0;obtain ⟨HK,HB,HI0⟩ := n_;(try clear hb);(try clear hb2);(try clear hk);(try clear hi)) | ((with_reducible refine gate_dst (N := 10) rfl ?_);refine Kd.R_lit (Kd.int .i64) _ 3 ?hg (N := 10) ?hd (xs := ([0,1,(-1),9,10,999,1000,2147483647,(-2147483648),3037000499,3037000500,9223372036854775807,(-9223372036854775807),(-9223372036854775808)] : List Int)) (inner := [.int .i64 0,.int .i64 1,.int .i64 (-1),.int .i64 9,.int .i64 10,.int .i64 999,.int .i64 1000,.int .i64 2147483647,.int .i64 (-2147483648),.int .i64 3037000499,.int .i64 3037000500,.int .i64 9223372036854775807,.int .i64 (-9223372036854775807),.int .i64 (-9223372036854775808)]) (ok := fun _ => True) (okp := fun _ => True) ?hr ?hp (fun _ hk => hk) trivial (Below.refl _ _) (Nat.le_refl _) Z596 ?_;(case hd => rfl);(case hg => rfl);(case hr => exact Z515);(case hp => exact (Reps.one (show Kd.M (Kd.int .i64) _ _ _ 0 [.int .i64 0] from rfl) (Reps.one (show Kd.M (Kd.int .i64) _ _ _ 1 [.int .i64 1] from rfl) (Reps.one (show Kd.M (Kd.int .i64) _ _ _ (-1) [.int .i64 (-1)] from rfl) (Reps.one (show Kd.M (Kd.int .i64) _ _ _ 9 [.int .i64 9] from rfl) (Reps.one (show Kd.M (Kd.int .i64) _ _ _ 10 [.int .i64 10] from rfl) (Reps.one (show Kd.M (Kd.int .i64) _ _ _ 999 [.int .i64 999] from rfl) (Reps.one (show Kd.M (Kd.int .i64) _ _ _ 1000 [.int .i64 1000] from rfl) (Reps.one (show Kd.M (Kd.int .i64) _ _ _ 2147483647 [.int .i64 2147483647] from rfl) (Reps.one (show Kd.M (Kd.int .i64) _ _ _ (-2147483648) [.int .i64 (-2147483648)] from rfl) (Reps.one (show Kd.M (Kd.int .i64) _ _ _ 3037000499 [.int .i64 3037000499] from rfl) (Reps.one (show Kd.M (Kd.int .i64) _ _ _ 3037000500 [.int .i64 3037000500] from rfl) (Reps.one (show Kd.M (Kd.int .i64) _ _ _ 9223372036854775807 [.int .i64 9223372036854775807] from rfl) (Reps.one (show Kd.M (Kd.int .i64) _ _ _ (-9223372036854775807) [.int .i64 (-9223372036854775807)] from rfl) (Reps.one (show Kd.M (Kd.int .i64) _ _ _ (-9223372036854775808) [.int .i64 (-9223372036854775808)] from rfl) (Reps.none _ _))))))))))))))));intro v488 w6 ho7 hb hg_ hnew_;clear hg_ hnew_;(first | rw [← Ny487.out] at ho7 | (simp only [Int.reduceToNat] at ho7;rw [← Ny487.out] at ho7));have n_ := jA (Kd.R_lower ho7 (keep_size (w := w) (g := g) (row := none) Z484)) (jA (IsS76.below Z228 hb) (jA (KeepBut.trans Z484 (KeepBut.of_below hb g none) (.inl rfl)) (Aside0.mk (below_step Z227 hb))));clear HI0 HK HB;obtain ⟨HO489,HI0,HK,HB⟩ := n_;clear hb ho7;obtain ⟨Ao8,co8,eo8⟩ := Kd.R_slice HO489.out;subst eo8) | ((with_reducible refine gate_callee (f := 30) rfl ?_);refine goesL_ (some 11) rfl rfl Try.func30 Z580 rfl #[.pointer (some ⟨g,0,none⟩),.slice Ao8 y487.length co8] rfl Z395 ?_;(with_reducible refine (spec_l1PickInt.calls g s0_0 t485 t486 _ _ y487 t490 t491 t492 w0 _ ?side1 ?side2 ?side3 ?side4 ?side5 A4.out).mono ?_);(case side1 => exact Z228);(case side2 => exact Z227);(case side3 => repeat (first | exact (Kd.R_reads' HO489.out).2.2 | (with_reducible refine Kd.C_alloc ?_ _) | (with_reducible refine Kd.C_drewN ?_ _) | (with_reducible refine Kd.C_drew ?_)));(case side4 => exact (Kd.R_reads' HO489.out).2.1);(case side5 => exact far_slice (IsS76.own_ne HI0.out HO489.out Z581));rintro e w9 ⟨rfl,hi,hb,hk⟩;refine ⟨_,rfl,?_⟩;have n_ := jA (Kd.R_mono (Kd.R_keep (IsS76.apart (show IsS76 w0 _ g s0_0 t485 t486 from Z228) (by (with_reducible repeat (first | apply Kd.R_alloc | apply Kd.R_drewN | apply Kd.R_drew));exact HO489.out) Z581) hk (fun _ h => h.2)) (fun _ h => h.1)) (jA (KeepBut.trans Z484 hk (.inl rfl)) (jA (hb) (Aside0.mk (hi))));clear HO489 HK HB HI0;obtain ⟨HO489,HK,HB,HI0⟩ := n_;(try clear hb);(try clear hb2);(try clear hk);(try clear hi)))
    go_ret
    exact ⟨Z400,Z228,Z227,Z484⟩
  · rw [if_neg c3] at H
    have c3b0 : (t484 == 0) = false := beq_eq_false_iff_ne.mpr c3
    have c3b1 : (t484 != 0) = true := bne_iff_ne.mpr c3
    by_cases c10 : t484 = 1
    · rw [if_pos c10] at H
      have c10b0 : (t484 == 1) = true := beq_iff_eq.mpr c10
      have c10b1 : (t484 != 1) = false := bne_eq_false_iff_eq.mpr c10
      clear c10
      have H' := Aside0.mk H
      clear H
      go_enter Try.func73,Try.ntmps73
      go_wp2_with (first | ((with_reducible refine gate_callee (f := 44) rfl ?_);refine goesL_ (some 6) rfl rfl Try.func44 Z580 rfl #[.pointer (some ⟨g,0,none⟩),.int .i64 4] rfl Z395 ?_;(with_reducible refine (spec_l1Below.calls g s0_0 s0_1 s0_2 4 t484 t485 t486 w0 _ ?side1 ?side2 A2.out).mono ?_);(case side1 => exact Z228);(case side2 => exact Z227);rintro e w11 ⟨rfl,hi,hb,hk⟩;refine ⟨_,rfl,?_⟩;have n_ := jA (KeepBut.trans Z484 hk (.inl rfl)) (jA (hb) (Aside0.mk (hi)));clear HK HB HI0;obtain ⟨HK,HB,HI0⟩ := n_;(try clear hb);(try clear hb2);(try clear hk);(try clear hi)))
      go_loopg [3,4] k (fun kq v3 v4 w' => ∃ (x3_1 : Int) (x4_1 : Int) (x1001_1 : Int) (x1002_1 : Int),v3 = .int .i64 x3_1 ∧ v4 = .int .i64 x4_1 ∧ Aside0 (spec_l1Whole.l0 kq x3_1 x4_1 s0_0 x1001_1 x1002_1 = some (r1,r2,r3)) ∧ Aside0 (kq ≤ k) ∧ Aside0 (IsS76 w0 w' g s0_0 x1001_1 x1002_1) ∧ Aside0 (KeepBut w w' g none) ∧ Aside0 (Below w0.heap.size w0 w'))
      case atStart => exact ⟨(0),(0),(t485),(t486),Z514,Z514,H',⟨Nat.le_refl _⟩,⟨Z228⟩,⟨Z484⟩,⟨Z227⟩⟩
      case round =>
        clear H'
        try clear c1
        try clear p2
        try clear c3
        try clear c3b0
        try clear c3b1
        try clear c4
        try clear p6
        try clear c7
        try clear c10
        try clear c10b0
        try clear c10b1
        obtain ⟨x3_1,x4_1,x1001_1,x1002_1,rfl,rfl,HA,HK1,HI0,HK,HB⟩ := hrel
        cases gk with
        | zero => exact absurd HA.out (by simp [spec_l1Whole.l0])
        | succ k1 =>
          have H := HA.out
          clear HA
          simp only [spec_l1Whole.l0] at H
          by_cases c12 : x4_1 < 8
          · rw [if_pos c12] at H
            have c12b0 : decide (x4_1 < 8) = true := decide_eq_true c12
            clear c12
            obtain ⟨⟨t493,t494,t495⟩,A130,H⟩ := Option.bind_eq_some_iff.mp H
            try dsimp only at H
            have A13 := Aside0.mk A130
            clear A130
            have H' := Aside0.mk H
            clear H
            go_wp2_with (first | ((with_reducible refine gate_callee (f := 63) rfl ?_);refine goesL_ (some 21) rfl rfl Try.func63 Z580 rfl #[.pointer (some ⟨g,0,none⟩)] rfl Z395 ?_;(with_reducible refine (spec_l1Byte.calls g s0_0 x1001_1 x1002_1 t493 t494 t495 w0 _ ?side1 ?side2 A13.out).mono ?_);(case side1 => exact Z228);(case side2 => exact Z227);rintro e w14 ⟨rfl,hi,hb,hk⟩;refine ⟨_,rfl,?_⟩;have n_ := jA (KeepBut.trans Z484 hk (.inl rfl)) (jA (hb) (Aside0.mk (hi)));clear HK HB HI0;obtain ⟨HK,HB,HI0⟩ := n_;(try clear hb);(try clear hb2);(try clear hk);(try clear hi)))
            go_roundg k1
            case measure => have := HK1.out;omega
            case rel => exact ⟨(wrap64 ((wrap64 (x3_1 * 256)) + t493)),(wrap64 (x4_1 + 1)),(t494),(t495),Z514,Z514,H',⟨by have := HK1.out;omega⟩,⟨Z228⟩,⟨Z484⟩,⟨Z227⟩⟩
          · rw [if_neg c12] at H
            have c12b0 : decide (x4_1 < 8) = false := decide_eq_false c12
            clear c12
            simp only [Option.some.injEq,Prod.mk.injEq] at H
            obtain ⟨rfl,rfl,rfl⟩ := H
            go_wp2
            go_ret
            exact ⟨Z400,Z228,Z227,Z484⟩
    · rw [if_neg c10] at H
      have c10b0 : (t484 == 1) = false := beq_eq_false_iff_ne.mpr c10
      have c10b1 : (t484 != 1) = true := bne_iff_ne.mpr c10
      by_cases c15 : t484 = 2
      · rw [if_pos c15] at H
        have c15b0 : (t484 == 2) = true := beq_iff_eq.mpr c15
        have c15b1 : (t484 != 2) = false := bne_eq_false_iff_eq.mpr c15
        clear c15
        obtain ⟨⟨t496,t497,t498⟩,A160,H⟩ := Option.bind_eq_some_iff.mp H
        try dsimp only at H
        have A16 := Aside0.mk A160
        clear A160
        simp only [Option.some.injEq,Prod.mk.injEq] at H
        obtain ⟨rfl,rfl,rfl⟩ := H
        go_enter Try.func73,Try.ntmps73
        go_wp2_with (first | ((with_reducible refine gate_callee (f := 44) rfl ?_);refine goesL_ (some 6) rfl rfl Try.func44 Z580 rfl #[.pointer (some ⟨g,0,none⟩),.int .i64 4] rfl Z395 ?_;(with_reducible refine (spec_l1Below.calls g s0_0 s0_1 s0_2 4 t484 t485 t486 w0 _ ?side1 ?side2 A2.out).mono ?_);(case side1 => exact Z228);(case side2 => exact Z227);rintro e w17 ⟨rfl,hi,hb,hk⟩;refine ⟨_,rfl,?_⟩;have n_ := jA (KeepBut.trans Z484 hk (.inl rfl)) (jA (hb) (Aside0.mk (hi)));clear HK HB HI0;obtain ⟨HK,HB,HI0⟩ := n_;(try clear hb);(try clear hb2);(try clear hk);(try clear hi)) | ((with_reducible refine gate_callee (f := 44) rfl ?_);refine goesL_ (some 27) rfl rfl Try.func44 Z580 rfl #[.pointer (some ⟨g,0,none⟩),.int .i64 1000000] rfl Z395 ?_;(with_reducible refine (spec_l1Below.calls g s0_0 t485 t486 1000000 t496 t497 t498 w0 _ ?side1 ?side2 A16.out).mono ?_);(case side1 => exact Z228);(case side2 => exact Z227);rintro e w18 ⟨rfl,hi,hb,hk⟩;refine ⟨_,rfl,?_⟩;have n_ := jA (KeepBut.trans Z484 hk (.inl rfl)) (jA (hb) (Aside0.mk (hi)));clear HK HB HI0;obtain ⟨HK,HB,HI0⟩ := n_;(try clear hb);(try clear hb2);(try clear hk);(try clear hi)))
        go_ret
        exact ⟨Z400,Z228,Z227,Z484⟩
      · rw [if_neg c15] at H
        have c15b0 : (t484 == 2) = false := beq_eq_false_iff_ne.mpr c15
        have c15b1 : (t484 != 2) = true := bne_iff_ne.mpr c15
        obtain ⟨⟨t499,t500,t501⟩,A190,H⟩ := Option.bind_eq_some_iff.mp H
        try dsimp only at H
        have A19 := Aside0.mk A190
        clear A190
        simp only [Option.some.injEq,Prod.mk.injEq] at H
        obtain ⟨rfl,rfl,rfl⟩ := H
        go_enter Try.func73,Try.ntmps73
        go_wp2_with (first | ((with_reducible refine gate_callee (f := 44) rfl ?_);refine goesL_ (some 6) rfl rfl Try.func44 Z580 rfl #[.pointer (some ⟨g,0,none⟩),.int .i64 4] rfl Z395 ?_;(with_reducible refine (spec_l1Below.calls g s0_0 s0_1 s0_2 4 t484 t485 t486 w0 _ ?side1 ?side2 A2.out).mono ?_);(case side1 => exact Z228);(case side2 => exact Z227);rintro e w20 ⟨rfl,hi,hb,hk⟩;refine ⟨_,rfl,?_⟩;have n_ := jA (KeepBut.trans Z484 hk (.inl rfl)) (jA (hb) (Aside0.mk (hi)));clear HK HB HI0;obtain ⟨HK,HB,HI0⟩ := n_;(try clear hb);(try clear hb2);(try clear hk);(try clear hi)) | ((with_reducible refine gate_callee (f := 44) rfl ?_);refine goesL_ (some 30) rfl rfl Try.func44 Z580 rfl #[.pointer (some ⟨g,0,none⟩),.int .i64 41] rfl Z395 ?_;(with_reducible refine (spec_l1Below.calls g s0_0 t485 t486 41 t499 t500 t501 w0 _ ?side1 ?side2 A19.out).mono ?_);(case side1 => exact Z228);(case side2 => exact Z227);rintro e w21 ⟨rfl,hi,hb,hk⟩;refine ⟨_,rfl,?_⟩;have n_ := jA (KeepBut.trans Z484 hk (.inl rfl)) (jA (hb) (Aside0.mk (hi)));clear HK HB HI0;obtain ⟨HK,HB,HI0⟩ := n_;(try clear hb);(try clear hb2);(try clear hk);(try clear hi)))
        go_ret
        exact ⟨Z400,Z228,Z227,Z484⟩

/-! ### spec_l14Slot: function 51 -/
theorem spec_l14Slot.cells2 {w : World} {g : Nat} {t : TypeId} {a0 a1 : Value} (h : w.heap[g]? = some (.cells #[a0,a1] t (0,0))) : w.cell? ⟨g,0,none⟩ = some a0 ∧ w.cell? ⟨g,1,none⟩ = some a1 ∧ w.frozen? ⟨g,0,none⟩ = false ∧ w.frozen? ⟨g,1,none⟩ = false := ⟨(blk_cell h 0).trans rfl,(blk_cell h 1).trans rfl,blk_frozen h 0,blk_frozen h 1⟩
def spec_l14Slot.f (k : Nat) (s0_0 : List Int) (s0_1 : Int) (s0_2 : Int) : Option (Int × Int × Int × Int) := (spec_l1Once.f s0_0 s0_1 s0_2 10).bind fun bt503 => (if bt503.1 = true then ((spec_l1PickInt.f s0_0 bt503.2.1 bt503.2.2 (([0,40,41,(-1),9223372036854775807] : List Int))).bind fun bt509 => ((spec_l1Whole.f k s0_0 bt509.2.1 bt509.2.2).bind fun bt512 => (some (bt509.1,bt512.1,bt512.2.1,bt512.2.2)))) else ((spec_l1Below.f s0_0 bt503.2.1 bt503.2.2 12).bind fun bt515 => ((spec_l1Below.f s0_0 bt515.2.1 bt515.2.2 8001).bind fun bt518 => (some (bt515.1,wrap64 (bt518.1 - 4000),bt518.2.1,bt518.2.2)))))
theorem spec_l14Slot.mono : ∀ a0 a1 a2 k,LeO (spec_l14Slot.f k a0 a1 a2) (spec_l14Slot.f (k + 1) a0 a1 a2) := by
  intro a0 a1 a2 k
  unfold spec_l14Slot.f
  repeat' first
      | (with_reducible exact spec_l1Whole.mono _ _ _ _)
      | (with_reducible exact LeO.refl _)
      | (with_reducible exact LeO.none _)
      | (with_reducible refine LeO.ite ?_ ?_)
      | (with_reducible refine LeO.bind ?_ (fun _ => ?_))
      | exact spec_l1Whole.mono _ _ _ _
      | exact LeO.none _
      | refine LeO.ite ?_ ?_
      | refine LeO.bind ?_ (fun _ => ?_)
set_option maxHeartbeats 8000000 in
set_option maxRecDepth 100000 in
theorem spec_l14Slot.calls (k : Nat) (g : Nat) (s0_0 : List Int) (s0_1 : Int) (s0_2 : Int) (r1 : Int) (r2 : Int) (r3 : Int) (r4 : Int) (w0 w : World) (hI : IsS76 w0 w g s0_0 s0_1 s0_2) (hB : Below w0.heap.size w0 w) (h : spec_l14Slot.f k s0_0 s0_1 s0_2 = some (r1,r2,r3,r4)) :
    Calls Try.prog 51 #[.pointer (some ⟨g,0,none⟩)] w fun e w' => e = .returned (.agg #[.int .i64 r1,.int .i64 r2]) ∧ IsS76 w0 w' g s0_0 r3 r4 ∧ Below w0.heap.size w0 w' ∧ KeepBut w w' g none := by
  have hu33 := Try.underlying33
  have HI0 := Aside0.mk hI
  have HK := Aside0.mk (KeepBut.refl w g none)
  have HL := Aside0.mk hB.size
  clear hI
  have HW0 := Aside0.mk hB.size
  have HB := Aside0.mk hB
  clear hB
  have H : ((spec_l1Once.f s0_0 s0_1 s0_2 10).bind fun bt503 => (if bt503.1 = true then ((spec_l1PickInt.f s0_0 bt503.2.1 bt503.2.2 (([0,40,41,(-1),9223372036854775807] : List Int))).bind fun bt509 => ((spec_l1Whole.f k s0_0 bt509.2.1 bt509.2.2).bind fun bt512 => (some (bt509.1,bt512.1,bt512.2.1,bt512.2.2)))) else ((spec_l1Below.f s0_0 bt503.2.1 bt503.2.2 12).bind fun bt515 => ((spec_l1Below.f s0_0 bt515.2.1 bt515.2.2 8001).bind fun bt518 => (some (bt515.1,wrap64 (bt518.1 - 4000),bt518.2.1,bt518.2.2)))))) = some (r1,r2,r3,r4) := h
  clear h
  obtain ⟨⟨t503,t504,t505⟩,A20,H⟩ := Option.bind_eq_some_iff.mp H
  try dsimp only at H
  have A2 := Aside0.mk A20
  clear A20
  by_cases c3 : t503 = true
  · subst c3
    have H1 : ((spec_l1PickInt.f s0_0 t504 t505 (([0,40,41,(-1),9223372036854775807] : List Int))).bind fun bt509 => ((spec_l1Whole.f k s0_0 bt509.2.1 bt509.2.2).bind fun bt512 => (some (bt509.1,bt512.1,bt512.2.1,bt512.2.2)))) = some (r1,r2,r3,r4) := by rw [if_pos rfl] at H;exact H
    clear H
    have H := H1
    clear H1
    obtain ⟨y506,hy506⟩ : ∃ y_ : List Int,y_ = (([0,40,41,(-1),9223372036854775807] : List Int)) := ⟨_,rfl⟩
    replace H : ((spec_l1PickInt.f s0_0 t504 t505 y506).bind fun bt509 => ((spec_l1Whole.f k s0_0 bt509.2.1 bt509.2.2).bind fun bt512 => (some (bt509.1,bt512.1,bt512.2.1,bt512.2.2)))) = some (r1,r2,r3,r4) := by first | (rw [hy506];with_reducible exact H) | (have H2_ := (Option.bind_some _ _).symm.trans H;rw [hy506];with_reducible exact H2_) | (have H2_ := (Option.bind_some _ _).symm.trans H;with_reducible exact H2_) | with_reducible exact H | (rw [hy506];exact H) | exact H
    have Ny506 := Aside0.mk hy506
    clear hy506
    obtain ⟨⟨t509,t510,t511⟩,A40,H⟩ := Option.bind_eq_some_iff.mp H
    try dsimp only at H
    have A4 := Aside0.mk A40
    clear A40
    obtain ⟨⟨t512,t513,t514⟩,A50,H⟩ := Option.bind_eq_some_iff.mp H
    try dsimp only at H
    have A5 := Aside0.mk A50
    clear A50
    simp only [Option.some.injEq,Prod.mk.injEq] at H
    obtain ⟨rfl,rfl,rfl,rfl⟩ := H
    go_enter Try.func51,Try.ntmps51
    go_wp2_with (first | ((with_reducible refine gate_dst (N := 2) rfl ?_);refine box_event ?hg (N := 2) ?hd (cs := #[.int .i64 0,.int .i64 0]) (t := 33) ?hr ?_;(case hd => rfl);(case hg => rfl);(case hr => exact Z515);intro gb502 hg w6 hbox hb;have n_ := jA (IsS76.below Z228 hb) (jA (KeepBut.trans Z484 (KeepBut.of_below hb g none) (.inl rfl)) (jA (below_step Z227 hb) (jA (hbox) (jA ((Z168 : w.heap.size ≤ gb502)) (jA ((Nat.le_trans HW0.out (Z168 : w.heap.size ≤ gb502) : w0.heap.size ≤ gb502)) (jA ((by rw [hg];exact Nat.ne_of_lt (IsS76.lt (show IsS76 w0 _ g s0_0 s0_1 s0_2 from Z228)) : g ≠ gb502)) (Aside0.mk ((by rw [hg];exact Nat.ne_of_gt (IsS76.lt (show IsS76 w0 _ g s0_0 s0_1 s0_2 from Z228)) : gb502 ≠ g)))))))));clear HI0 HK HB;obtain ⟨HI0,HK,HB,BK502,GW502,GE502,NB0_502,NB502_0⟩ := n_;clear hb hbox hg) | ((with_reducible refine gate_callee (f := 52) rfl ?_);refine goesL_ (some 4) rfl rfl Try.func52 Z580 rfl #[.pointer (some ⟨g,0,none⟩),.int .i64 10] rfl Z395 ?_;(with_reducible refine (spec_l1Once.calls g s0_0 s0_1 s0_2 10 true t504 t505 w0 _ ?side1 ?side2 A2.out).mono ?_);(case side1 => exact Z171);(case side2 => exact Z173);rintro e w7 ⟨rfl,hi,hb,hk⟩;refine ⟨_,rfl,?_⟩;have n_ := jA (KeepBut.blk hk (g' := gb502) (o := .cells #[.int .i64 0,.int .i64 0] 33 (0,0)) Z553 NB502_0.out Z596) (jA (KeepBut.trans Z222 hk (.inl rfl)) (jA (hb) (Aside0.mk (hi))));clear BK502 HK HB HI0;obtain ⟨BK502,HK,HB,HI0⟩ := n_;(try clear hb);(try clear hb2);(try clear hk);(try clear hi)) | ((with_reducible refine gate_dst (N := 6) rfl ?_);refine Kd.R_lit (Kd.int .i64) _ 3 ?hg (N := 6) ?hd (xs := ([0,40,41,(-1),9223372036854775807] : List Int)) (inner := [.int .i64 0,.int .i64 40,.int .i64 41,.int .i64 (-1),.int .i64 9223372036854775807]) (ok := fun _ => True) (okp := fun _ => True) ?hr ?hp (fun _ hk => hk) trivial (Below.refl _ _) (Nat.le_refl _) Z596 ?_;(case hd => rfl);(case hg => rfl);(case hr => exact Z515);(case hp => exact (Reps.one (show Kd.M (Kd.int .i64) _ _ _ 0 [.int .i64 0] from rfl) (Reps.one (show Kd.M (Kd.int .i64) _ _ _ 40 [.int .i64 40] from rfl) (Reps.one (show Kd.M (Kd.int .i64) _ _ _ 41 [.int .i64 41] from rfl) (Reps.one (show Kd.M (Kd.int .i64) _ _ _ (-1) [.int .i64 (-1)] from rfl) (Reps.one (show Kd.M (Kd.int .i64) _ _ _ 9223372036854775807 [.int .i64 9223372036854775807] from rfl) (Reps.none _ _)))))));intro v507 w8 ho9 hb hg_ hnew_;clear hg_ hnew_;(first | rw [← Ny506.out] at ho9 | (simp only [Int.reduceToNat] at ho9;rw [← Ny506.out] at ho9));have n_ := jA (Kd.R_lower ho9 (keep_size (w := w) (g := g) (row := none) Z222)) (jA (IsS76.below Z171 hb) (jA (blk_below (g := gb502) (o := .cells #[.int .i64 0,.int .i64 0] 33 (0,0)) Z553 hb) (jA (KeepBut.trans Z222 (KeepBut.of_below hb g none) (.inl rfl)) (Aside0.mk (below_step Z173 hb)))));clear HI0 BK502 HK HB;obtain ⟨HO508,HI0,BK502,HK,HB⟩ := n_;clear hb ho9;obtain ⟨Ao10,co10,eo10⟩ := Kd.R_slice HO508.out;subst eo10) | ((with_reducible refine gate_callee (f := 30) rfl ?_);refine goesL_ (some 7) rfl rfl Try.func30 Z580 rfl #[.pointer (some ⟨g,0,none⟩),.slice Ao10 y506.length co10] rfl Z395 ?_;(with_reducible refine (spec_l1PickInt.calls g s0_0 t504 t505 _ _ y506 t509 t510 t511 w0 _ ?side1 ?side2 ?side3 ?side4 ?side5 A4.out).mono ?_);(case side1 => exact Z171);(case side2 => exact Z173);(case side3 => repeat (first | exact (Kd.R_reads' HO508.out).2.2 | (with_reducible refine Kd.C_alloc ?_ _) | (with_reducible refine Kd.C_drewN ?_ _) | (with_reducible refine Kd.C_drew ?_)));(case side4 => exact (Kd.R_reads' HO508.out).2.1);(case side5 => exact far_slice (IsS76.own_ne HI0.out HO508.out Z581));rintro e w11 ⟨rfl,hi,hb,hk⟩;refine ⟨_,rfl,?_⟩;have n_ := jA (KeepBut.blk hk (g' := gb502) (o := .cells #[.int .i64 0,.int .i64 0] 33 (0,0)) Z553 NB502_0.out Z596) (jA (Kd.R_mono (Kd.R_keep (IsS76.apart (show IsS76 w0 _ g s0_0 t504 t505 from Z171) Z399 Z581) hk (fun _ h => h.2)) (fun _ h => h.1)) (jA (KeepBut.trans Z222 hk (.inl rfl)) (jA (hb) (Aside0.mk (hi)))));clear BK502 HO508 HK HB HI0;obtain ⟨BK502,HO508,HK,HB,HI0⟩ := n_;(try clear hb);(try clear hb2);(try clear hk);(try clear hi)) | ((with_reducible refine gate_callee (f := 73) rfl ?_);refine goesL_ (some 9) rfl rfl Try.func73 Z580 rfl #[.pointer (some ⟨g,0,none⟩)] rfl Z395 ?_;(with_reducible refine (spec_l1Whole.calls k g s0_0 t510 t511 t512 t513 t514 w0 _ ?side1 ?side2 A5.out).mono ?_);(case side1 => exact Z171);(case side2 => exact Z173);rintro e w12 ⟨rfl,hi,hb,hk⟩;refine ⟨_,rfl,?_⟩;have n_ := jA (KeepBut.blk hk (g' := gb502) (o := .cells #[.int .i64 0,.int .i64 0] 33 (0,0)) Z553 NB502_0.out Z596) (jA (Kd.R_mono (Kd.R_keep (IsS76.apart (show IsS76 w0 _ g s0_0 t510 t511 from Z171) Z399 Z581) hk (fun _ h => h.2)) (fun _ h => h.1)) (jA (KeepBut.trans Z222 hk (.inl rfl)) (jA (hb) (Aside0.mk (hi)))));clear BK502 HO508 HK HB HI0;obtain ⟨BK502,HO508,HK,HB,HI0⟩ := n_;(try clear hb);(try clear hb2);(try clear hk);(try clear hi);have hnb13 := NB502_0.out;have hnc13 := NB0_502.out;obtain ⟨hcz14_0,hcz14_1,hfz14_0,hfz14_1⟩ := spec_l14Slot.cells2 BK502.out))
    refine bodyPost_ret (results_cell_row rfl _ _ gb502 33 #[.int .i64 t509,.int .i64 t512] (0,0) _ rfl (by refine bP ?_;refine blk_put (cs := #[.int .i64 t509,.int .i64 0]) ?_ 1 _ rfl;refine bP ?_;refine blk_put (cs := #[.int .i64 0,.int .i64 0]) ?_ 0 _ rfl;refine bP ?_;exact BK502.out) Try.underlying33 rfl Z580) rfl ?_
    exact ⟨Z400,Z171,Z173,Z222⟩
  · replace c3 := Bool.eq_false_iff.mpr c3
    subst c3
    have H1 : ((spec_l1Below.f s0_0 t504 t505 12).bind fun bt515 => ((spec_l1Below.f s0_0 bt515.2.1 bt515.2.2 8001).bind fun bt518 => (some (bt515.1,wrap64 (bt518.1 - 4000),bt518.2.1,bt518.2.2)))) = some (r1,r2,r3,r4) := by rw [if_neg (show ¬ (false = true) by decide)] at H;exact H
    clear H
    have H := H1
    clear H1
    obtain ⟨⟨t515,t516,t517⟩,A150,H⟩ := Option.bind_eq_some_iff.mp H
    try dsimp only at H
    have A15 := Aside0.mk A150
    clear A150
    obtain ⟨⟨t518,t519,t520⟩,A160,H⟩ := Option.bind_eq_some_iff.mp H
    try dsimp only at H
    have A16 := Aside0.mk A160
    clear A160
    simp only [Option.some.injEq,Prod.mk.injEq] at H
    obtain ⟨rfl,rfl,rfl,rfl⟩ := H
    go_enter Try.func51,Try.ntmps51
    go_wp2_with (first | ((with_reducible refine gate_dst (N := 2) rfl ?_);refine box_event ?hg (N := 2) ?hd (cs := #[.int .i64 0,.int .i64 0]) (t := 33) ?hr ?_;(case hd => rfl);(case hg => rfl);(case hr => exact Z515);intro gb502 hg w17 hbox hb;have n_ := jA (IsS76.below Z228 hb) (jA (KeepBut.trans Z484 (KeepBut.of_below hb g none) (.inl rfl)) (jA (below_step Z227 hb) (jA (hbox) (jA ((Z168 : w.heap.size ≤ gb502)) (jA ((Nat.le_trans HW0.out (Z168 : w.heap.size ≤ gb502) : w0.heap.size ≤ gb502)) (jA ((by rw [hg];exact Nat.ne_of_lt (IsS76.lt (show IsS76 w0 _ g s0_0 s0_1 s0_2 from Z228)) : g ≠ gb502)) (Aside0.mk ((by rw [hg];exact Nat.ne_of_gt (IsS76.lt (show IsS76 w0 _ g s0_0 s0_1 s0_2 from Z228)) : gb502 ≠ g)))))))));clear HI0 HK HB;obtain ⟨HI0,HK,HB,BK502,GW502,GE502,NB0_502,NB502_0⟩ := n_;clear hb hbox hg) | ((with_reducible refine gate_callee (f := 52) rfl ?_);refine goesL_ (some 4) rfl rfl Try.func52 Z580 rfl #[.pointer (some ⟨g,0,none⟩),.int .i64 10] rfl Z395 ?_;(with_reducible refine (spec_l1Once.calls g s0_0 s0_1 s0_2 10 false t504 t505 w0 _ ?side1 ?side2 A2.out).mono ?_);(case side1 => exact Z171);(case side2 => exact Z173);rintro e w18 ⟨rfl,hi,hb,hk⟩;refine ⟨_,rfl,?_⟩;have n_ := jA (KeepBut.blk hk (g' := gb502) (o := .cells #[.int .i64 0,.int .i64 0] 33 (0,0)) Z553 NB502_0.out Z596) (jA (KeepBut.trans Z222 hk (.inl rfl)) (jA (hb) (Aside0.mk (hi))));clear BK502 HK HB HI0;obtain ⟨BK502,HK,HB,HI0⟩ := n_;(try clear hb);(try clear hb2);(try clear hk);(try clear hi)) | ((with_reducible refine gate_callee (f := 44) rfl ?_);refine goesL_ (some 12) rfl rfl Try.func44 Z580 rfl #[.pointer (some ⟨g,0,none⟩),.int .i64 12] rfl Z395 ?_;(with_reducible refine (spec_l1Below.calls g s0_0 t504 t505 12 t515 t516 t517 w0 _ ?side1 ?side2 A15.out).mono ?_);(case side1 => exact Z171);(case side2 => exact Z173);rintro e w19 ⟨rfl,hi,hb,hk⟩;refine ⟨_,rfl,?_⟩;have n_ := jA (KeepBut.blk hk (g' := gb502) (o := .cells #[.int .i64 0,.int .i64 0] 33 (0,0)) Z553 NB502_0.out Z596) (jA (KeepBut.trans Z222 hk (.inl rfl)) (jA (hb) (Aside0.mk (hi))));clear BK502 HK HB HI0;obtain ⟨BK502,HK,HB,HI0⟩ := n_;(try clear hb);(try clear hb2);(try clear hk);(try clear hi)) | ((with_reducible refine gate_callee (f := 44) rfl ?_);refine goesL_ (some 14) rfl rfl Try.func44 Z580 rfl #[.pointer (some ⟨g,0,none⟩),.int .i64 8001] rfl Z395 ?_;(with_reducible refine (spec_l1Below.calls g s0_0 t516 t517 8001 t518 t519 t520 w0 _ ?side1 ?side2 A16.out).mono ?_);(case side1 => exact Z171);(case side2 => exact Z173);rintro e w20 ⟨rfl,hi,hb,hk⟩;refine ⟨_,rfl,?_⟩;have n_ := jA (KeepBut.blk hk (g' := gb502) (o := .cells #[.int .i64 0,.int .i64 0] 33 (0,0)) Z553 NB502_0.out Z596) (jA (KeepBut.trans Z222 hk (.inl rfl)) (jA (hb) (Aside0.mk (hi))));clear BK502 HK HB HI0;obtain ⟨BK502,HK,HB,HI0⟩ := n_;(try clear hb);(try clear hb2);(try clear hk);(try clear hi);have hnb21 := NB502_0.out;have hnc21 := NB0_502.out;obtain ⟨hcz22_0,hcz22_1,hfz22_0,hfz22_1⟩ := spec_l14Slot.cells2 BK502.out))
    refine bodyPost_ret (results_cell_row rfl _ _ gb502 33 #[.int .i64 t515,.int .i64 (wrap64 (t518 - 4000))] (0,0) _ rfl (by refine bP ?_;refine blk_put (cs := #[.int .i64 t515,.int .i64 0]) ?_ 1 _ rfl;refine bP ?_;refine blk_put (cs := #[.int .i64 0,.int .i64 0]) ?_ 0 _ rfl;refine bP ?_;exact BK502.out) Try.underlying33 rfl Z580) rfl ?_
    exact ⟨Z400,Z171,Z173,Z222⟩

/-! ### spec_l15Cand: function 29 -/
theorem spec_l15Cand.cells6 {w : World} {g : Nat} {t : TypeId} {a0 a1 a2 a3 a4 a5 : Value} (h : w.heap[g]? = some (.cells #[a0,a1,a2,a3,a4,a5] t (0,0))) : w.cell? ⟨g,0,none⟩ = some a0 ∧ w.cell? ⟨g,1,none⟩ = some a1 ∧ w.cell? ⟨g,2,none⟩ = some a2 ∧ w.cell? ⟨g,3,none⟩ = some a3 ∧ w.cell? ⟨g,4,none⟩ = some a4 ∧ w.cell? ⟨g,5,none⟩ = some a5 ∧ w.frozen? ⟨g,0,none⟩ = false ∧ w.frozen? ⟨g,1,none⟩ = false ∧ w.frozen? ⟨g,2,none⟩ = false ∧ w.frozen? ⟨g,3,none⟩ = false ∧ w.frozen? ⟨g,4,none⟩ = false ∧ w.frozen? ⟨g,5,none⟩ = false := ⟨(blk_cell h 0).trans rfl,(blk_cell h 1).trans rfl,(blk_cell h 2).trans rfl,(blk_cell h 3).trans rfl,(blk_cell h 4).trans rfl,(blk_cell h 5).trans rfl,blk_frozen h 0,blk_frozen h 1,blk_frozen h 2,blk_frozen h 3,blk_frozen h 4,blk_frozen h 5⟩
def spec_l15Cand.f (k : Nat) (s0_0 : List Int) (s0_1 : Int) (s0_2 : Int) : Option (Int × Int × Int × Int × Int × Int × Int × Int) := (spec_l1Below.f s0_0 s0_1 s0_2 3).bind fun bt522 => ((spec_l1Below.f s0_0 bt522.2.1 bt522.2.2 4).bind fun bt525 => ((spec_l14Slot.f k s0_0 bt525.2.1 bt525.2.2).bind fun bt528 => ((spec_l14Slot.f k s0_0 bt528.2.2.1 bt528.2.2.2).bind fun bt532 => ((spec_l1Once.f s0_0 bt532.2.2.1 bt532.2.2.2 4).bind fun bt537 => (if bt537.1 = true then (if bt528.1 > 0 then (if bt528.1 < 20 then ((spec_l1Below.f s0_0 bt537.2.1 bt537.2.2 9).bind fun bt540 => (some (bt522.1,bt525.1,bt528.1,wrap64 (10 * bt528.1),bt540.1,wrap64 (10 * bt540.1),bt540.2.1,bt540.2.2))) else (some (bt522.1,bt525.1,bt528.1,bt528.2.1,bt532.1,bt532.2.1,bt537.2.1,bt537.2.2))) else (some (bt522.1,bt525.1,bt528.1,bt528.2.1,bt532.1,bt532.2.1,bt537.2.1,bt537.2.2))) else (some (bt522.1,bt525.1,bt528.1,bt528.2.1,bt532.1,bt532.2.1,bt537.2.1,bt537.2.2)))))))
theorem spec_l15Cand.mono : ∀ a0 a1 a2 k,LeO (spec_l15Cand.f k a0 a1 a2) (spec_l15Cand.f (k + 1) a0 a1 a2) := by
  intro a0 a1 a2 k
  unfold spec_l15Cand.f
  repeat' first
      | (with_reducible exact spec_l14Slot.mono _ _ _ _)
      | (with_reducible exact LeO.refl _)
      | (with_reducible exact LeO.none _)
      | (with_reducible refine LeO.ite ?_ ?_)
      | (with_reducible refine LeO.bind ?_ (fun _ => ?_))
      | exact spec_l14Slot.mono _ _ _ _
      | exact LeO.none _
      | refine LeO.ite ?_ ?_
      | refine LeO.bind ?_ (fun _ => ?_)
set_option maxHeartbeats 8000000 in
set_option maxRecDepth 100000 in
theorem spec_l15Cand.calls (k : Nat) (g : Nat) (s0_0 : List Int) (s0_1 : Int) (s0_2 : Int) (r1 : Int) (r2 : Int) (r3 : Int) (r4 : Int) (r5 : Int) (r6 : Int) (r7 : Int) (r8 : Int) (w0 w : World) (hI : IsS76 w0 w g s0_0 s0_1 s0_2) (hB : Below w0.heap.size w0 w) (h : spec_l15Cand.f k s0_0 s0_1 s0_2 = some (r1,r2,r3,r4,r5,r6,r7,r8)) :
    Calls Try.prog 29 #[.pointer (some ⟨g,0,none⟩)] w fun e w' => e = .returned (.agg #[.int .i64 r1,.int .i64 r2,.int .i64 r3,.int .i64 r4,.int .i64 r5,.int .i64 r6]) ∧ IsS76 w0 w' g s0_0 r7 r8 ∧ Below w0.heap.size w0 w' ∧ KeepBut w w' g none := by
  have hu35 := Try.underlying35
  have hu33 := Try.underlying33
  have HI0 := Aside0.mk hI
  have HK := Aside0.mk (KeepBut.refl w g none)
  have HL := Aside0.mk hB.size
  clear hI
  have HW0 := Aside0.mk hB.size
  have HB := Aside0.mk hB
  clear hB
  have H : ((spec_l1Below.f s0_0 s0_1 s0_2 3).bind fun bt522 => ((spec_l1Below.f s0_0 bt522.2.1 bt522.2.2 4).bind fun bt525 => ((spec_l14Slot.f k s0_0 bt525.2.1 bt525.2.2).bind fun bt528 => ((spec_l14Slot.f k s0_0 bt528.2.2.1 bt528.2.2.2).bind fun bt532 => ((spec_l1Once.f s0_0 bt532.2.2.1 bt532.2.2.2 4).bind fun bt537 => (if bt537.1 = true then (if bt528.1 > 0 then (if bt528.1 < 20 then ((spec_l1Below.f s0_0 bt537.2.1 bt537.2.2 9).bind fun bt540 => (some (bt522.1,bt525.1,bt528.1,wrap64 (10 * bt528.1),bt540.1,wrap64 (10 * bt540.1),bt540.2.1,bt540.2.2))) else (some (bt522.1,bt525.1,bt528.1,bt528.2.1,bt532.1,bt532.2.1,bt537.2.1,bt537.2.2))) else (some (bt522.1,bt525.1,bt528.1,bt528.2.1,bt532.1,bt532.2.1,bt537.2.1,bt537.2.2))) else (some (bt522.1,bt525.1,bt528.1,bt528.2.1,bt532.1,bt532.2.1,bt537.2.1,bt537.2.2)))))))) = some (r1,r2,r3,r4,r5,r6,r7,r8) := h
  clear h
  obtain ⟨⟨t522,t523,t524⟩,A20,H⟩ := Option.bind_eq_some_iff.mp H
  try dsimp only at H
  have A2 := Aside0.mk A20
  clear A20
  obtain ⟨⟨t525,t526,t527⟩,A30,H⟩ := Option.bind_eq_some_iff.mp H
  try dsimp only at H
  have A3 := Aside0.mk A30
  clear A30
  obtain ⟨⟨t528,t529,t530,t531⟩,A40,H⟩ := Option.bind_eq_some_iff.mp H
  try dsimp only at H
  have A4 := Aside0.mk A40
  clear A40
  obtain ⟨⟨t532,t533,t534,t535⟩,A50,H⟩ := Option.bind_eq_some_iff.mp H
  try dsimp only at H
  have A5 := Aside0.mk A50
  clear A50
  obtain ⟨⟨t537,t538,t539⟩,A60,H⟩ := Option.bind_eq_some_iff.mp H
  try dsimp only at H
  have A6 := Aside0.mk A60
  clear A60
  by_cases c7 : t537 = true
  · subst c7
    have H1 : (if t528 > 0 then (if t528 < 20 then ((spec_l1Below.f s0_0 t538 t539 9).bind fun bt540 => (some (t522,t525,t528,wrap64 (10 * t528),bt540.1,wrap64 (10 * bt540.1),bt540.2.1,bt540.2.2))) else (some (t522,t525,t528,t529,t532,t533,t538,t539))) else (some (t522,t525,t528,t529,t532,t533,t538,t539))) = some (r1,r2,r3,r4,r5,r6,r7,r8) := by rw [if_pos rfl] at H;exact H
    clear H
    have H := H1
    clear H1
    by_cases c8 : t528 > 0
    · rw [if_pos c8] at H
      have c8b0 : decide (0 < t528) = true := decide_eq_true c8
      clear c8
      by_cases c9 : t528 < 20
      · rw [if_pos c9] at H
        have c9b0 : decide (t528 < 20) = true := decide_eq_true c9
        clear c9
        obtain ⟨⟨t540,t541,t542⟩,A100,H⟩ := Option.bind_eq_some_iff.mp H
        try dsimp only at H
        have A10 := Aside0.mk A100
        clear A100
        simp only [Option.some.injEq,Prod.mk.injEq] at H
        obtain ⟨rfl,rfl,rfl,rfl,rfl,rfl,rfl,rfl⟩ := H
        go_enter Try.func29,Try.ntmps29
        go_wp2_with (first | ((with_reducible refine gate_dst (N := 2) rfl ?_);refine box_event ?hg (N := 2) ?hd (cs := #[.int .i64 0,.int .i64 0,.int .i64 0,.int .i64 0,.int .i64 0,.int .i64 0]) (t := 35) ?hr ?_;(case hd => rfl);(case hg => rfl);(case hr => exact Z515);intro gb521 hg w11 hbox hb;have n_ := jA (IsS76.below Z228 hb) (jA (KeepBut.trans Z484 (KeepBut.of_below hb g none) (.inl rfl)) (jA (below_step Z227 hb) (jA (hbox) (jA ((Z168 : w.heap.size ≤ gb521)) (jA ((Nat.le_trans HW0.out (Z168 : w.heap.size ≤ gb521) : w0.heap.size ≤ gb521)) (jA ((by rw [hg];exact Nat.ne_of_lt (IsS76.lt (show IsS76 w0 _ g s0_0 s0_1 s0_2 from Z228)) : g ≠ gb521)) (Aside0.mk ((by rw [hg];exact Nat.ne_of_gt (IsS76.lt (show IsS76 w0 _ g s0_0 s0_1 s0_2 from Z228)) : gb521 ≠ g)))))))));clear HI0 HK HB;obtain ⟨HI0,HK,HB,BK521,GW521,GE521,NB0_521,NB521_0⟩ := n_;clear hb hbox hg) | ((with_reducible refine gate_callee (f := 44) rfl ?_);refine goesL_ (some 5) rfl rfl Try.func44 Z580 rfl #[.pointer (some ⟨g,0,none⟩),.int .i64 3] rfl Z395 ?_;(with_reducible refine (spec_l1Below.calls g s0_0 s0_1 s0_2 3 t522 t523 t524 w0 _ ?side1 ?side2 A2.out).mono ?_);(case side1 => exact Z170);(case side2 => exact Z172);rintro e w12 ⟨rfl,hi,hb,hk⟩;refine ⟨_,rfl,?_⟩;have n_ := jA (KeepBut.blk hk (g' := gb521) (o := .cells #[.int .i64 0,.int .i64 0,.int .i64 0,.int .i64 0,.int .i64 0,.int .i64 0] 35 (0,0)) Z518 NB521_0.out Z596) (jA (KeepBut.trans Z449 hk (.inl rfl)) (jA (hb) (Aside0.mk (hi))));clear BK521 HK HB HI0;obtain ⟨BK521,HK,HB,HI0⟩ := n_;(try clear hb);(try clear hb2);(try clear hk);(try clear hi)) | ((with_reducible refine gate_callee (f := 44) rfl ?_);refine goesL_ (some 7) rfl rfl Try.func44 Z580 rfl #[.pointer (some ⟨g,0,none⟩),.int .i64 4] rfl Z395 ?_;(with_reducible refine (spec_l1Below.calls g s0_0 t523 t524 4 t525 t526 t527 w0 _ ?side1 ?side2 A3.out).mono ?_);(case side1 => exact Z170);(case side2 => exact Z172);rintro e w13 ⟨rfl,hi,hb,hk⟩;refine ⟨_,rfl,?_⟩;have n_ := jA (KeepBut.blk hk (g' := gb521) (o := .cells #[.int .i64 0,.int .i64 0,.int .i64 0,.int .i64 0,.int .i64 0,.int .i64 0] 35 (0,0)) Z518 NB521_0.out Z596) (jA (KeepBut.trans Z449 hk (.inl rfl)) (jA (hb) (Aside0.mk (hi))));clear BK521 HK HB HI0;obtain ⟨BK521,HK,HB,HI0⟩ := n_;(try clear hb);(try clear hb2);(try clear hk);(try clear hi)) | ((with_reducible refine gate_callee (f := 51) rfl ?_);refine goesL_ (some 9) rfl rfl Try.func51 Z580 rfl #[.pointer (some ⟨g,0,none⟩)] rfl Z395 ?_;(with_reducible refine (spec_l14Slot.calls k g s0_0 t526 t527 t528 t529 t530 t531 w0 _ ?side1 ?side2 A4.out).mono ?_);(case side1 => exact Z170);(case side2 => exact Z172);rintro e w14 ⟨rfl,hi,hb,hk⟩;refine ⟨_,rfl,?_⟩;have n_ := jA (KeepBut.blk hk (g' := gb521) (o := .cells #[.int .i64 0,.int .i64 0,.int .i64 0,.int .i64 0,.int .i64 0,.int .i64 0] 35 (0,0)) Z518 NB521_0.out Z596) (jA (KeepBut.trans Z449 hk (.inl rfl)) (jA (hb) (Aside0.mk (hi))));clear BK521 HK HB HI0;obtain ⟨BK521,HK,HB,HI0⟩ := n_;(try clear hb);(try clear hb2);(try clear hk);(try clear hi)) | ((with_reducible refine gate_callee (f := 51) rfl ?_);refine goesL_ (some 11) rfl rfl Try.func51 Z580 rfl #[.pointer (some ⟨g,0,none⟩)] rfl Z395 ?_;(with_reducible refine (spec_l14Slot.calls k g s0_0 t530 t531 t532 t533 t534 t535 w0 _ ?side1 ?side2 A5.out).mono ?_);(case side1 => exact Z170);(case side2 => exact Z172);rintro e w15 ⟨rfl,hi,hb,hk⟩;refine ⟨_,rfl,?_⟩;have n_ := jA (KeepBut.blk hk (g' := gb521) (o := .cells #[.int .i64 0,.int .i64 0,.int .i64 0,.int .i64 0,.int .i64 0,.int .i64 0] 35 (0,0)) Z518 NB521_0.out Z596) (jA (KeepBut.trans Z449 hk (.inl rfl)) (jA (hb) (Aside0.mk (hi))));clear BK521 HK HB HI0;obtain ⟨BK521,HK,HB,HI0⟩ := n_;(try clear hb);(try clear hb2);(try clear hk);(try clear hi)) | ((with_reducible refine gate_dst (N := 3) rfl ?_);refine box_event ?hg (N := 3) ?hd (cs := #[.int .i64 0,.int .i64 0,.int .i64 0,.int .i64 0,.int .i64 0,.int .i64 0]) (t := 35) ?hr ?_;(case hd => rfl);(case hg => rfl);(case hr => exact Z515);intro gb536 hg w16 hbox hb;have n_ := jA (IsS76.below Z170 hb) (jA (blk_below (g := gb521) (o := .cells #[.int .i64 0,.int .i64 0,.int .i64 0,.int .i64 0,.int .i64 0,.int .i64 0] 35 (0,0)) Z518 hb) (jA (KeepBut.trans Z449 (KeepBut.of_below hb g none) (.inl rfl)) (jA (below_step Z172 hb) (jA (hbox) (jA ((Z106 : w.heap.size ≤ gb536)) (jA ((Nat.le_trans HW0.out (Z106 : w.heap.size ≤ gb536) : w0.heap.size ≤ gb536)) (jA ((Z220 : gb521 ≠ gb536)) (jA ((Z221 : gb536 ≠ gb521)) (jA ((by rw [hg];exact Nat.ne_of_lt (IsS76.lt (show IsS76 w0 _ g s0_0 t534 t535 from Z170)) : g ≠ gb536)) (Aside0.mk ((by rw [hg];exact Nat.ne_of_gt (IsS76.lt (show IsS76 w0 _ g s0_0 t534 t535 from Z170)) : gb536 ≠ g))))))))))));clear HI0 BK521 HK HB;obtain ⟨HI0,BK521,HK,HB,BK536,GW536,GE536,NB521_536,NB536_521,NB0_536,NB536_0⟩ := n_;clear hb hbox hg;have hnb17 := NB536_521.out;have hnc17 := NB521_536.out;have hnb18 := NB536_0.out;have hnc18 := NB0_536.out;obtain ⟨hcz19_0,hcz19_1,hcz19_2,hcz19_3,hcz19_4,hcz19_5,hfz19_0,hfz19_1,hfz19_2,hfz19_3,hfz19_4,hfz19_5⟩ := spec_l15Cand.cells6 BK536.out) | ((with_reducible refine gate_callee (f := 52) rfl ?_);refine goesL_ (some 14) rfl rfl Try.func52 Z580 rfl #[.pointer (some ⟨g,0,none⟩),.int .i64 4] rfl Z395 ?_;(with_reducible refine (spec_l1Once.calls g s0_0 t534 t535 4 true t538 t539 w0 _ ?side1 ?side2 A6.out).mono ?_);(case side1 => exact Z105);(case side2 => exact Z107);rintro e w20 ⟨rfl,hi,hb,hk⟩;refine ⟨_,rfl,?_⟩;have n_ := jA (KeepBut.blk hk (g' := gb521) (o := .cells #[.int .i64 0,.int .i64 0,.int .i64 0,.int .i64 0,.int .i64 0,.int .i64 0] 35 (0,0)) Z45 NB521_0.out Z596) (jA (KeepBut.blk hk (g' := gb536) (o := .cells #[.int .i64 t522,.int .i64 t525,.int .i64 t528,.int .i64 t529,.int .i64 t532,.int .i64 t533] 35 (0,0)) Z1 NB536_0.out Z596) (jA (KeepBut.trans Z166 hk (.inl rfl)) (jA (hb) (Aside0.mk (hi)))));clear BK521 BK536 HK HB HI0;obtain ⟨BK521,BK536,HK,HB,HI0⟩ := n_;(try clear hb);(try clear hb2);(try clear hk);(try clear hi);obtain ⟨hcz21_0,hcz21_1,hcz21_2,hcz21_3,hcz21_4,hcz21_5,hfz21_0,hfz21_1,hfz21_2,hfz21_3,hfz21_4,hfz21_5⟩ := spec_l15Cand.cells6 BK536.out) | ((with_reducible refine gate_callee (f := 44) rfl ?_);refine goesL_ (some 34) rfl rfl Try.func44 Z580 rfl #[.pointer (some ⟨g,0,none⟩),.int .i64 9] rfl Z395 ?_;(with_reducible refine (spec_l1Below.calls g s0_0 t538 t539 9 t540 t541 t542 w0 _ ?side1 ?side2 A10.out).mono ?_);(case side1 => exact Z105);(case side2 => exact Z107);rintro e w22 ⟨rfl,hi,hb,hk⟩;refine ⟨_,rfl,?_⟩;have n_ := jA (KeepBut.blk hk (g' := gb521) (o := .cells #[.int .i64 0,.int .i64 0,.int .i64 0,.int .i64 0,.int .i64 0,.int .i64 0] 35 (0,0)) (by refine bP ?_;refine blk_far ?_ NB521_536.out _;refine bP ?_;exact BK521.out) NB521_0.out Z596) (jA (KeepBut.blk hk (g' := gb536) (o := .cells #[.int .i64 t522,.int .i64 t525,.int .i64 t528,.int .i64 (wrap64 (10 * t528)),.int .i64 t532,.int .i64 t533] 35 (0,0)) (by refine bP ?_;refine blk_put (cs := #[.int .i64 t522,.int .i64 t525,.int .i64 t528,.int .i64 t529,.int .i64 t532,.int .i64 t533]) ?_ 3 _ rfl;refine bP ?_;exact BK536.out) NB536_0.out Z596) (jA (KeepBut.trans Z166 hk (.inl rfl)) (jA (hb) (Aside0.mk (hi)))));clear BK521 BK536 HK HB HI0;obtain ⟨BK521,BK536,HK,HB,HI0⟩ := n_;(try clear hb);(try clear hb2);(try clear hk);(try clear hi);have hcz23_0 : w22.cell? ⟨gb536,0,none⟩ = some (.int .i64 t522) := (blk_cell BK536.out 0).trans rfl;have hcz23_1 : w22.cell? ⟨gb536,1,none⟩ = some (.int .i64 t525) := (blk_cell BK536.out 1).trans rfl;have hcz23_2 : w22.cell? ⟨gb536,2,none⟩ = some (.int .i64 t528) := (blk_cell BK536.out 2).trans rfl;have hcz23_3 : w22.cell? ⟨gb536,3,none⟩ = some (.int .i64 (wrap64 (10 * t528))) := (blk_cell BK536.out 3).trans rfl;have hcz23_4 : w22.cell? ⟨gb536,4,none⟩ = some (.int .i64 t532) := (blk_cell BK536.out 4).trans rfl;have hcz23_5 : w22.cell? ⟨gb536,5,none⟩ = some (.int .i64 t533) := (blk_cell BK536.out 5).trans rfl;have hzhcz23 : ((w22.setCell ⟨gb536,4,none⟩ (.int .i64 t540)).setCell ⟨gb536,5,none⟩ (.int .i64 0)).cell? ⟨gb536,5,none⟩ = some (.int .i64 0) := (by simp [go_sem,hcz23_4,hcz23_5]);have hfz23_0 := blk_frozen BK536.out 0;have hfz23_1 := blk_frozen BK536.out 1;have hfz23_2 := blk_frozen BK536.out 2;have hfz23_3 := blk_frozen BK536.out 3;have hfz23_4 := blk_frozen BK536.out 4;have hfz23_5 := blk_frozen BK536.out 5;have hnb24 := NB521_0.out;have hnc24 := NB0_521.out;obtain ⟨hcz25_0,hcz25_1,hcz25_2,hcz25_3,hcz25_4,hcz25_5,hfz25_0,hfz25_1,hfz25_2,hfz25_3,hfz25_4,hfz25_5⟩ := spec_l15Cand.cells6 BK521.out))
        refine bodyPost_ret (results_cell_row rfl _ _ gb521 35 #[.int .i64 t522,.int .i64 t525,.int .i64 t528,.int .i64 (wrap64 (10 * t528)),.int .i64 t540,.int .i64 (wrap64 (10 * t540))] (0,0) _ rfl (by refine bP ?_;refine blk_put (cs := #[.int .i64 t522,.int .i64 t525,.int .i64 t528,.int .i64 (wrap64 (10 * t528)),.int .i64 t540,.int .i64 0]) ?_ 5 _ rfl;refine bP ?_;refine blk_put (cs := #[.int .i64 t522,.int .i64 t525,.int .i64 t528,.int .i64 (wrap64 (10 * t528)),.int .i64 0,.int .i64 0]) ?_ 4 _ rfl;refine bP ?_;refine blk_put (cs := #[.int .i64 t522,.int .i64 t525,.int .i64 t528,.int .i64 0,.int .i64 0,.int .i64 0]) ?_ 3 _ rfl;refine bP ?_;refine blk_put (cs := #[.int .i64 t522,.int .i64 t525,.int .i64 0,.int .i64 0,.int .i64 0,.int .i64 0]) ?_ 2 _ rfl;refine bP ?_;refine blk_put (cs := #[.int .i64 t522,.int .i64 0,.int .i64 0,.int .i64 0,.int .i64 0,.int .i64 0]) ?_ 1 _ rfl;refine bP ?_;refine blk_put (cs := #[.int .i64 0,.int .i64 0,.int .i64 0,.int .i64 0,.int .i64 0,.int .i64 0]) ?_ 0 _ rfl;refine bP ?_;refine blk_far ?_ NB521_536.out _;refine bP ?_;refine blk_far ?_ NB521_536.out _;refine bP ?_;refine blk_far ?_ NB521_536.out _;refine bP ?_;exact BK521.out) Try.underlying35 rfl Z580) rfl ?_
        exact ⟨Z400,Z105,Z107,Z166⟩
      · rw [if_neg c9] at H
        have c9b0 : decide (t528 < 20) = false := decide_eq_false c9
        clear c9
        simp only [Option.some.injEq,Prod.mk.injEq] at H
        obtain ⟨rfl,rfl,rfl,rfl,rfl,rfl,rfl,rfl⟩ := H
        go_enter Try.func29,Try.ntmps29
        go_wp2_with (first | ((with_reducible refine gate_dst (N := 2) rfl ?_);refine box_event ?hg (N := 2) ?hd (cs := #[.int .i64 0,.int .i64 0,.int .i64 0,.int .i64 0,.int .i64 0,.int .i64 0]) (t := 35) ?hr ?_;(case hd => rfl);(case hg => rfl);(case hr => exact Z515);intro gb521 hg w26 hbox hb;have n_ := jA (IsS76.below Z228 hb) (jA (KeepBut.trans Z484 (KeepBut.of_below hb g none) (.inl rfl)) (jA (below_step Z227 hb) (jA (hbox) (jA ((Z168 : w.heap.size ≤ gb521)) (jA ((Nat.le_trans HW0.out (Z168 : w.heap.size ≤ gb521) : w0.heap.size ≤ gb521)) (jA ((by rw [hg];exact Nat.ne_of_lt (IsS76.lt (show IsS76 w0 _ g s0_0 s0_1 s0_2 from Z228)) : g ≠ gb521)) (Aside0.mk ((by rw [hg];exact Nat.ne_of_gt (IsS76.lt (show IsS76 w0 _ g s0_0 s0_1 s0_2 from Z228)) : gb521 ≠ g)))))))));clear HI0 HK HB;obtain ⟨HI0,HK,HB,BK521,GW521,GE521,NB0_521,NB521_0⟩ := n_;clear hb hbox hg) | ((with_reducible refine gate_callee (f := 44) rfl ?_);refine goesL_ (some 5) rfl rfl Try.func44 Z580 rfl #[.pointer (some ⟨g,0,none⟩),.int .i64 3] rfl Z395 ?_;(with_reducible refine (spec_l1Below.calls g s0_0 s0_1 s0_2 3 t522 t523 t524 w0 _ ?side1 ?side2 A2.out).mono ?_);(case side1 => exact Z170);(case side2 => exact Z172);rintro e w27 ⟨rfl,hi,hb,hk⟩;refine ⟨_,rfl,?_⟩;have n_ := jA (KeepBut.blk hk (g' := gb521) (o := .cells #[.int .i64 0,.int .i64 0,.int .i64 0,.int .i64 0,.int .i64 0,.int .i64 0] 35 (0,0)) Z518 NB521_0.out Z596) (jA (KeepBut.trans Z449 hk (.inl rfl)) (jA (hb) (Aside0.mk (hi))));clear BK521 HK HB HI0;obtain ⟨BK521,HK,HB,HI0⟩ := n_;(try clear hb);(try clear hb2);(try clear hk);(try clear hi)) | ((with_reducible refine gate_callee (f := 44) rfl ?_);refine goesL_ (some 7) rfl rfl Try.func44 Z580 rfl #[.pointer (some ⟨g,0,none⟩),.int .i64 4] rfl Z395 ?_;(with_reducible refine (spec_l1Below.calls g s0_0 t523 t524 4 t525 t526 t527 w0 _ ?side1 ?side2 A3.out).mono ?_);(case side1 => exact Z170);(case side2 => exact Z172);rintro e w28 ⟨rfl,hi,hb,hk⟩;refine ⟨_,rfl,?_⟩;have n_ := jA (KeepBut.blk hk (g' := gb521) (o := .cells #[.int .i64 0,.int .i64 0,.int .i64 0,.int .i64 0,.int .i64 0,.int .i64 0] 35 (0,0)) Z518 NB521_0.out Z596) (jA (KeepBut.trans Z449 hk (.inl rfl)) (jA (hb) (Aside0.mk (hi))));clear BK521 HK HB HI0;obtain ⟨BK521,HK,HB,HI0⟩ := n_;(try clear hb);(try clear hb2);(try clear hk);(try clear hi)) | ((with_reducible refine gate_callee (f := 51) rfl ?_);refine goesL_ (some 9) rfl rfl Try.func51 Z580 rfl #[.pointer (some ⟨g,0,none⟩)] rfl Z395 ?_;(with_reducible refine (spec_l14Slot.calls k g s0_0 t526 t527 t528 t529 t530 t531 w0 _ ?side1 ?side2 A4.out).mono ?_);(case side1 => exact Z170);(case side2 => exact Z172);rintro e w29 ⟨rfl,hi,hb,hk⟩;refine ⟨_,rfl,?_⟩;have n_ := jA (KeepBut.blk hk (g' := gb521) (o := .cells #[.int .i64 0,.int .i64 0,.int .i64 0,.int .i64 0,.int .i64 0,.int .i64 0] 35 (0,0)) Z518 NB521_0.out Z596) (jA (KeepBut.trans Z449 hk (.inl rfl)) (jA (hb) (Aside0.mk (hi))));clear BK521 HK HB HI0;obtain ⟨BK521,HK,HB,HI0⟩ := n_;(try clear hb);(try clear hb2);(try clear hk);(try clear hi)) | ((with_reducible refine gate_callee (f := 51) rfl ?_);refine goesL_ (some 11) rfl rfl Try.func51 Z580 rfl #[.pointer (some ⟨g,0,none⟩)] rfl Z395 ?_;(with_reducible refine (spec_l14Slot.calls k g s0_0 t530 t531 t532 t533 t534 t535 w0 _ ?side1 ?side2 A5.out).mono ?_);(case side1 => exact Z170);(case side2 => exact Z172);rintro e w30 ⟨rfl,hi,hb,hk⟩;refine ⟨_,rfl,?_⟩;have n_ := jA (KeepBut.blk hk (g' := gb521) (o := .cells #[.int .i64 0,.int .i64 0,.int .i64 0,.int .i64 0,.int .i64 0,.int .i64 0] 35 (0,0)) Z518 NB521_0.out Z596) (jA (KeepBut.trans Z449 hk (.inl rfl)) (jA (hb) (Aside0.mk (hi))));clear BK521 HK HB HI0;obtain ⟨BK521,HK,HB,HI0⟩ := n_;(try clear hb);(try clear hb2);(try clear hk);(try clear hi)) | ((with_reducible refine gate_dst (N := 3) rfl ?_);refine box_event ?hg (N := 3) ?hd (cs := #[.int .i64 0,.int .i64 0,.int .i64 0,.int .i64 0,.int .i64 0,.int .i64 0]) (t := 35) ?hr ?_;(case hd => rfl);(case hg => rfl);(case hr => exact Z515);intro gb536 hg w31 hbox hb;have n_ := jA (IsS76.below Z170 hb) (jA (blk_below (g := gb521) (o := .cells #[.int .i64 0,.int .i64 0,.int .i64 0,.int .i64 0,.int .i64 0,.int .i64 0] 35 (0,0)) Z518 hb) (jA (KeepBut.trans Z449 (KeepBut.of_below hb g none) (.inl rfl)) (jA (below_step Z172 hb) (jA (hbox) (jA ((Z106 : w.heap.size ≤ gb536)) (jA ((Nat.le_trans HW0.out (Z106 : w.heap.size ≤ gb536) : w0.heap.size ≤ gb536)) (jA ((Z220 : gb521 ≠ gb536)) (jA ((Z221 : gb536 ≠ gb521)) (jA ((by rw [hg];exact Nat.ne_of_lt (IsS76.lt (show IsS76 w0 _ g s0_0 t534 t535 from Z170)) : g ≠ gb536)) (Aside0.mk ((by rw [hg];exact Nat.ne_of_gt (IsS76.lt (show IsS76 w0 _ g s0_0 t534 t535 from Z170)) : gb536 ≠ g))))))))))));clear HI0 BK521 HK HB;obtain ⟨HI0,BK521,HK,HB,BK536,GW536,GE536,NB521_536,NB536_521,NB0_536,NB536_0⟩ := n_;clear hb hbox hg;have hnb32 := NB536_521.out;have hnc32 := NB521_536.out;have hnb33 := NB536_0.out;have hnc33 := NB0_536.out;obtain ⟨hcz34_0,hcz34_1,hcz34_2,hcz34_3,hcz34_4,hcz34_5,hfz34_0,hfz34_1,hfz34_2,hfz34_3,hfz34_4,hfz34_5⟩ := spec_l15Cand.cells6 BK536.out) | ((with_reducible refine gate_callee (f := 52) rfl ?_);refine goesL_ (some 14) rfl rfl Try.func52 Z580 rfl #[.pointer (some ⟨g,0,none⟩),.int .i64 4] rfl Z395 ?_;(with_reducible refine (spec_l1Once.calls g s0_0 t534 t535 4 true t538 t539 w0 _ ?side1 ?side2 A6.out).mono ?_);(case side1 => exact Z105);(case side2 => exact Z107);rintro e w35 ⟨rfl,hi,hb,hk⟩;refine ⟨_,rfl,?_⟩;have n_ := jA (KeepBut.blk hk (g' := gb521) (o := .cells #[.int .i64 0,.int .i64 0,.int .i64 0,.int .i64 0,.int .i64 0,.int .i64 0] 35 (0,0)) Z45 NB521_0.out Z596) (jA (KeepBut.blk hk (g' := gb536) (o := .cells #[.int .i64 t522,.int .i64 t525,.int .i64 t528,.int .i64 t529,.int .i64 t532,.int .i64 t533] 35 (0,0)) Z1 NB536_0.out Z596) (jA (KeepBut.trans Z166 hk (.inl rfl)) (jA (hb) (Aside0.mk (hi)))));clear BK521 BK536 HK HB HI0;obtain ⟨BK521,BK536,HK,HB,HI0⟩ := n_;(try clear hb);(try clear hb2);(try clear hk);(try clear hi);obtain ⟨hcz36_0,hcz36_1,hcz36_2,hcz36_3,hcz36_4,hcz36_5,hfz36_0,hfz36_1,hfz36_2,hfz36_3,hfz36_4,hfz36_5⟩ := spec_l15Cand.cells6 BK536.out;have hnb37 := NB521_0.out;have hnc37 := NB0_521.out;obtain ⟨hcz38_0,hcz38_1,hcz38_2,hcz38_3,hcz38_4,hcz38_5,hfz38_0,hfz38_1,hfz38_2,hfz38_3,hfz38_4,hfz38_5⟩ := spec_l15Cand.cells6 BK521.out))
        refine bodyPost_ret (results_cell_row rfl _ _ gb521 35 #[.int .i64 t522,.int .i64 t525,.int .i64 t528,.int .i64 t529,.int .i64 t532,.int .i64 t533] (0,0) _ rfl Z2 Try.underlying35 rfl Z580) rfl ?_
        exact ⟨Z400,Z105,Z107,Z166⟩
    · rw [if_neg c8] at H
      have c8b0 : decide (0 < t528) = false := decide_eq_false c8
      clear c8
      simp only [Option.some.injEq,Prod.mk.injEq] at H
      obtain ⟨rfl,rfl,rfl,rfl,rfl,rfl,rfl,rfl⟩ := H
      go_enter Try.func29,Try.ntmps29
      go_wp2_with (first | ((with_reducible refine gate_dst (N := 2) rfl ?_);refine box_event ?hg (N := 2) ?hd (cs := #[.int .i64 0,.int .i64 0,.int .i64 0,.int .i64 0,.int .i64 0,.int .i64 0]) (t := 35) ?hr ?_;(case hd => rfl);(case hg => rfl);(case hr => exact Z515);intro gb521 hg w39 hbox hb;have n_ := jA (IsS76.below Z228 hb) (jA (KeepBut.trans Z484 (KeepBut.of_below hb g none) (.inl rfl)) (jA (below_step Z227 hb) (jA (hbox) (jA ((Z168 : w.heap.size ≤ gb521)) (jA ((Nat.le_trans HW0.out (Z168 : w.heap.size ≤ gb521) : w0.heap.size ≤ gb521)) (jA ((by rw [hg];exact Nat.ne_of_lt (IsS76.lt (show IsS76 w0 _ g s0_0 s0_1 s0_2 from Z228)) : g ≠ gb521)) (Aside0.mk ((by rw [hg];exact Nat.ne_of_gt (IsS76.lt (show IsS76 w0 _ g s0_0 s0_1 s0_2 from Z228)) : gb521 ≠ g)))))))));clear HI0 HK HB;obtain ⟨HI0,HK,HB,BK521,GW521,GE521,NB0_521,NB521_0⟩ := n_;clear hb hbox hg) | ((with_reducible refine gate_callee (f := 44) rfl ?_);refine goesL_ (some 5) rfl rfl Try.func44 Z580 rfl #[.pointer (some ⟨g,0,none⟩),.int .i64 3] rfl Z395 ?_;(with_reducible refine (spec_l1Below.calls g s0_0 s0_1 s0_2 3 t522 t523 t524 w0 _ ?side1 ?side2 A2.out).mono ?_);(case side1 => exact Z170);(case side2 => exact Z172);rintro e w40 ⟨rfl,hi,hb,hk⟩;refine ⟨_,rfl,?_⟩;have n_ := jA (KeepBut.blk hk (g' := gb521) (o := .cells #[.int .i64 0,.int .i64 0,.int .i64 0,.int .i64 0,.int .i64 0,.int .i64 0] 35 (0,0)) Z518 NB521_0.out Z596) (jA (KeepBut.trans Z449 hk (.inl rfl)) (jA (hb) (Aside0.mk (hi))));clear BK521 HK HB HI0;obtain ⟨BK521,HK,HB,HI0⟩ := n_;(try clear hb);(try clear hb2);(try clear hk);(try clear hi)) | ((with_reducible refine gate_callee (f := 44) rfl ?_);refine goesL_ (some 7) rfl rfl Try.func44 Z580 rfl #[.pointer (some ⟨g,0,none⟩),.int .i64 4] rfl Z395 ?_;(with_reducible refine (spec_l1Below.calls g s0_0 t523 t524 4 t525 t526 t527 w0 _ ?side1 ?side2 A3.out).mono ?_);(case side1 => exact Z170);(case side2 => exact Z172);rintro e w41 ⟨rfl,hi,hb,hk⟩;refine ⟨_,rfl,?_⟩;have n_ := jA (KeepBut.blk hk (g' := gb521) (o := .cells #[.int .i64 0,.int .i64 0,.int .i64 0,.int .i64 0,.int .i64 0,.int .i64 0] 35 (0,0)) Z518 NB521_0.out Z596) (jA (KeepBut.trans Z449 hk (.inl rfl)) (jA (hb) (Aside0.mk (hi))));clear BK521 HK HB HI0;obtain ⟨BK521,HK,HB,HI0⟩ := n_;(try clear hb);(try clear hb2);(try clear hk);(try clear hi)) | ((with_reducible refine gate_callee (f := 51) rfl ?_);refine goesL_ (some 9) rfl rfl Try.func51 Z580 rfl #[.pointer (some ⟨g,0,none⟩)] rfl Z395 ?_;(with_reducible refine (spec_l14Slot.calls k g s0_0 t526 t527 t528 t529 t530 t531 w0 _ ?side1 ?side2 A4.out).mono ?_);(case side1 => exact Z170);(case side2 => exact Z172);rintro e w42 ⟨rfl,hi,hb,hk⟩;refine ⟨_,rfl,?_⟩;have n_ := jA (KeepBut.blk hk (g' := gb521) (o := .cells #[.int .i64 0,.int .i64 0,.int .i64 0,.int .i64 0,.int .i64 0,.int .i64 0] 35 (0,0)) Z518 NB521_0.out Z596) (jA (KeepBut.trans Z449 hk (.inl rfl)) (jA (hb) (Aside0.mk (hi))));clear BK521 HK HB HI0;obtain ⟨BK521,HK,HB,HI0⟩ := n_;(try clear hb);(try clear hb2);(try clear hk);(try clear hi)) | ((with_reducible refine gate_callee (f := 51) rfl ?_);refine goesL_ (some 11) rfl rfl Try.func51 Z580 rfl #[.pointer (some ⟨g,0,none⟩)] rfl Z395 ?_;(with_reducible refine (spec_l14Slot.calls k g s0_0 t530 t531 t532 t533 t534 t535 w0 _ ?side1 ?side2 A5.out).mono ?_);(case side1 => exact Z170);(case side2 => exact Z172);rintro e w43 ⟨rfl,hi,hb,hk⟩;refine ⟨_,rfl,?_⟩;have n_ := jA (KeepBut.blk hk (g' := gb521) (o := .cells #[.int .i64 0,.int .i64 0,.int .i64 0,.int .i64 0,.int .i64 0,.int .i64 0] 35 (0,0)) Z518 NB521_0.out Z596) (jA (KeepBut.trans Z449 hk (.inl rfl)) (jA (hb) (Aside0.mk (hi))));clear BK521 HK HB HI0;obtain ⟨BK521,HK,HB,HI0⟩ := n_;(try clear hb);(try clear hb2);(try clear hk);(try clear hi)) | ((with_reducible refine gate_dst (N := 3) rfl ?_);refine box_event ?hg (N := 3) ?hd (cs := #[.int .i64 0,.int .i64 0,.int .i64 0,.int .i64 0,.int .i64 0,.int .i64 0]) (t := 35) ?hr ?_;(case hd => rfl);(case hg => rfl);(case hr => exact Z515);intro gb536 hg w44 hbox hb;have n_ := jA (IsS76.below Z170 hb) (jA (blk_below (g := gb521) (o := .cells #[.int .i64 0,.int .i64 0,.int .i64 0,.int .i64 0,.int .i64 0,.int .i64 0] 35 (0,0)) Z518 hb) (jA (KeepBut.trans Z449 (KeepBut.of_below hb g none) (.inl rfl)) (jA (below_step Z172 hb) (jA (hbox) (jA ((Z106 : w.heap.size ≤ gb536)) (jA ((Nat.le_trans HW0.out (Z106 : w.heap.size ≤ gb536) : w0.heap.size ≤ gb536)) (jA ((Z220 : gb521 ≠ gb536)) (jA ((Z221 : gb536 ≠ gb521)) (jA ((by rw [hg];exact Nat.ne_of_lt (IsS76.lt (show IsS76 w0 _ g s0_0 t534 t535 from Z170)) : g ≠ gb536)) (Aside0.mk ((by rw [hg];exact Nat.ne_of_gt (IsS76.lt (show IsS76 w0 _ g s0_0 t534 t535 from Z170)) : gb536 ≠ g))))))))))));clear HI0 BK521 HK HB;obtain ⟨HI0,BK521,HK,HB,BK536,GW536,GE536,NB521_536,NB536_521,NB0_536,NB536_0⟩ := n_;clear hb hbox hg;have hnb45 := NB536_521.out;have hnc45 := NB521_536.out;have hnb46 := NB536_0.out;have hnc46 := NB0_536.out;obtain ⟨hcz47_0,hcz47_1,hcz47_2,hcz47_3,hcz47_4,hcz47_5,hfz47_0,hfz47_1,hfz47_2,hfz47_3,hfz47_4,hfz47_5⟩ := spec_l15Cand.cells6 BK536.out) | ((with_reducible refine gate_callee (f := 52) rfl ?_);refine goesL_ (some 14) rfl rfl Try.func52 Z580 rfl #[.pointer (some ⟨g,0,none⟩),.int .i64 4] rfl Z395 ?_;(with_reducible refine (spec_l1Once.calls g s0_0 t534 t535 4 true t538 t539 w0 _ ?side1 ?side2 A6.out).mono ?_);(case side1 => exact Z105);(case side2 => exact Z107);rintro e w48 ⟨rfl,hi,hb,hk⟩;refine ⟨_,rfl,?_⟩;have n_ := jA (KeepBut.blk hk (g' := gb521) (o := .cells #[.int .i64 0,.int .i64 0,.int .i64 0,.int .i64 0,.int .i64 0,.int .i64 0] 35 (0,0)) Z45 NB521_0.out Z596) (jA (KeepBut.blk hk (g' := gb536) (o := .cells #[.int .i64 t522,.int .i64 t525,.int .i64 t528,.int .i64 t529,.int .i64 t532,.int .i64 t533] 35 (0,0)) Z1 NB536_0.out Z596) (jA (KeepBut.trans Z166 hk (.inl rfl)) (jA (hb) (Aside0.mk (hi)))));clear BK521 BK536 HK HB HI0;obtain ⟨BK521,BK536,HK,HB,HI0⟩ := n_;(try clear hb);(try clear hb2);(try clear hk);(try clear hi);obtain ⟨hcz49_0,hcz49_1,hcz49_2,hcz49_3,hcz49_4,hcz49_5,hfz49_0,hfz49_1,hfz49_2,hfz49_3,hfz49_4,hfz49_5⟩ := spec_l15Cand.cells6 BK536.out;have hnb50 := NB521_0.out;have hnc50 := NB0_521.out;obtain ⟨hcz51_0,hcz51_1,hcz51_2,hcz51_3,hcz51_4,hcz51_5,hfz51_0,hfz51_1,hfz51_2,hfz51_3,hfz51_4,hfz51_5⟩ := spec_l15Cand.cells6 BK521.out))
      refine bodyPost_ret (results_cell_row rfl _ _ gb521 35 #[.int .i64 t522,.int .i64 t525,.int .i64 t528,.int .i64 t529,.int .i64 t532,.int .i64 t533] (0,0) _ rfl Z2 Try.underlying35 rfl Z580) rfl ?_
      exact ⟨Z400,Z105,Z107,Z166⟩
  · replace c7 := Bool.eq_false_iff.mpr c7
    subst c7
    have H1 : (some (t522,t525,t528,t529,t532,t533,t538,t539)) = some (r1,r2,r3,r4,r5,r6,r7,r8) := by rw [if_neg (show ¬ (false = true) by decide)] at H;exact H
    clear H
    have H := H1
    clear H1
    simp only [Option.some.injEq,Prod.mk.injEq] at H
    obtain ⟨rfl,rfl,rfl,rfl,rfl,rfl,rfl,rfl⟩ := H
    go_enter Try.func29,Try.ntmps29
    go_wp2_with (first | ((with_reducible refine gate_dst (N := 2) rfl ?_);refine box_event ?hg (N := 2) ?hd (cs := #[.int .i64 0,.int .i64 0,.int .i64 0,.int .i64 0,.int .i64 0,.int .i64 0]) (t := 35) ?hr ?_;(case hd => rfl);(case hg => rfl);(case hr => exact Z515);intro gb521 hg w52 hbox hb;have n_ := jA (IsS76.below Z228 hb) (jA (KeepBut.trans Z484 (KeepBut.of_below hb g none) (.inl rfl)) (jA (below_step Z227 hb) (jA (hbox) (jA ((Z168 : w.heap.size ≤ gb521)) (jA ((Nat.le_trans HW0.out (Z168 : w.heap.size ≤ gb521) : w0.heap.size ≤ gb521)) (jA ((by rw [hg];exact Nat.ne_of_lt (IsS76.lt (show IsS76 w0 _ g s0_0 s0_1 s0_2 from Z228)) : g ≠ gb521)) (Aside0.mk ((by rw [hg];exact Nat.ne_of_gt (IsS76.lt (show IsS76 w0 _ g s0_0 s0_1 s0_2 from Z228)) : gb521 ≠ g)))))))));clear HI0 HK HB;obtain ⟨HI0,HK,HB,BK521,GW521,GE521,NB0_521,NB521_0⟩ := n_;clear hb hbox hg) | ((with_reducible refine gate_callee (f := 44) rfl ?_);refine goesL_ (some 5) rfl rfl Try.func44 Z580 rfl #[.pointer (some ⟨g,0,none⟩),.int .i64 3] rfl Z395 ?_;(with_reducible refine (spec_l1Below.calls g s0_0 s0_1 s0_2 3 t522 t523 t524 w0 _ ?side1 ?side2 A2.out).mono ?_);(case side1 => exact Z170);(case side2 => exact Z172);rintro e w53 ⟨rfl,hi,hb,hk⟩;refine ⟨_,rfl,?_⟩;have n_ := jA (KeepBut.blk hk (g' := gb521) (o := .cells #[.int .i64 0,.int .i64 0,.int .i64 0,.int .i64 0,.int .i64 0,.int .i64 0] 35 (0,0)) Z518 NB521_0.out Z596) (jA (KeepBut.trans Z449 hk (.inl rfl)) (jA (hb) (Aside0.mk (hi))));clear BK521 HK HB HI0;obtain ⟨BK521,HK,HB,HI0⟩ := n_;(try clear hb);(try clear hb2);(try clear hk);(try clear hi)) | ((with_reducible refine gate_callee (f := 44) rfl ?_);refine goesL_ (some 7) rfl rfl Try.func44 Z580 rfl #[.pointer (some ⟨g,0,none⟩),.int .i64 4] rfl Z395 ?_;(with_reducible refine (spec_l1Below.calls g s0_0 t523 t524 4 t525 t526 t527 w0 _ ?side1 ?side2 A3.out).mono ?_);(case side1 => exact Z170);(case side2 => exact Z172);rintro e w54 ⟨rfl,hi,hb,hk⟩;refine ⟨_,rfl,?_⟩;have n_ := jA (KeepBut.blk hk (g' := gb521) (o := .cells #[.int .i64 0,.int .i64 0,.int .i64 0,.int .i64 0,.int .i64 0,.int .i64 0] 35 (0,0)) Z518 NB521_0.out Z596) (jA (KeepBut.trans Z449 hk (.inl rfl)) (jA (hb) (Aside0.mk (hi))));clear BK521 HK HB HI0;obtain ⟨BK521,HK,HB,HI0⟩ := n_;(try clear hb);(try clear hb2);(try clear hk);(try clear hi)) | ((with_reducible refine gate_callee (f := 51) rfl ?_);refine goesL_ (some 9) rfl rfl Try.func51 Z580 rfl #[.pointer (some ⟨g,0,none⟩)] rfl Z395 ?_;(with_reducible refine (spec_l14Slot.calls k g s0_0 t526 t527 t528 t529 t530 t531 w0 _ ?side1 ?side2 A4.out).mono ?_);(case side1 => exact Z170);(case side2 => exact Z172);rintro e w55 ⟨rfl,hi,hb,hk⟩;refine ⟨_,rfl,?_⟩;have n_ := jA (KeepBut.blk hk (g' := gb521) (o := .cells #[.int .i64 0,.int .i64 0,.int .i64 0,.int .i64 0,.int .i64 0,.int .i64 0] 35 (0,0)) Z518 NB521_0.out Z596) (jA (KeepBut.trans Z449 hk (.inl rfl)) (jA (hb) (Aside0.mk (hi))));clear BK521 HK HB HI0;obtain ⟨BK521,HK,HB,HI0⟩ := n_;(try clear hb);(try clear hb2);(try clear hk);(try clear hi)) | ((with_reducible refine gate_callee (f := 51) rfl ?_);refine goesL_ (some 11) rfl rfl Try.func51 Z580 rfl #[.pointer (some ⟨g,0,none⟩)] rfl Z395 ?_;(with_reducible refine (spec_l14Slot.calls k g s0_0 t530 t531 t532 t533 t534 t535 w0 _ ?side1 ?side2 A5.out).mono ?_);(case side1 => exact Z170);(case side2 => exact Z172);rintro e w56 ⟨rfl,hi,hb,hk⟩;refine ⟨_,rfl,?_⟩;have n_ := jA (KeepBut.blk hk (g' := gb521) (o := .cells #[.int .i64 0,.int .i64 0,.int .i64 0,.int .i64 0,.int .i64 0,.int .i64 0] 35 (0,0)) Z518 NB521_0.out Z596) (jA (KeepBut.trans Z449 hk (.inl rfl)) (jA (hb) (Aside0.mk (hi))));clear BK521 HK HB HI0;obtain ⟨BK521,HK,HB,HI0⟩ := n_;(try clear hb);(try clear hb2);(try clear hk);(try clear hi)) | ((with_reducible refine gate_dst (N := 3) rfl ?_);refine box_event ?hg (N := 3) ?hd (cs := #[.int .i64 0,.int .i64 0,.int .i64 0,.int .i64 0,.int .i64 0,.int .i64 0]) (t := 35) ?hr ?_;(case hd => rfl);(case hg => rfl);(case hr => exact Z515);intro gb536 hg w57 hbox hb;have n_ := jA (IsS76.below Z170 hb) (jA (blk_below (g := gb521) (o := .cells #[.int .i64 0,.int .i64 0,.int .i64 0,.int .i64 0,.int .i64 0,.int .i64 0] 35 (0,0)) Z518 hb) (jA (KeepBut.trans Z449 (KeepBut.of_below hb g none) (.inl rfl)) (jA (below_step Z172 hb) (jA (hbox) (jA ((Z106 : w.heap.size ≤ gb536)) (jA ((Nat.le_trans HW0.out (Z106 : w.heap.size ≤ gb536) : w0.heap.size ≤ gb536)) (jA ((Z220 : gb521 ≠ gb536)) (jA ((Z221 : gb536 ≠ gb521)) (jA ((by rw [hg];exact Nat.ne_of_lt (IsS76.lt (show IsS76 w0 _ g s0_0 t534 t535 from Z170)) : g ≠ gb536)) (Aside0.mk ((by rw [hg];exact Nat.ne_of_gt (IsS76.lt (show IsS76 w0 _ g s0_0 t534 t535 from Z170)) : gb536 ≠ g))))))))))));clear HI0 BK521 HK HB;obtain ⟨HI0,BK521,HK,HB,BK536,GW536,GE536,NB521_536,NB536_521,NB0_536,NB536_0⟩ := n_;clear hb hbox hg;have hnb58 := NB536_521.out;have hnc58 := NB521_536.out;have hnb59 := NB536_0.out;have hnc59 := NB0_536.out;obtain ⟨hcz60_0,hcz60_1,hcz60_2,hcz60_3,hcz60_4,hcz60_5,hfz60_0,hfz60_1,hfz60_2,hfz60_3,hfz60_4,hfz60_5⟩ := spec_l15Cand.cells6 BK536.out) | ((with_reducible refine gate_callee (f := 52) rfl ?_);refine goesL_ (some 14) rfl rfl Try.func52 Z580 rfl #[.pointer (some ⟨g,0,none⟩),.int .i64 4] rfl Z395 ?_;(with_reducible refine (spec_l1Once.calls g s0_0 t534 t535 4 false t538 t539 w0 _ ?side1 ?side2 A6.out).mono ?_);(case side1 => exact Z105);(case side2 => exact Z107);rintro e w61 ⟨rfl,hi,hb,hk⟩;refine ⟨_,rfl,?_⟩;have n_ := jA (KeepBut.blk hk (g' := gb521) (o := .cells #[.int .i64 0,.int .i64 0,.int .i64 0,.int .i64 0,.int .i64 0,.int .i64 0] 35 (0,0)) Z45 NB521_0.out Z596) (jA (KeepBut.blk hk (g' := gb536) (o := .cells #[.int .i64 t522,.int .i64 t525,.int .i64 t528,.int .i64 t529,.int .i64 t532,.int .i64 t533] 35 (0,0)) Z1 NB536_0.out Z596) (jA (KeepBut.trans Z166 hk (.inl rfl)) (jA (hb) (Aside0.mk (hi)))));clear BK521 BK536 HK HB HI0;obtain ⟨BK521,BK536,HK,HB,HI0⟩ := n_;(try clear hb);(try clear hb2);(try clear hk);(try clear hi);obtain ⟨hcz62_0,hcz62_1,hcz62_2,hcz62_3,hcz62_4,hcz62_5,hfz62_0,hfz62_1,hfz62_2,hfz62_3,hfz62_4,hfz62_5⟩ := spec_l15Cand.cells6 BK536.out;have hnb63 := NB521_0.out;have hnc63 := NB0_521.out;obtain ⟨hcz64_0,hcz64_1,hcz64_2,hcz64_3,hcz64_4,hcz64_5,hfz64_0,hfz64_1,hfz64_2,hfz64_3,hfz64_4,hfz64_5⟩ := spec_l15Cand.cells6 BK521.out))
    refine bodyPost_ret (results_cell_row rfl _ _ gb521 35 #[.int .i64 t522,.int .i64 t525,.int .i64 t528,.int .i64 t529,.int .i64 t532,.int .i64 t533] (0,0) _ rfl Z2 Try.underlying35 rfl Z580) rfl ?_
    exact ⟨Z400,Z105,Z107,Z166⟩

/-! ### spec_DrawGainOf: function 14 -/
theorem spec_DrawGainOf.cells6 {w : World} {g : Nat} {t : TypeId} {a0 a1 a2 a3 a4 a5 : Value} (h : w.heap[g]? = some (.cells #[a0,a1,a2,a3,a4,a5] t (0,0))) : w.cell? ⟨g,0,none⟩ = some a0 ∧ w.cell? ⟨g,1,none⟩ = some a1 ∧ w.cell? ⟨g,2,none⟩ = some a2 ∧ w.cell? ⟨g,3,none⟩ = some a3 ∧ w.cell? ⟨g,4,none⟩ = some a4 ∧ w.cell? ⟨g,5,none⟩ = some a5 ∧ w.frozen? ⟨g,0,none⟩ = false ∧ w.frozen? ⟨g,1,none⟩ = false ∧ w.frozen? ⟨g,2,none⟩ = false ∧ w.frozen? ⟨g,3,none⟩ = false ∧ w.frozen? ⟨g,4,none⟩ = false ∧ w.frozen? ⟨g,5,none⟩ = false := ⟨(blk_cell h 0).trans rfl,(blk_cell h 1).trans rfl,(blk_cell h 2).trans rfl,(blk_cell h 3).trans rfl,(blk_cell h 4).trans rfl,(blk_cell h 5).trans rfl,blk_frozen h 0,blk_frozen h 1,blk_frozen h 2,blk_frozen h 3,blk_frozen h 4,blk_frozen h 5⟩
def spec_DrawGainOf.f (k : Nat) (l0 : List Int) : Option (Int × Int × Int × Int × Int × Int × Int) := (spec_l1New.f k l0).bind fun bt544 => ((spec_l15Cand.f k bt544.1 bt544.2.1 bt544.2.2).bind fun bt548 => ((spec_l1PickInt.f bt544.1 bt548.2.2.2.2.2.2.1 bt548.2.2.2.2.2.2.2 (([1,2,100,101,0] : List Int))).bind fun bt559 => (some (bt548.1,bt548.2.1,bt548.2.2.1,bt548.2.2.2.1,bt548.2.2.2.2.1,bt548.2.2.2.2.2.1,bt559.1))))
theorem spec_DrawGainOf.mono : ∀ a0 k,LeO (spec_DrawGainOf.f k a0) (spec_DrawGainOf.f (k + 1) a0) := by
  intro a0 k
  unfold spec_DrawGainOf.f
  repeat' first
      | (with_reducible exact spec_l15Cand.mono _ _ _ _)
      | (with_reducible exact spec_l1New.mono _ _)
      | (with_reducible exact LeO.refl _)
      | (with_reducible exact LeO.none _)
      | (with_reducible refine LeO.ite ?_ ?_)
      | (with_reducible refine LeO.bind ?_ (fun _ => ?_))
      | exact spec_l15Cand.mono _ _ _ _
      | exact spec_l1New.mono _ _
      | exact LeO.none _
      | refine LeO.ite ?_ ?_
      | refine LeO.bind ?_ (fun _ => ?_)
set_option maxHeartbeats 8000000 in
set_option maxRecDepth 100000 in
theorem spec_DrawGainOf.calls (k : Nat) (A0 : Option Addr) (c0 : Nat) (l0 : List Int) (r1 : Int) (r2 : Int) (r3 : Int) (r4 : Int) (r5 : Int) (r6 : Int) (r7 : Int) (w : World) (hr0 : Kd.C (Kd.int .u8) w A0 l0.length l0) (hc0 : l0.length ≤ c0) (h : spec_DrawGainOf.f k l0 = some (r1,r2,r3,r4,r5,r6,r7)) :
    Calls Try.prog 14 #[.slice A0 l0.length c0] w fun e w' => e = .returned (.tuple #[.agg #[.int .i64 r1,.int .i64 r2,.int .i64 r3,.int .i64 r4,.int .i64 r5,.int .i64 r6],.int .i64 r7]) ∧ Below w.heap.size w w' := by
  have hu35 := Try.underlying35
  have HR0 := Aside0.mk hr0
  have HC0 := Aside0.mk hc0
  clear hr0 hc0
  have HB := Aside0.mk (Below.refl w.heap.size w)
  have H : ((spec_l1New.f k l0).bind fun bt544 => ((spec_l15Cand.f k bt544.1 bt544.2.1 bt544.2.2).bind fun bt548 => ((spec_l1PickInt.f bt544.1 bt548.2.2.2.2.2.2.1 bt548.2.2.2.2.2.2.2 (([1,2,100,101,0] : List Int))).bind fun bt559 => (some (bt548.1,bt548.2.1,bt548.2.2.1,bt548.2.2.2.1,bt548.2.2.2.2.1,bt548.2.2.2.2.2.1,bt559.1))))) = some (r1,r2,r3,r4,r5,r6,r7) := h
  clear h
  obtain ⟨⟨t544,t545,t546⟩,A20,H⟩ := Option.bind_eq_some_iff.mp H
  try dsimp only at H
  have A2 := Aside0.mk A20
  clear A20
  obtain ⟨⟨t548,t549,t550,t551,t552,t553,t554,t555⟩,A30,H⟩ := Option.bind_eq_some_iff.mp H
  try dsimp only at H
  have A3 := Aside0.mk A30
  clear A30
  obtain ⟨y556,hy556⟩ : ∃ y_ : List Int,y_ = (([1,2,100,101,0] : List Int)) := ⟨_,rfl⟩
  replace H : ((spec_l1PickInt.f t544 t554 t555 y556).bind fun bt559 => (some (t548,t549,t550,t551,t552,t553,bt559.1))) = some (r1,r2,r3,r4,r5,r6,r7) := by first | (rw [hy556];with_reducible exact H) | (have H2_ := (Option.bind_some _ _).symm.trans H;rw [hy556];with_reducible exact H2_) | (have H2_ := (Option.bind_some _ _).symm.trans H;with_reducible exact H2_) | with_reducible exact H | (rw [hy556];exact H) | exact H
  have Ny556 := Aside0.mk hy556
  clear hy556
  obtain ⟨⟨t559,t560,t561⟩,A40,H⟩ := Option.bind_eq_some_iff.mp H
  try dsimp only at H
  have A4 := Aside0.mk A40
  clear A40
  simp only [Option.some.injEq,Prod.mk.injEq] at H
  obtain ⟨rfl,rfl,rfl,rfl,rfl,rfl,rfl⟩ := H
  go_enter Try.func14,Try.ntmps14
  go_wp2_with (first | ((with_reducible refine gate_dst (N := 2) rfl ?_);refine box_event ?hg (N := 2) ?hd (cs := #[.int .i64 0,.int .i64 0,.int .i64 0,.int .i64 0,.int .i64 0,.int .i64 0]) (t := 35) ?hr ?_;(case hd => rfl);(case hg => rfl);(case hr => exact Z515);intro gb543 hg w5 hbox hb;have n_ := jA (below_step Z486 hb) (jA (hbox) (jA ((Z271 : w.heap.size ≤ gb543)) (Aside0.mk ((Z271 : w.heap.size ≤ gb543)))));clear HB;obtain ⟨HB,BK543,GW543,GE543⟩ := n_;clear hb hbox hg) | ((with_reducible refine gate_callee (f := 28) rfl ?_);refine goesL_ (some 6) rfl rfl Try.func28 Z580 rfl #[.slice A0 l0.length c0] rfl Z395 ?_;(with_reducible refine (spec_l1New.calls k _ _ l0 t544 t545 t546 w _ ?side1 ?side2 ?side3 A2.out).mono ?_);(case side1 => repeat (first | (with_reducible first | exact HB.out | apply below_alloc | apply pw_below_drewN | apply below_drew1 | refine below_set ?_ GE543.out) | exact HB.out));(case side2 => exact HR0.out);(case side3 => exact HC0.out);rintro e w6 ⟨g547,rfl,hi,hb,hb2⟩;refine ⟨_,rfl,?_⟩;have n_ := jA (blk_below (g := gb543) (o := .cells #[.int .i64 0,.int .i64 0,.int .i64 0,.int .i64 0,.int .i64 0,.int .i64 0] 35 (0,0)) Z559 hb2) (jA (hb) (jA (hi) (jA (IsS76.ne_blk hi (blk_below (g := gb543) (o := .cells #[.int .i64 0,.int .i64 0,.int .i64 0,.int .i64 0,.int .i64 0,.int .i64 0] 35 (0,0)) Z559 hb2) Z581) (Aside0.mk (Ne.symm (IsS76.ne_blk hi (blk_below (g := gb543) (o := .cells #[.int .i64 0,.int .i64 0,.int .i64 0,.int .i64 0,.int .i64 0,.int .i64 0] 35 (0,0)) Z559 hb2) Z581))))));clear BK543 HB;obtain ⟨BK543,HB,HI547,NB547_543,NB543_547⟩ := n_;(try clear hb);(try clear hb2);(try clear hk);(try clear hi)) | ((with_reducible refine gate_callee (f := 29) rfl ?_);refine goesL_ (some 8) rfl rfl Try.func29 Z580 rfl #[.pointer (some ⟨g547,0,none⟩)] rfl Z395 ?_;(with_reducible refine (spec_l15Cand.calls k g547 t544 t545 t546 t548 t549 t550 t551 t552 t553 t554 t555 w _ ?side1 ?side2 A3.out).mono ?_);(case side1 => exact Z167);(case side2 => exact Z169);rintro e w7 ⟨rfl,hi,hb,hk⟩;refine ⟨_,rfl,?_⟩;have n_ := jA (KeepBut.blk hk (g' := gb543) (o := .cells #[.int .i64 0,.int .i64 0,.int .i64 0,.int .i64 0,.int .i64 0,.int .i64 0] 35 (0,0)) Z559 NB543_547.out Z596) (jA (hb) (Aside0.mk (hi)));clear BK543 HB HI547;obtain ⟨BK543,HB,HI547⟩ := n_;(try clear hb);(try clear hb2);(try clear hk);(try clear hi)) | ((with_reducible refine gate_dst (N := 10) rfl ?_);refine Kd.R_lit (Kd.int .i64) _ 3 ?hg (N := 10) ?hd (xs := ([1,2,100,101,0] : List Int)) (inner := [.int .i64 1,.int .i64 2,.int .i64 100,.int .i64 101,.int .i64 0]) (ok := fun _ => True) (okp := fun _ => True) ?hr ?hp (fun _ hk => hk) trivial (Below.refl _ _) (Nat.le_refl _) Z596 ?_;(case hd => rfl);(case hg => rfl);(case hr => exact Z515);(case hp => exact (Reps.one (show Kd.M (Kd.int .i64) _ _ _ 1 [.int .i64 1] from rfl) (Reps.one (show Kd.M (Kd.int .i64) _ _ _ 2 [.int .i64 2] from rfl) (Reps.one (show Kd.M (Kd.int .i64) _ _ _ 100 [.int .i64 100] from rfl) (Reps.one (show Kd.M (Kd.int .i64) _ _ _ 101 [.int .i64 101] from rfl) (Reps.one (show Kd.M (Kd.int .i64) _ _ _ 0 [.int .i64 0] from rfl) (Reps.none _ _)))))));intro v557 w8 ho9 hb hg_ hnew_;clear hg_ hnew_;(first | rw [← Ny556.out] at ho9 | (simp only [Int.reduceToNat] at ho9;rw [← Ny556.out] at ho9));have n_ := jA (Kd.R_lower ho9 (below_size Z169)) (jA (blk_below (g := gb543) (o := .cells #[.int .i64 0,.int .i64 0,.int .i64 0,.int .i64 0,.int .i64 0,.int .i64 0] 35 (0,0)) Z559 hb) (jA (IsS76.below Z167 hb) (Aside0.mk (below_step Z169 hb))));clear BK543 HI547 HB;obtain ⟨HO558,BK543,HI547,HB⟩ := n_;clear hb ho9;obtain ⟨Ao10,co10,eo10⟩ := Kd.R_slice HO558.out;subst eo10) | ((with_reducible refine gate_callee (f := 30) rfl ?_);refine goesL_ (some 11) rfl rfl Try.func30 Z580 rfl #[.pointer (some ⟨g547,0,none⟩),.slice Ao10 y556.length co10] rfl Z395 ?_;(with_reducible refine (spec_l1PickInt.calls g547 t544 t554 t555 _ _ y556 t559 t560 t561 w _ ?side1 ?side2 ?side3 ?side4 ?side5 A4.out).mono ?_);(case side1 => exact Z167);(case side2 => exact Z169);(case side3 => repeat (first | exact (Kd.R_reads' HO558.out).2.2 | (with_reducible refine Kd.C_alloc ?_ _) | (with_reducible refine Kd.C_drewN ?_ _) | (with_reducible refine Kd.C_drew ?_)));(case side4 => exact (Kd.R_reads' HO558.out).2.1);(case side5 => exact far_slice (IsS76.own_ne HI547.out HO558.out Z581));rintro e w11 ⟨rfl,hi,hb,hk⟩;refine ⟨_,rfl,?_⟩;have n_ := jA (KeepBut.blk hk (g' := gb543) (o := .cells #[.int .i64 0,.int .i64 0,.int .i64 0,.int .i64 0,.int .i64 0,.int .i64 0] 35 (0,0)) Z559 NB543_547.out Z596) (jA (Kd.R_mono (Kd.R_keep (IsS76.apart (show IsS76 w _ g547 t544 t554 t555 from Z167) (by (with_reducible repeat (first | apply Kd.R_alloc | apply Kd.R_drewN | apply Kd.R_drew));exact HO558.out) Z581) hk (fun _ h => h.2)) (fun _ h => h.1)) (jA (hb) (Aside0.mk (hi))));clear BK543 HO558 HB HI547;obtain ⟨BK543,HO558,HB,HI547⟩ := n_;(try clear hb);(try clear hb2);(try clear hk);(try clear hi);have hnb12 := NB543_547.out;have hnc12 := NB547_543.out;obtain ⟨hcz13_0,hcz13_1,hcz13_2,hcz13_3,hcz13_4,hcz13_5,hfz13_0,hfz13_1,hfz13_2,hfz13_3,hfz13_4,hfz13_5⟩ := spec_DrawGainOf.cells6 BK543.out))
  refine bodyPost_ret (results_ct rfl _ _ gb543 35 #[.int .i64 t548,.int .i64 t549,.int .i64 t550,.int .i64 t551,.int .i64 t552,.int .i64 t553] (0,0) _ rfl (by refine bP ?_;refine blk_put (cs := #[.int .i64 t548,.int .i64 t549,.int .i64 t550,.int .i64 t551,.int .i64 t552,.int .i64 0]) ?_ 5 _ rfl;refine bP ?_;refine blk_put (cs := #[.int .i64 t548,.int .i64 t549,.int .i64 t550,.int .i64 t551,.int .i64 0,.int .i64 0]) ?_ 4 _ rfl;refine bP ?_;refine blk_put (cs := #[.int .i64 t548,.int .i64 t549,.int .i64 t550,.int .i64 0,.int .i64 0,.int .i64 0]) ?_ 3 _ rfl;refine bP ?_;refine blk_put (cs := #[.int .i64 t548,.int .i64 t549,.int .i64 0,.int .i64 0,.int .i64 0,.int .i64 0]) ?_ 2 _ rfl;refine bP ?_;refine blk_put (cs := #[.int .i64 t548,.int .i64 0,.int .i64 0,.int .i64 0,.int .i64 0,.int .i64 0]) ?_ 1 _ rfl;refine bP ?_;refine blk_put (cs := #[.int .i64 0,.int .i64 0,.int .i64 0,.int .i64 0,.int .i64 0,.int .i64 0]) ?_ 0 _ rfl;refine bP ?_;exact BK543.out) Try.underlying35 rfl Z580) rfl ?_
  exact ⟨Z400,Z169⟩

/-! ### spec_DrawImproves: function 20 -/
theorem spec_DrawImproves.cells6 {w : World} {g : Nat} {t : TypeId} {a0 a1 a2 a3 a4 a5 : Value} (h : w.heap[g]? = some (.cells #[a0,a1,a2,a3,a4,a5] t (0,0))) : w.cell? ⟨g,0,none⟩ = some a0 ∧ w.cell? ⟨g,1,none⟩ = some a1 ∧ w.cell? ⟨g,2,none⟩ = some a2 ∧ w.cell? ⟨g,3,none⟩ = some a3 ∧ w.cell? ⟨g,4,none⟩ = some a4 ∧ w.cell? ⟨g,5,none⟩ = some a5 ∧ w.frozen? ⟨g,0,none⟩ = false ∧ w.frozen? ⟨g,1,none⟩ = false ∧ w.frozen? ⟨g,2,none⟩ = false ∧ w.frozen? ⟨g,3,none⟩ = false ∧ w.frozen? ⟨g,4,none⟩ = false ∧ w.frozen? ⟨g,5,none⟩ = false := ⟨(blk_cell h 0).trans rfl,(blk_cell h 1).trans rfl,(blk_cell h 2).trans rfl,(blk_cell h 3).trans rfl,(blk_cell h 4).trans rfl,(blk_cell h 5).trans rfl,blk_frozen h 0,blk_frozen h 1,blk_frozen h 2,blk_frozen h 3,blk_frozen h 4,blk_frozen h 5⟩
def spec_DrawImproves.f (k : Nat) (l0 : List Int) : Option (Int × Int × Int × Int × Int × Int × Int) := (spec_DrawGainOf.f k l0).bind fun bt563 => (some (bt563.1,bt563.2.1,bt563.2.2.1,bt563.2.2.2.1,bt563.2.2.2.2.1,bt563.2.2.2.2.2.1,bt563.2.2.2.2.2.2))
theorem spec_DrawImproves.mono : ∀ a0 k,LeO (spec_DrawImproves.f k a0) (spec_DrawImproves.f (k + 1) a0) := by
  intro a0 k
  unfold spec_DrawImproves.f
  repeat' first
      | (with_reducible exact spec_DrawGainOf.mono _ _)
      | (with_reducible exact LeO.refl _)
      | (with_reducible exact LeO.none _)
      | (with_reducible refine LeO.ite ?_ ?_)
      | (with_reducible refine LeO.bind ?_ (fun _ => ?_))
      | exact spec_DrawGainOf.mono _ _
      | exact LeO.none _
      | refine LeO.ite ?_ ?_
      | refine LeO.bind ?_ (fun _ => ?_)
set_option maxHeartbeats 8000000 in
set_option maxRecDepth 100000 in
theorem spec_DrawImproves.calls (k : Nat) (A0 : Option Addr) (c0 : Nat) (l0 : List Int) (r1 : Int) (r2 : Int) (r3 : Int) (r4 : Int) (r5 : Int) (r6 : Int) (r7 : Int) (w : World) (hr0 : Kd.C (Kd.int .u8) w A0 l0.length l0) (hc0 : l0.length ≤ c0) (h : spec_DrawImproves.f k l0 = some (r1,r2,r3,r4,r5,r6,r7)) :
    Calls Try.prog 20 #[.slice A0 l0.length c0] w fun e w' => e = .returned (.tuple #[.agg #[.int .i64 r1,.int .i64 r2,.int .i64 r3,.int .i64 r4,.int .i64 r5,.int .i64 r6],.int .i64 r7]) ∧ Below w.heap.size w w' := by
  have hu35 := Try.underlying35
  have HR0 := Aside0.mk hr0
  have HC0 := Aside0.mk hc0
  clear hr0 hc0
  have HB := Aside0.mk (Below.refl w.heap.size w)
  have H : ((spec_DrawGainOf.f k l0).bind fun bt563 => (some (bt563.1,bt563.2.1,bt563.2.2.1,bt563.2.2.2.1,bt563.2.2.2.2.1,bt563.2.2.2.2.2.1,bt563.2.2.2.2.2.2))) = some (r1,r2,r3,r4,r5,r6,r7) := h
  clear h
  obtain ⟨⟨t563,t564,t565,t566,t567,t568,t569⟩,A20,H⟩ := Option.bind_eq_some_iff.mp H
  try dsimp only at H
  have A2 := Aside0.mk A20
  clear A20
  simp only [Option.some.injEq,Prod.mk.injEq] at H
  obtain ⟨rfl,rfl,rfl,rfl,rfl,rfl,rfl⟩ := H
  go_enter Try.func20,Try.ntmps20
  go_wp2_with (first | ((with_reducible refine gate_dst (N := 2) rfl ?_);refine box_event ?hg (N := 2) ?hd (cs := #[.int .i64 0,.int .i64 0,.int .i64 0,.int .i64 0,.int .i64 0,.int .i64 0]) (t := 35) ?hr ?_;(case hd => rfl);(case hg => rfl);(case hr => exact Z515);intro gb562 hg w3 hbox hb;have n_ := jA (below_step Z486 hb) (jA (hbox) (jA ((Z271 : w.heap.size ≤ gb562)) (Aside0.mk ((Z271 : w.heap.size ≤ gb562)))));clear HB;obtain ⟨HB,BK562,GW562,GE562⟩ := n_;clear hb hbox hg) | ((with_reducible refine gate_callee (f := 14) rfl ?_);refine goesL_ (some 5) rfl rfl Try.func14 Z580 rfl #[.slice A0 l0.length c0] rfl Z395 ?_;(with_reducible refine (spec_DrawGainOf.calls k _ _ l0 t563 t564 t565 t566 t567 t568 t569 _ ?side1 ?side2 A2.out).mono ?_);(case side1 => repeat (first | exact (Kd.C_below HR0.out HB.out) | (with_reducible refine Kd.C_alloc ?_ _) | (with_reducible refine Kd.C_drewN ?_ _) | (with_reducible refine Kd.C_drew ?_)));(case side2 => exact HC0.out);rintro e w4 ⟨rfl,hb⟩;refine ⟨_,rfl,?_⟩;have n_ := jA (blk_below (g := gb562) (o := .cells #[.int .i64 0,.int .i64 0,.int .i64 0,.int .i64 0,.int .i64 0,.int .i64 0] 35 (0,0)) (by refine bP ?_;exact BK562.out) hb) (Aside0.mk (below_step Z310 hb));clear BK562 HB;obtain ⟨BK562,HB⟩ := n_;(try clear hb);(try clear hb2);(try clear hk);(try clear hi);obtain ⟨hcz5_0,hcz5_1,hcz5_2,hcz5_3,hcz5_4,hcz5_5,hfz5_0,hfz5_1,hfz5_2,hfz5_3,hfz5_4,hfz5_5⟩ := spec_DrawImproves.cells6 BK562.out))
  refine bodyPost_ret (results_ct rfl _ _ gb562 35 #[.int .i64 t563,.int .i64 t564,.int .i64 t565,.int .i64 t566,.int .i64 t567,.int .i64 t568] (0,0) _ rfl (by refine bP ?_;refine blk_put (cs := #[.int .i64 t563,.int .i64 t564,.int .i64 t565,.int .i64 t566,.int .i64 t567,.int .i64 0]) ?_ 5 _ rfl;refine bP ?_;refine blk_put (cs := #[.int .i64 t563,.int .i64 t564,.int .i64 t565,.int .i64 t566,.int .i64 0,.int .i64 0]) ?_ 4 _ rfl;refine bP ?_;refine blk_put (cs := #[.int .i64 t563,.int .i64 t564,.int .i64 t565,.int .i64 0,.int .i64 0,.int .i64 0]) ?_ 3 _ rfl;refine bP ?_;refine blk_put (cs := #[.int .i64 t563,.int .i64 t564,.int .i64 0,.int .i64 0,.int .i64 0,.int .i64 0]) ?_ 2 _ rfl;refine bP ?_;refine blk_put (cs := #[.int .i64 t563,.int .i64 0,.int .i64 0,.int .i64 0,.int .i64 0,.int .i64 0]) ?_ 1 _ rfl;refine bP ?_;refine blk_put (cs := #[.int .i64 0,.int .i64 0,.int .i64 0,.int .i64 0,.int .i64 0,.int .i64 0]) ?_ 0 _ rfl;refine bP ?_;exact BK562.out) Try.underlying35 rfl Z580) rfl ?_
  exact ⟨Z400,Z310⟩

end Go.Proofs.Ytjcjehnjbgklbaa.QFnImproves
