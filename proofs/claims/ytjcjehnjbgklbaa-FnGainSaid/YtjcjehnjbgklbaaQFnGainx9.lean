/- The machine side of FnGain: what each Go function that it reaches comes to. Conditions: none. -/
import Derived.Test.YtjcjehnjbgklbaaQFnGainx0
namespace Go.Proofs.Ytjcjehnjbgklbaa.QFnGain
open Go.RowKit Go.Proofs.YtjcjehnjbgklbaaW.PrintWords Go.Proofs.YtjcjehnjbgklbaaW.PrintLast Go.Proofs.YtjcjehnjbgklbaaW.PrintMore
attribute [local go_sem] max2_int min2_int max_two min_two max_three min_three max_four min_four   -- for this text's walks alone
set_option linter.unusedVariables false
set_option linter.unusedSimpArgs false

/-- A state of type 76 at block g of W; what its slices lead to came in by w0. -/
def IsS76 (w0 W : World) (g : Nat) (f0 : List Int) (f1 : Int) (f2 : Int) : Prop := ∃ A0 c0, W.heap[g]? = some (.cells #[.slice A0 f0.length c0, .int .i64 f1, .int .i64 f2] 76 (0, 0)) ∧ w0.heap.size ≤ g ∧ Kd.C (Kd.int .u8) w0 A0 f0.length f0
theorem IsS76.grown {w0 W : World} {g : Nat} {f0 : List Int} {f1 : Int} {f2 : Int} {W1 : World} {row : Option Nat} (h : IsS76 w0 W g f0 f1 f2) (hw : W.grownBy W1 row) (hne : some g ≠ row) : IsS76 w0 W1 g f0 f1 f2 := by
  obtain ⟨A0, c0, hb, hg, hr0⟩ := h
  exact ⟨A0, c0, blk_grown hb hw hne, hg, hr0⟩
theorem IsS76.own_neN {w0 W : World} {g : Nat} {f0 : List Int} {f1 : Int} {f2 : Int} {α : Type} {d : Kd α} {e : Nat} {base : Nat} {ok : Nat → Prop} {v : Value} {xs : List α} (h : IsS76 w0 W g f0 f1 f2) (ho : Kd.N d e W base ok v xs) (ht : e ≠ 76) : some g ≠ v.ownBlock := by
  obtain ⟨A0, c0, hb, hg, hr0⟩ := h
  exact Kd.N_ne ho hb ht
theorem IsS76.fresh {w0 W : World} {g : Nat} {f0 : List Int} {f1 : Int} {f2 : Int} (h : IsS76 w0 W g f0 f1 f2) : ∀ k, W.heap.size ≤ k → k ≠ g := by
  obtain ⟨A0, c0, hb, hg, hr0⟩ := h
  exact Kd.freshB hb
theorem IsS76.kept {w0 W : World} {g : Nat} {f0 : List Int} {f1 : Int} {f2 : Int} {W1 : World} {S : Nat → Prop} (h : IsS76 w0 W g f0 f1 f2) (hk : Kept W W1 S) (hne : ¬ S g) : IsS76 w0 W1 g f0 f1 f2 := by
  obtain ⟨A0, c0, hb, hg, hr0⟩ := h
  exact ⟨A0, c0, blk_kept hb hk hne, hg, hr0⟩
theorem IsS76.below {w0 W : World} {g : Nat} {f0 : List Int} {f1 : Int} {f2 : Int} {W1 : World} (h : IsS76 w0 W g f0 f1 f2) (hw : Below W.heap.size W W1) : IsS76 w0 W1 g f0 f1 f2 := h.grown (grown_of_below hw none) Z483
theorem IsS76.alloc {w0 W : World} {g : Nat} {f0 : List Int} {f1 : Int} {f2 : Int} (h : IsS76 w0 W g f0 f1 f2) (o : Obj) : IsS76 w0 (W.alloc o) g f0 f1 f2 := h.below (below_alloc (Below.refl _ _) o)
theorem IsS76.drewN {w0 W : World} {g : Nat} {f0 : List Int} {f1 : Int} {f2 : Int} (h : IsS76 w0 W g f0 f1 f2) (m : Nat) : IsS76 w0 (W.drewN m) g f0 f1 f2 := h
theorem IsS76.drew {w0 W : World} {g : Nat} {f0 : List Int} {f1 : Int} {f2 : Int} (h : IsS76 w0 W g f0 f1 f2) : IsS76 w0 W.drew g f0 f1 f2 := h
theorem IsS76.at_ {w0 W : World} {g : Nat} {f0 : List Int} {f1 : Int} {f2 : Int} {w' : World} {m : Nat} (hq : W.drewN m = w') (h : IsS76 w0 W g f0 f1 f2) : IsS76 w0 w' g f0 f1 f2 := by subst hq; exact IsS76.drewN h m
theorem IsS76.apart {w0 W : World} {g : Nat} {f0 : List Int} {f1 : Int} {f2 : Int} {α : Type} {d : Kd α} {e : Nat} {base : Nat} {ok : Nat → Prop} {v : Value} {xs : List α} (h : IsS76 w0 W g f0 f1 f2) (ho : d.R e W base ok v xs) (ht : ∀ q, q ∈ e :: d.E → q ≠ 76) : d.R e W base (fun k => ok k ∧ k ≠ g) v xs := by
  obtain ⟨A0, c0, hb, hg, hr0⟩ := h
  exact Kd.R_types ho hb ht
theorem IsS76.own_ne {w0 W : World} {g : Nat} {f0 : List Int} {f1 : Int} {f2 : Int} {α : Type} {d : Kd α} {e : Nat} {base : Nat} {ok : Nat → Prop} {v : Value} {xs : List α} (h : IsS76 w0 W g f0 f1 f2) (ho : d.R e W base ok v xs) (ht : e ≠ 76) : some g ≠ v.ownBlock := by
  obtain ⟨A0, c0, hb, hg, hr0⟩ := h
  exact Kd.R_ne ho hb ht
theorem IsS76.apartQ {w0 W : World} {g : Nat} {f0 : List Int} {f1 : Int} {f2 : Int} {α : Type} {d : Kd α} {e : Nat} {base : Nat} {ok : Nat → Prop} {v : Value} {xs : List α} (h : IsS76 w0 W g f0 f1 f2) (ho : d.Q e W base ok v xs) (ht : ∀ q, q ∈ e :: d.E → q ≠ 76) : d.Q e W base (fun k => ok k ∧ k ≠ g) v xs := by
  obtain ⟨A0, c0, hb, hg, hr0⟩ := h
  exact Kd.Q_types ho hb ht
theorem IsS76.own_neQ {w0 W : World} {g : Nat} {f0 : List Int} {f1 : Int} {f2 : Int} {α : Type} {d : Kd α} {e : Nat} {base : Nat} {ok : Nat → Prop} {v : Value} {xs : List α} (h : IsS76 w0 W g f0 f1 f2) (ho : d.Q e W base ok v xs) (ht : e ≠ 76) : some g ≠ v.ownBlock := by
  obtain ⟨A0, c0, hb, hg, hr0⟩ := h
  exact Kd.Q_ne ho hb ht
theorem IsS76.apartS {w0 W : World} {g : Nat} {f0 : List Int} {f1 : Int} {f2 : Int} {α : Type} {d : Kd α} {e : Nat} {base : Nat} {ok : Nat → Prop} {v : Value} {xs : List α} (h : IsS76 w0 W g f0 f1 f2) (ho : d.S e W base ok v xs) (ht : ∀ q, q ∈ e :: d.E → q ≠ 76) : d.S e W base (fun k => ok k ∧ k ≠ g) v xs := by
  obtain ⟨A0, c0, hb, hg, hr0⟩ := h
  exact Kd.S_types ho hb ht
theorem IsS76.own_neS {w0 W : World} {g : Nat} {f0 : List Int} {f1 : Int} {f2 : Int} {α : Type} {d : Kd α} {e : Nat} {base : Nat} {ok : Nat → Prop} {v : Value} {xs : List α} (h : IsS76 w0 W g f0 f1 f2) (ho : d.S e W base ok v xs) (ht : e ≠ 76) : some g ≠ v.ownBlock := by
  obtain ⟨A0, c0, hb, hg, hr0⟩ := h
  exact Kd.S_ne ho hb ht
theorem IsS76.lt {w0 W : World} {g : Nat} {f0 : List Int} {f1 : Int} {f2 : Int} (h : IsS76 w0 W g f0 f1 f2) : g < W.heap.size := by
  obtain ⟨A0, c0, hb, hg, hr0⟩ := h
  exact blk_lt hb
theorem IsS76.ge {w0 W : World} {g : Nat} {f0 : List Int} {f1 : Int} {f2 : Int} (h : IsS76 w0 W g f0 f1 f2) : w0.heap.size ≤ g := by
  obtain ⟨A0, c0, hb, hg, hr0⟩ := h
  exact hg
theorem IsS76.ne_blk {w0 W : World} {g : Nat} {f0 : List Int} {f1 : Int} {f2 : Int} {a : Nat} {cs : Array Value} {t : TypeId} {fr : Nat × Nat} (h : IsS76 w0 W g f0 f1 f2) (hb2 : W.heap[a]? = some (.cells cs t fr)) (ht : t ≠ 76) : g ≠ a := by
  obtain ⟨A0, c0, hb, hg, hr0⟩ := h
  rintro rfl
  rw [hb] at hb2
  injection hb2 with hb2
  injection hb2 with _ ht2
  exact ht ht2.symm
theorem IsS76.far {w0 W : World} {g : Nat} {f0 : List Int} {f1 : Int} {f2 : Int} {p : Addr} (h : IsS76 w0 W g f0 f1 f2) (hne : g ≠ p.block) (u : Value) : IsS76 w0 (W.setCell p u) g f0 f1 f2 := by
  obtain ⟨A0, c0, hb, hg, hr0⟩ := h
  exact ⟨A0, c0, blk_far hb hne u, hg, hr0⟩
theorem cellS76_0 {W : World} {g : Nat} {A0 : Option Addr} {c0 : Nat} {f0 : List Int} {f1 : Int} {f2 : Int} (h : W.heap[g]? = some (.cells #[.slice A0 f0.length c0, .int .i64 f1, .int .i64 f2] 76 (0, 0))) : W.cell? ⟨g, 0, none⟩ = some (.slice A0 f0.length c0) := (blk_cell h 0).trans rfl
theorem cellS76_1 {W : World} {g : Nat} {A0 : Option Addr} {c0 : Nat} {f0 : List Int} {f1 : Int} {f2 : Int} (h : W.heap[g]? = some (.cells #[.slice A0 f0.length c0, .int .i64 f1, .int .i64 f2] 76 (0, 0))) : W.cell? ⟨g, 1, none⟩ = some (.int .i64 f1) := (blk_cell h 1).trans rfl
theorem IsS76.set_1 {w0 W : World} {g : Nat} {f0 : List Int} {f1 : Int} {f2 : Int} (h : IsS76 w0 W g f0 f1 f2) (x : Int) : IsS76 w0 (W.setCell ⟨g, 1, none⟩ (.int .i64 x)) g f0 x f2 := by
  obtain ⟨A0, c0, hb, hg, hr0⟩ := h
  exact ⟨A0, c0, by simpa using blk_set hb 1 (.int .i64 x), hg, hr0⟩
theorem cellS76_2 {W : World} {g : Nat} {A0 : Option Addr} {c0 : Nat} {f0 : List Int} {f1 : Int} {f2 : Int} (h : W.heap[g]? = some (.cells #[.slice A0 f0.length c0, .int .i64 f1, .int .i64 f2] 76 (0, 0))) : W.cell? ⟨g, 2, none⟩ = some (.int .i64 f2) := (blk_cell h 2).trans rfl
theorem IsS76.set_2 {w0 W : World} {g : Nat} {f0 : List Int} {f1 : Int} {f2 : Int} (h : IsS76 w0 W g f0 f1 f2) (x : Int) : IsS76 w0 (W.setCell ⟨g, 2, none⟩ (.int .i64 x)) g f0 f1 x := by
  obtain ⟨A0, c0, hb, hg, hr0⟩ := h
  exact ⟨A0, c0, by simpa using blk_set hb 2 (.int .i64 x), hg, hr0⟩
theorem IsS76.new (w0 W : World) (A0 : Option Addr) (c0 : Nat) (f0 : List Int) (f1 : Int) (f2 : Int) (hB : Below w0.heap.size w0 W) (hr0 : Kd.C (Kd.int .u8) w0 A0 f0.length f0) : IsS76 w0 (W.alloc (.cells #[.slice A0 f0.length c0, .int .i64 f1, .int .i64 f2] 76)) W.heap.size f0 f1 f2 := ⟨A0, c0, by simpa using heap_alloc_new W _, hB.size, hr0⟩

/-! ### spec_l1New: function 28 -/
def spec_l1New.l0 : Nat → List Int → Int → Int → Option (List Int × Int × Int)
  | 0,_,_,_ => none
  | k + 1,x0,x3,x4 => if x4 < (x0.length : Int) then (if x4 < 4000 then (if 0 ≤ x4 then (spec_l1New.l0 k x0 (Go.bits .and .i64 (wrap64 ((wrap64 ((wrap64 (x3 * 131)) + (wrap64 (rd x0 x4)))) + 7)) 1073741823) (wrap64 (x4 + 1))) else (none)) else (some (x0,0,x3))) else (some (x0,0,x3))
def spec_l1New.f (k : Nat) (l0 : List Int) : Option (List Int × Int × Int) := spec_l1New.l0 k l0 (wrap64 (28507 + (l0.length : Int))) 0
theorem spec_l1New.mono_l : ∀ k,(∀ y0 y1 y2,LeO (spec_l1New.l0 k y0 y1 y2) (spec_l1New.l0 (k + 1) y0 y1 y2))
  | 0 => fun _ _ _ r h => by simp [spec_l1New.l0] at h
  | k + 1 => by
    have ih0 := spec_l1New.mono_l k
    · intro y0 y1 y2
      unfold spec_l1New.l0
      repeat' first
      | (with_reducible exact ih0 _ _ _)
      | (with_reducible exact LeO.refl _)
      | (with_reducible exact LeO.none _)
      | (with_reducible refine LeO.ite ?_ ?_)
      | (with_reducible refine LeO.bind ?_ (fun _ => ?_))
      | exact ih0 _ _ _
      | exact LeO.none _
      | refine LeO.ite ?_ ?_
      | refine LeO.bind ?_ (fun _ => ?_)
theorem spec_l1New.mono : ∀ a0 k,LeO (spec_l1New.f k a0) (spec_l1New.f (k + 1) a0) := by
  intro a0 k
  have ih0 := spec_l1New.mono_l k
  unfold spec_l1New.f
  repeat' first
      | (with_reducible exact ih0 _ _ _)
      | (with_reducible exact LeO.refl _)
      | (with_reducible exact LeO.none _)
      | (with_reducible refine LeO.ite ?_ ?_)
      | (with_reducible refine LeO.bind ?_ (fun _ => ?_))
      | exact ih0 _ _ _
      | exact LeO.none _
      | refine LeO.ite ?_ ?_
      | refine LeO.bind ?_ (fun _ => ?_)
set_option maxHeartbeats 8000000 in
set_option maxRecDepth 100000 in
theorem spec_l1New.calls (k : Nat) (A0 : Option Addr) (c0 : Nat) (l0 : List Int) (r1 : List Int) (r2 : Int) (r3 : Int) (w0 w : World) (hB : Below w0.heap.size w0 w) (hr0 : Kd.C (Kd.int .u8) w0 A0 l0.length l0) (hc0 : l0.length ≤ c0) (h : spec_l1New.f k l0 = some (r1,r2,r3)) :
    Calls Try.prog 28 #[.slice A0 l0.length c0] w fun e w' => ∃ g_ : Nat,e = .returned (.pointer (some ⟨g_,0,none⟩)) ∧ IsS76 w0 w' g_ r1 r2 r3 ∧ Below w0.heap.size w0 w' ∧ Below w.heap.size w w' := by
  have hu76 := Try.underlying76
  have HR0 := Aside0.mk hr0
  have HC0 := Aside0.mk hc0
  clear hr0 hc0
  have HBW := Aside0.mk (Below.refl w.heap.size w)
  have HW0 := Aside0.mk hB.size
  have HB := Aside0.mk hB
  clear hB
  have H : (spec_l1New.l0 k l0 (wrap64 (28507 + (l0.length : Int))) 0) = some (r1,r2,r3) := h
  clear h
  have H' := Aside0.mk H
  clear H
  go_enter Try.func28,Try.ntmps28
  go_wp2
  go_loopg [3,4] k (fun kq v3 v4 w' => ∃ (x3_1 : Int) (x4_1 : Int),v3 = .int .i64 x3_1 ∧ v4 = .int .i64 x4_1 ∧ Aside0 (spec_l1New.l0 kq l0 x3_1 x4_1 = some (r1,r2,r3)) ∧ Aside0 (kq ≤ k) ∧ Aside0 (Below w0.heap.size w0 w') ∧ Aside0 (Below w.heap.size w w'))
  case atStart => exact ⟨(wrap64 (28507 + (l0.length : Int))),(0),Z358,Z358,H',⟨Nat.le_refl _⟩,⟨Z430⟩,⟨Z429⟩⟩
  case round =>
    clear H'
    obtain ⟨x3_1,x4_1,rfl,rfl,HA,HK1,HB,HBW⟩ := hrel
    cases gk with
    | zero => exact absurd HA.out (by simp [spec_l1New.l0])
    | succ k1 =>
      have H := HA.out
      clear HA
      simp only [spec_l1New.l0] at H
      by_cases c2 : x4_1 < (l0.length : Int)
      · rw [if_pos c2] at H
        have c2b0 : decide (x4_1 < (l0.length : Int)) = true := decide_eq_true c2
        clear c2
        by_cases c3 : x4_1 < 4000
        · rw [if_pos c3] at H
          have c3b0 : decide (x4_1 < 4000) = true := decide_eq_true c3
          clear c3
          by_cases c4 : 0 ≤ x4_1
          · rw [if_pos c4] at H
            have c4b0 : decide (0 ≤ x4_1) = true := decide_eq_true c4
            clear c4
            have H' := Aside0.mk H
            clear H
            have p356 : 0 ≤ (x4_1 : Int) := of_decide_eq_true Z357
            have q356 : x4_1 < (l0.length : Int) := of_decide_eq_true Z357
            obtain ⟨ad356,e356,hx356_0⟩ := Kd.at_int HR0.out x4_1 p356 q356
            cases e356
            replace hx356_0 := pw_cell_below HB.out hx356_0
            replace p356 := eq_true p356
            replace q356 := eq_true q356
            go_wp2
            go_roundg k1
            case measure => have := HK1.out;omega
            case rel => exact ⟨(Go.bits .and .i64 (wrap64 ((wrap64 ((wrap64 (x3_1 * 131)) + (wrap64 (rd l0 x4_1)))) + 7)) 1073741823),(wrap64 (x4_1 + 1)),Z358,Z358,H',⟨by have := HK1.out;omega⟩,⟨Z430⟩,⟨Z429⟩⟩
          · rw [if_neg c4] at H
            exact absurd H Z483
        · rw [if_neg c3] at H
          have c3b0 : decide (x4_1 < 4000) = false := decide_eq_false c3
          clear c3
          simp only [Option.some.injEq,Prod.mk.injEq] at H
          obtain ⟨rfl,rfl,rfl⟩ := H
          go_wp2_with (first | ((with_reducible refine gate_dst (N := 31) rfl ?_);refine box_event ?hg (N := 31) ?hd (cs := #[.slice A0 l0.length c0,.int .i64 0,.int .i64 x3_1]) (t := 76) ?hr ?_;(case hd => rfl);(case hg => rfl);(case hr => exact Z359);intro gb357 hg w5 hbox hb;have n_ := jA (below_step HBW.out hb) (jA (below_step Z430 hb) (jA (hbox) (jA ((Z320 : w.heap.size ≤ gb357)) (Aside0.mk ((Nat.le_trans HW0.out (Z320 : w.heap.size ≤ gb357) : w0.heap.size ≤ gb357))))));clear HBW HB;obtain ⟨HBW,HB,BK357,GW357,GE357⟩ := n_;clear hb hbox hg))
          go_ret
          exact ⟨_,rfl,(show IsS76 w0 _ gb357 l0 0 x3_1 from ⟨_,_,by (with_reducible repeat (first | refine bA ?_ _ | refine bB ?_ | refine bC ?_ _));exact BK357.out,GE357.out,HR0.out⟩),by repeat (first | (with_reducible first | exact HB.out | apply below_alloc | apply pw_below_drewN | apply below_drew1 | refine below_set ?_ GE357.out) | exact HB.out),by repeat (first | (with_reducible first | exact HBW.out | apply below_alloc | apply pw_below_drewN | apply below_drew1 | refine below_set ?_ GW357.out) | exact HBW.out)⟩
      · rw [if_neg c2] at H
        have c2b0 : decide (x4_1 < (l0.length : Int)) = false := decide_eq_false c2
        clear c2
        simp only [Option.some.injEq,Prod.mk.injEq] at H
        obtain ⟨rfl,rfl,rfl⟩ := H
        go_wp2_with (first | ((with_reducible refine gate_dst (N := 31) rfl ?_);refine box_event ?hg (N := 31) ?hd (cs := #[.slice A0 l0.length c0,.int .i64 0,.int .i64 x3_1]) (t := 76) ?hr ?_;(case hd => rfl);(case hg => rfl);(case hr => exact Z359);intro gb358 hg w6 hbox hb;have n_ := jA (below_step HBW.out hb) (jA (below_step Z430 hb) (jA (hbox) (jA ((Z320 : w.heap.size ≤ gb358)) (Aside0.mk ((Nat.le_trans HW0.out (Z320 : w.heap.size ≤ gb358) : w0.heap.size ≤ gb358))))));clear HBW HB;obtain ⟨HBW,HB,BK358,GW358,GE358⟩ := n_;clear hb hbox hg))
        go_ret
        exact ⟨_,rfl,(show IsS76 w0 _ gb358 l0 0 x3_1 from ⟨_,_,by (with_reducible repeat (first | refine bA ?_ _ | refine bB ?_ | refine bC ?_ _));exact BK358.out,GE358.out,HR0.out⟩),by repeat (first | (with_reducible first | exact HB.out | apply below_alloc | apply pw_below_drewN | apply below_drew1 | refine below_set ?_ GE358.out) | exact HB.out),by repeat (first | (with_reducible first | exact HBW.out | apply below_alloc | apply pw_below_drewN | apply below_drew1 | refine below_set ?_ GW358.out) | exact HBW.out)⟩

/-! ### spec_l1Byte: function 63 -/
def spec_l1Byte.f (s0_0 : List Int) (s0_1 : Int) (s0_2 : Int) : Option (Int × Int × Int) := if s0_1 < (s0_0.length : Int) then (if 0 ≤ s0_1 then (some (Go.bits .and .i64 (wrap64 ((Go.bits .and .i64 (Go.bits .xor .i64 ((wrap64 ((wrap64 (s0_2 * 6364136223846793005)) + 1442695040888963407)) / 8589934592) ((wrap64 ((wrap64 (s0_2 * 6364136223846793005)) + 1442695040888963407)) / 35184372088832)) 255) + (wrap64 (rd s0_0 s0_1)))) 255,wrap64 (s0_1 + 1),wrap64 ((wrap64 (s0_2 * 6364136223846793005)) + 1442695040888963407))) else (none)) else (some (Go.bits .and .i64 (Go.bits .xor .i64 ((wrap64 ((wrap64 (s0_2 * 6364136223846793005)) + 1442695040888963407)) / 8589934592) ((wrap64 ((wrap64 (s0_2 * 6364136223846793005)) + 1442695040888963407)) / 35184372088832)) 255,s0_1,wrap64 ((wrap64 (s0_2 * 6364136223846793005)) + 1442695040888963407)))
set_option maxHeartbeats 8000000 in
set_option maxRecDepth 100000 in
theorem spec_l1Byte.calls (g : Nat) (s0_0 : List Int) (s0_1 : Int) (s0_2 : Int) (r1 : Int) (r2 : Int) (r3 : Int) (w0 w : World) (hI : IsS76 w0 w g s0_0 s0_1 s0_2) (hB : Below w0.heap.size w0 w) (h : spec_l1Byte.f s0_0 s0_1 s0_2 = some (r1,r2,r3)) :
    Calls Try.prog 63 #[.pointer (some ⟨g,0,none⟩)] w fun e w' => e = .returned (.int .i64 r1) ∧ IsS76 w0 w' g s0_0 r2 r3 ∧ Below w0.heap.size w0 w' ∧ KeepBut w w' g none := by
  have HI0 := Aside0.mk hI
  have HK := Aside0.mk (KeepBut.refl w g none)
  have HL := Aside0.mk hB.size
  clear hI
  have HW0 := Aside0.mk hB.size
  have HB := Aside0.mk hB
  clear hB
  have H : (if s0_1 < (s0_0.length : Int) then (if 0 ≤ s0_1 then (some (Go.bits .and .i64 (wrap64 ((Go.bits .and .i64 (Go.bits .xor .i64 ((wrap64 ((wrap64 (s0_2 * 6364136223846793005)) + 1442695040888963407)) / 8589934592) ((wrap64 ((wrap64 (s0_2 * 6364136223846793005)) + 1442695040888963407)) / 35184372088832)) 255) + (wrap64 (rd s0_0 s0_1)))) 255,wrap64 (s0_1 + 1),wrap64 ((wrap64 (s0_2 * 6364136223846793005)) + 1442695040888963407))) else (none)) else (some (Go.bits .and .i64 (Go.bits .xor .i64 ((wrap64 ((wrap64 (s0_2 * 6364136223846793005)) + 1442695040888963407)) / 8589934592) ((wrap64 ((wrap64 (s0_2 * 6364136223846793005)) + 1442695040888963407)) / 35184372088832)) 255,s0_1,wrap64 ((wrap64 (s0_2 * 6364136223846793005)) + 1442695040888963407)))) = some (r1,r2,r3) := h
  clear h
  by_cases c2 : s0_1 < (s0_0.length : Int)
  · rw [if_pos c2] at H
    have c2b0 : decide (s0_1 < (s0_0.length : Int)) = true := decide_eq_true c2
    clear c2
    by_cases c3 : 0 ≤ s0_1
    · rw [if_pos c3] at H
      have c3b0 : decide (0 ≤ s0_1) = true := decide_eq_true c3
      clear c3
      simp only [Option.some.injEq,Prod.mk.injEq] at H
      obtain ⟨rfl,rfl,rfl⟩ := H
      obtain ⟨ASz4_0,cSz4_0,HGz4,hgz4,HSz4_0⟩ := HI0.out
      have hcz4_0 := cellS76_0 HGz4
      have hcz4_1 := cellS76_1 HGz4
      have hcz4_2 := cellS76_2 HGz4
      have hfz4_1 := blk_frozen HGz4 1
      have hfz4_2 := blk_frozen HGz4 2
      clear HGz4 hgz4
      have p359 : 0 ≤ (s0_1 : Int) := of_decide_eq_true Z357
      have q359 : s0_1 < (s0_0.length : Int) := of_decide_eq_true Z357
      obtain ⟨ad359,e359,hx359_0⟩ := Kd.at_int HSz4_0 s0_1 p359 q359
      cases e359
      have hn359_0 : ad359.block ≠ g := Nat.ne_of_lt (Nat.lt_of_lt_of_le (by have := World.block_lt_of_cell? _ _ hx359_0;first | rwa [add_block] at this | exact this) (IsS76.ge HI0.out))
      replace hx359_0 := pw_cell_below HB.out hx359_0
      replace hx359_0 := (cell_far (p := ⟨g,2,none⟩) (by first | (rw [add_block];exact hn359_0) | (show (Addr.add _ _).block ≠ _;rw [add_block];exact hn359_0) | exact hn359_0) (.int .i64 (wrap64 ((wrap64 (s0_2 * 6364136223846793005)) + 1442695040888963407)))).trans hx359_0
      (try have hy359_0 := fun (n_ : Nat) => (show (((w.drewN n_).setCell ⟨g,2,none⟩ (.int .i64 (wrap64 ((wrap64 (s0_2 * 6364136223846793005)) + 1442695040888963407))))).cell? _ = some _ from hx359_0))
      clear hn359_0
      replace p359 := eq_true p359
      replace q359 := eq_true q359
      go_enter Try.func63,Try.ntmps63
      go_wp2
      repeat (go_quiet (fail);try go_wp2)
      go_ret
      exact ⟨Z354,Z319,Z318,Z428⟩
    · rw [if_neg c3] at H
      exact absurd H Z483
  · rw [if_neg c2] at H
    have c2b0 : decide (s0_1 < (s0_0.length : Int)) = false := decide_eq_false c2
    clear c2
    simp only [Option.some.injEq,Prod.mk.injEq] at H
    obtain ⟨rfl,rfl,rfl⟩ := H
    obtain ⟨ASz5_0,cSz5_0,HGz5,hgz5,HSz5_0⟩ := HI0.out
    have hcz5_0 := cellS76_0 HGz5
    have hcz5_1 := cellS76_1 HGz5
    have hcz5_2 := cellS76_2 HGz5
    have hfz5_1 := blk_frozen HGz5 1
    have hfz5_2 := blk_frozen HGz5 2
    clear HGz5 hgz5
    go_enter Try.func63,Try.ntmps63
    go_wp2
    repeat (go_quiet (fail);try go_wp2)
    go_ret
    exact ⟨Z354,Z319,Z318,Z428⟩

/-! ### spec_l1Below: function 44 -/
def spec_l1Below.f (s0_0 : List Int) (s0_1 : Int) (s0_2 : Int) (a1 : Int) : Option (Int × Int × Int) := if a1 ≤ 0 then (some (0,s0_1,s0_2)) else (if a1 ≤ 256 then ((spec_l1Byte.f s0_0 s0_1 s0_2).bind fun bt360 => (if a1 = 0 then (none) else (some (Int.tmod bt360.1 a1,bt360.2.1,bt360.2.2)))) else ((spec_l1Byte.f s0_0 s0_1 s0_2).bind fun bt363 => ((spec_l1Byte.f s0_0 bt363.2.1 bt363.2.2).bind fun bt366 => ((spec_l1Byte.f s0_0 bt366.2.1 bt366.2.2).bind fun bt369 => ((spec_l1Byte.f s0_0 bt369.2.1 bt369.2.2).bind fun bt372 => (if a1 = 0 then (none) else (some (Int.tmod (wrap64 ((wrap64 ((wrap64 ((wrap64 (bt363.1 * 16777216)) + (wrap64 (bt366.1 * 65536)))) + (wrap64 (bt369.1 * 256)))) + bt372.1)) a1,bt372.2.1,bt372.2.2))))))))
set_option maxHeartbeats 8000000 in
set_option maxRecDepth 100000 in
theorem spec_l1Below.calls (g : Nat) (s0_0 : List Int) (s0_1 : Int) (s0_2 : Int) (a1 : Int) (r1 : Int) (r2 : Int) (r3 : Int) (w0 w : World) (hI : IsS76 w0 w g s0_0 s0_1 s0_2) (hB : Below w0.heap.size w0 w) (h : spec_l1Below.f s0_0 s0_1 s0_2 a1 = some (r1,r2,r3)) :
    Calls Try.prog 44 #[.pointer (some ⟨g,0,none⟩),.int .i64 a1] w fun e w' => e = .returned (.int .i64 r1) ∧ IsS76 w0 w' g s0_0 r2 r3 ∧ Below w0.heap.size w0 w' ∧ KeepBut w w' g none := by
  have HI0 := Aside0.mk hI
  have HK := Aside0.mk (KeepBut.refl w g none)
  have HL := Aside0.mk hB.size
  clear hI
  have HW0 := Aside0.mk hB.size
  have HB := Aside0.mk hB
  clear hB
  have H : (if a1 ≤ 0 then (some (0,s0_1,s0_2)) else (if a1 ≤ 256 then ((spec_l1Byte.f s0_0 s0_1 s0_2).bind fun bt360 => (if a1 = 0 then (none) else (some (Int.tmod bt360.1 a1,bt360.2.1,bt360.2.2)))) else ((spec_l1Byte.f s0_0 s0_1 s0_2).bind fun bt363 => ((spec_l1Byte.f s0_0 bt363.2.1 bt363.2.2).bind fun bt366 => ((spec_l1Byte.f s0_0 bt366.2.1 bt366.2.2).bind fun bt369 => ((spec_l1Byte.f s0_0 bt369.2.1 bt369.2.2).bind fun bt372 => (if a1 = 0 then (none) else (some (Int.tmod (wrap64 ((wrap64 ((wrap64 ((wrap64 (bt363.1 * 16777216)) + (wrap64 (bt366.1 * 65536)))) + (wrap64 (bt369.1 * 256)))) + bt372.1)) a1,bt372.2.1,bt372.2.2))))))))) = some (r1,r2,r3) := h
  clear h
  by_cases c3 : a1 ≤ 0
  · rw [if_pos c3] at H
    have c3b0 : decide (a1 ≤ 0) = true := decide_eq_true c3
    clear c3
    simp only [Option.some.injEq,Prod.mk.injEq] at H
    obtain ⟨rfl,rfl,rfl⟩ := H
    go_enter Try.func44,Try.ntmps44
    go_wp2
    go_ret
    exact ⟨Z354,Z319,Z318,Z428⟩
  · rw [if_neg c3] at H
    have c3b0 : decide (a1 ≤ 0) = false := decide_eq_false c3
    clear c3
    by_cases c4 : a1 ≤ 256
    · rw [if_pos c4] at H
      have c4b0 : decide (a1 ≤ 256) = true := decide_eq_true c4
      clear c4
      obtain ⟨⟨t360,t361,t362⟩,A50,H⟩ := Option.bind_eq_some_iff.mp H
      try dsimp only at H
      have A5 := Aside0.mk A50
      clear A50
      by_cases c6 : a1 = 0
      · rw [if_pos c6] at H
        exact absurd H Z483
      · rw [if_neg c6] at H
        have c6b0 : (a1 == 0) = false := beq_eq_false_iff_ne.mpr c6
        have c6b1 : (a1 != 0) = true := bne_iff_ne.mpr c6
        simp only [Option.some.injEq,Prod.mk.injEq] at H
        obtain ⟨rfl,rfl,rfl⟩ := H
        go_enter Try.func44,Try.ntmps44
        go_wp2_with (first | ((with_reducible refine gate_callee (f := 63) rfl ?_);refine goesL_ (some 14) rfl rfl Try.func63 Z363 rfl #[.pointer (some ⟨g,0,none⟩)] rfl Z330 ?_;(with_reducible refine (spec_l1Byte.calls g s0_0 s0_1 s0_2 t360 t361 t362 w0 _ ?side1 ?side2 A5.out).mono ?_);(case side1 => exact Z319);(case side2 => exact Z318);rintro e w7 ⟨rfl,hi,hb,hk⟩;refine ⟨_,rfl,?_⟩;have n_ := jA (KeepBut.trans Z428 hk (.inl rfl)) (jA (hb) (Aside0.mk (hi)));clear HK HB HI0;obtain ⟨HK,HB,HI0⟩ := n_;(try clear hb);(try clear hb2);(try clear hk);(try clear hi)))
        go_ret
        exact ⟨Z354,Z319,Z318,Z428⟩
    · rw [if_neg c4] at H
      have c4b0 : decide (a1 ≤ 256) = false := decide_eq_false c4
      clear c4
      obtain ⟨⟨t363,t364,t365⟩,A80,H⟩ := Option.bind_eq_some_iff.mp H
      try dsimp only at H
      have A8 := Aside0.mk A80
      clear A80
      obtain ⟨⟨t366,t367,t368⟩,A90,H⟩ := Option.bind_eq_some_iff.mp H
      try dsimp only at H
      have A9 := Aside0.mk A90
      clear A90
      obtain ⟨⟨t369,t370,t371⟩,A100,H⟩ := Option.bind_eq_some_iff.mp H
      try dsimp only at H
      have A10 := Aside0.mk A100
      clear A100
      obtain ⟨⟨t372,t373,t374⟩,A110,H⟩ := Option.bind_eq_some_iff.mp H
      try dsimp only at H
      have A11 := Aside0.mk A110
      clear A110
      by_cases c12 : a1 = 0
      · rw [if_pos c12] at H
        exact absurd H Z483
      · rw [if_neg c12] at H
        have c12b0 : (a1 == 0) = false := beq_eq_false_iff_ne.mpr c12
        have c12b1 : (a1 != 0) = true := bne_iff_ne.mpr c12
        simp only [Option.some.injEq,Prod.mk.injEq] at H
        obtain ⟨rfl,rfl,rfl⟩ := H
        go_enter Try.func44,Try.ntmps44
        go_wp2_with (first | ((with_reducible refine gate_callee (f := 63) rfl ?_);refine goesL_ (some 18) rfl rfl Try.func63 Z363 rfl #[.pointer (some ⟨g,0,none⟩)] rfl Z330 ?_;(with_reducible refine (spec_l1Byte.calls g s0_0 s0_1 s0_2 t363 t364 t365 w0 _ ?side1 ?side2 A8.out).mono ?_);(case side1 => exact Z319);(case side2 => exact Z318);rintro e w13 ⟨rfl,hi,hb,hk⟩;refine ⟨_,rfl,?_⟩;have n_ := jA (KeepBut.trans Z428 hk (.inl rfl)) (jA (hb) (Aside0.mk (hi)));clear HK HB HI0;obtain ⟨HK,HB,HI0⟩ := n_;(try clear hb);(try clear hb2);(try clear hk);(try clear hi)) | ((with_reducible refine gate_callee (f := 63) rfl ?_);refine goesL_ (some 20) rfl rfl Try.func63 Z363 rfl #[.pointer (some ⟨g,0,none⟩)] rfl Z330 ?_;(with_reducible refine (spec_l1Byte.calls g s0_0 t364 t365 t366 t367 t368 w0 _ ?side1 ?side2 A9.out).mono ?_);(case side1 => exact Z319);(case side2 => exact Z318);rintro e w14 ⟨rfl,hi,hb,hk⟩;refine ⟨_,rfl,?_⟩;have n_ := jA (KeepBut.trans Z428 hk (.inl rfl)) (jA (hb) (Aside0.mk (hi)));clear HK HB HI0;obtain ⟨HK,HB,HI0⟩ := n_;(try clear hb);(try clear hb2);(try clear hk);(try clear hi)) | ((with_reducible refine gate_callee (f := 63) rfl ?_);refine goesL_ (some 22) rfl rfl Try.func63 Z363 rfl #[.pointer (some ⟨g,0,none⟩)] rfl Z330 ?_;(with_reducible refine (spec_l1Byte.calls g s0_0 t367 t368 t369 t370 t371 w0 _ ?side1 ?side2 A10.out).mono ?_);(case side1 => exact Z319);(case side2 => exact Z318);rintro e w15 ⟨rfl,hi,hb,hk⟩;refine ⟨_,rfl,?_⟩;have n_ := jA (KeepBut.trans Z428 hk (.inl rfl)) (jA (hb) (Aside0.mk (hi)));clear HK HB HI0;obtain ⟨HK,HB,HI0⟩ := n_;(try clear hb);(try clear hb2);(try clear hk);(try clear hi)) | ((with_reducible refine gate_callee (f := 63) rfl ?_);refine goesL_ (some 24) rfl rfl Try.func63 Z363 rfl #[.pointer (some ⟨g,0,none⟩)] rfl Z330 ?_;(with_reducible refine (spec_l1Byte.calls g s0_0 t370 t371 t372 t373 t374 w0 _ ?side1 ?side2 A11.out).mono ?_);(case side1 => exact Z319);(case side2 => exact Z318);rintro e w16 ⟨rfl,hi,hb,hk⟩;refine ⟨_,rfl,?_⟩;have n_ := jA (KeepBut.trans Z428 hk (.inl rfl)) (jA (hb) (Aside0.mk (hi)));clear HK HB HI0;obtain ⟨HK,HB,HI0⟩ := n_;(try clear hb);(try clear hb2);(try clear hk);(try clear hi)))
        go_ret
        exact ⟨Z354,Z319,Z318,Z428⟩

/-! ### spec_l1PickInt: function 30 -/
def spec_l1PickInt.f (s0_0 : List Int) (s0_1 : Int) (s0_2 : Int) (l1 : List Int) : Option (Int × Int × Int) := (spec_l1Below.f s0_0 s0_1 s0_2 (l1.length : Int)).bind fun bt375 => (if 0 ≤ bt375.1 then (if bt375.1 < (l1.length : Int) then (some (rd l1 bt375.1,bt375.2.1,bt375.2.2)) else (none)) else (none))
set_option maxHeartbeats 8000000 in
set_option maxRecDepth 100000 in
theorem spec_l1PickInt.calls (g : Nat) (s0_0 : List Int) (s0_1 : Int) (s0_2 : Int) (A1 : Option Addr) (c1 : Nat) (l1 : List Int) (r1 : Int) (r2 : Int) (r3 : Int) (w0 w : World) (hI : IsS76 w0 w g s0_0 s0_1 s0_2) (hB : Below w0.heap.size w0 w) (hr1 : Kd.C (Kd.int .i64) w A1 l1.length l1) (hc1 : l1.length ≤ c1) (hf1 : ∀ ad,A1 = some ad → 0 < l1.length → ad.block ≠ g) (h : spec_l1PickInt.f s0_0 s0_1 s0_2 l1 = some (r1,r2,r3)) :
    Calls Try.prog 30 #[.pointer (some ⟨g,0,none⟩),.slice A1 l1.length c1] w fun e w' => e = .returned (.int .i64 r1) ∧ IsS76 w0 w' g s0_0 r2 r3 ∧ Below w0.heap.size w0 w' ∧ KeepBut w w' g none := by
  have HR1 := Aside0.mk hr1
  have HC1 := Aside0.mk hc1
  clear hr1 hc1
  have HI0 := Aside0.mk hI
  have HK := Aside0.mk (KeepBut.refl w g none)
  have HL := Aside0.mk hB.size
  clear hI
  have HW0 := Aside0.mk hB.size
  have HB := Aside0.mk hB
  clear hB
  have H : ((spec_l1Below.f s0_0 s0_1 s0_2 (l1.length : Int)).bind fun bt375 => (if 0 ≤ bt375.1 then (if bt375.1 < (l1.length : Int) then (some (rd l1 bt375.1,bt375.2.1,bt375.2.2)) else (none)) else (none))) = some (r1,r2,r3) := h
  clear h
  obtain ⟨⟨t375,t376,t377⟩,A30,H⟩ := Option.bind_eq_some_iff.mp H
  try dsimp only at H
  have A3 := Aside0.mk A30
  clear A30
  by_cases c4 : 0 ≤ t375
  · rw [if_pos c4] at H
    have c4b0 : decide (0 ≤ t375) = true := decide_eq_true c4
    clear c4
    by_cases c5 : t375 < (l1.length : Int)
    · rw [if_pos c5] at H
      have c5b0 : decide (t375 < (l1.length : Int)) = true := decide_eq_true c5
      clear c5
      simp only [Option.some.injEq,Prod.mk.injEq] at H
      obtain ⟨rfl,rfl,rfl⟩ := H
      go_enter Try.func30,Try.ntmps30
      go_wp2_with (first | ((with_reducible refine gate_callee (f := 44) rfl ?_);refine goesL_ (some 9) rfl rfl Try.func44 Z363 rfl #[.pointer (some ⟨g,0,none⟩),.int .i64 (l1.length : Int)] rfl Z330 ?_;(with_reducible refine (spec_l1Below.calls g s0_0 s0_1 s0_2 (l1.length : Int) t375 t376 t377 w0 _ ?side1 ?side2 A3.out).mono ?_);(case side1 => exact Z319);(case side2 => exact Z318);rintro e w6 ⟨rfl,hi,hb,hk⟩;refine ⟨_,rfl,?_⟩;have n_ := jA (KeepBut.trans Z428 hk (.inl rfl)) (jA (hb) (Aside0.mk (hi)));clear HK HB HI0;obtain ⟨HK,HB,HI0⟩ := n_;(try clear hb);(try clear hb2);(try clear hk);(try clear hi);have p378 : 0 ≤ (t375 : Int) := of_decide_eq_true Z357;have q378 : t375 < (l1.length : Int) := of_decide_eq_true Z357;obtain ⟨ad378,e378,hx378_0⟩ := Kd.at_int HR1.out t375 p378 q378;cases e378;replace hx378_0 := keep_cell HK.out hx378_0 (by first | (rw [add_block];exact hf1 _ rfl (by omega)) | exact hf1 _ rfl (by omega) | exact hf1 ad378 rfl (by omega));replace p378 := eq_true p378;replace q378 := eq_true q378))
      go_ret
      exact ⟨Z354,Z319,Z318,Z428⟩
    · rw [if_neg c5] at H
      exact absurd H Z483
  · rw [if_neg c4] at H
    exact absurd H Z483

/-! ### spec_l1Once: function 52 -/
def spec_l1Once.f (s0_0 : List Int) (s0_1 : Int) (s0_2 : Int) (a1 : Int) : Option (Bool × Int × Int) := (spec_l1Below.f s0_0 s0_1 s0_2 a1).bind fun bt379 => (some ((bt379.1 == 0),bt379.2.1,bt379.2.2))
set_option maxHeartbeats 8000000 in
set_option maxRecDepth 100000 in
theorem spec_l1Once.calls (g : Nat) (s0_0 : List Int) (s0_1 : Int) (s0_2 : Int) (a1 : Int) (r1 : Bool) (r2 : Int) (r3 : Int) (w0 w : World) (hI : IsS76 w0 w g s0_0 s0_1 s0_2) (hB : Below w0.heap.size w0 w) (h : spec_l1Once.f s0_0 s0_1 s0_2 a1 = some (r1,r2,r3)) :
    Calls Try.prog 52 #[.pointer (some ⟨g,0,none⟩),.int .i64 a1] w fun e w' => e = .returned (.bool r1) ∧ IsS76 w0 w' g s0_0 r2 r3 ∧ Below w0.heap.size w0 w' ∧ KeepBut w w' g none := by
  have HI0 := Aside0.mk hI
  have HK := Aside0.mk (KeepBut.refl w g none)
  have HL := Aside0.mk hB.size
  clear hI
  have HW0 := Aside0.mk hB.size
  have HB := Aside0.mk hB
  clear hB
  have H : ((spec_l1Below.f s0_0 s0_1 s0_2 a1).bind fun bt379 => (some ((bt379.1 == 0),bt379.2.1,bt379.2.2))) = some (r1,r2,r3) := h
  clear h
  obtain ⟨⟨t379,t380,t381⟩,A30,H⟩ := Option.bind_eq_some_iff.mp H
  try dsimp only at H
  have A3 := Aside0.mk A30
  clear A30
  simp only [Option.some.injEq,Prod.mk.injEq] at H
  obtain ⟨rfl,rfl,rfl⟩ := H
  go_enter Try.func52,Try.ntmps52
  go_wp2_with (first | ((with_reducible refine gate_callee (f := 44) rfl ?_);refine goesL_ (some 7) rfl rfl Try.func44 Z363 rfl #[.pointer (some ⟨g,0,none⟩),.int .i64 a1] rfl Z330 ?_;(with_reducible refine (spec_l1Below.calls g s0_0 s0_1 s0_2 a1 t379 t380 t381 w0 _ ?side1 ?side2 A3.out).mono ?_);(case side1 => exact Z319);(case side2 => exact Z318);rintro e w4 ⟨rfl,hi,hb,hk⟩;refine ⟨_,rfl,?_⟩;have n_ := jA (KeepBut.trans Z428 hk (.inl rfl)) (jA (hb) (Aside0.mk (hi)));clear HK HB HI0;obtain ⟨HK,HB,HI0⟩ := n_;(try clear hb);(try clear hb2);(try clear hk);(try clear hi)))
  go_ret
  exact ⟨Z354,Z319,Z318,Z428⟩

/-! ### spec_l1Whole: function 73 -/
def spec_l1Whole.l0 : Nat → Int → Int → List Int → Int → Int → Option (Int × Int × Int)
  | 0,_,_,_,_,_ => none
  | k + 1,x3,x4,x1000,x1001,x1002 => if x4 < 8 then ((spec_l1Byte.f x1000 x1001 x1002).bind fun bt391 => (spec_l1Whole.l0 k (wrap64 ((wrap64 (x3 * 256)) + bt391.1)) (wrap64 (x4 + 1)) x1000 bt391.2.1 bt391.2.2)) else (some (x3,x1001,x1002))
def spec_l1Whole.f (k : Nat) (s0_0 : List Int) (s0_1 : Int) (s0_2 : Int) : Option (Int × Int × Int) := (spec_l1Below.f s0_0 s0_1 s0_2 4).bind fun bt382 => (if bt382.1 = 0 then ((spec_l1PickInt.f s0_0 bt382.2.1 bt382.2.2 (([0,1,(-1),9,10,999,1000,2147483647,(-2147483648),3037000499,3037000500,9223372036854775807,(-9223372036854775807),(-9223372036854775808)] : List Int))).bind fun bt388 => (some (bt388.1,bt388.2.1,bt388.2.2))) else (if bt382.1 = 1 then (spec_l1Whole.l0 k 0 0 s0_0 bt382.2.1 bt382.2.2) else (if bt382.1 = 2 then ((spec_l1Below.f s0_0 bt382.2.1 bt382.2.2 1000000).bind fun bt394 => (some (wrap64 (bt394.1 - 500000),bt394.2.1,bt394.2.2))) else ((spec_l1Below.f s0_0 bt382.2.1 bt382.2.2 41).bind fun bt397 => (some (wrap64 (bt397.1 - 20),bt397.2.1,bt397.2.2))))))
theorem spec_l1Whole.mono_l : ∀ k,(∀ y0 y1 y2 y3 y4,LeO (spec_l1Whole.l0 k y0 y1 y2 y3 y4) (spec_l1Whole.l0 (k + 1) y0 y1 y2 y3 y4))
  | 0 => fun _ _ _ _ _ r h => by simp [spec_l1Whole.l0] at h
  | k + 1 => by
    have ih0 := spec_l1Whole.mono_l k
    · intro y0 y1 y2 y3 y4
      unfold spec_l1Whole.l0
      repeat' first
      | (with_reducible exact ih0 _ _ _ _ _)
      | (with_reducible exact LeO.refl _)
      | (with_reducible exact LeO.none _)
      | (with_reducible refine LeO.ite ?_ ?_)
      | (with_reducible refine LeO.bind ?_ (fun _ => ?_))
      | exact ih0 _ _ _ _ _
      | exact LeO.none _
      | refine LeO.ite ?_ ?_
      | refine LeO.bind ?_ (fun _ => ?_)
theorem spec_l1Whole.mono : ∀ a0 a1 a2 k,LeO (spec_l1Whole.f k a0 a1 a2) (spec_l1Whole.f (k + 1) a0 a1 a2) := by
  intro a0 a1 a2 k
  have ih0 := spec_l1Whole.mono_l k
  unfold spec_l1Whole.f
  repeat' first
      | (with_reducible exact ih0 _ _ _ _ _)
      | (with_reducible exact LeO.refl _)
      | (with_reducible exact LeO.none _)
      | (with_reducible refine LeO.ite ?_ ?_)
      | (with_reducible refine LeO.bind ?_ (fun _ => ?_))
      | exact ih0 _ _ _ _ _
      | exact LeO.none _
      | refine LeO.ite ?_ ?_
      | refine LeO.bind ?_ (fun _ => ?_)
set_option maxHeartbeats 8000000 in
set_option maxRecDepth 100000 in
theorem spec_l1Whole.calls (k : Nat) (g : Nat) (s0_0 : List Int) (s0_1 : Int) (s0_2 : Int) (r1 : Int) (r2 : Int) (r3 : Int) (w0 w : World) (hI : IsS76 w0 w g s0_0 s0_1 s0_2) (hB : Below w0.heap.size w0 w) (h : spec_l1Whole.f k s0_0 s0_1 s0_2 = some (r1,r2,r3)) :
    Calls Try.prog 73 #[.pointer (some ⟨g,0,none⟩)] w fun e w' => e = .returned (.int .i64 r1) ∧ IsS76 w0 w' g s0_0 r2 r3 ∧ Below w0.heap.size w0 w' ∧ KeepBut w w' g none := by
  have HI0 := Aside0.mk hI
  have HK := Aside0.mk (KeepBut.refl w g none)
  have HL := Aside0.mk hB.size
  clear hI
  have HW0 := Aside0.mk hB.size
  have HB := Aside0.mk hB
  clear hB
  have H : ((spec_l1Below.f s0_0 s0_1 s0_2 4).bind fun bt382 => (if bt382.1 = 0 then ((spec_l1PickInt.f s0_0 bt382.2.1 bt382.2.2 (([0,1,(-1),9,10,999,1000,2147483647,(-2147483648),3037000499,3037000500,9223372036854775807,(-9223372036854775807),(-9223372036854775808)] : List Int))).bind fun bt388 => (some (bt388.1,bt388.2.1,bt388.2.2))) else (if bt382.1 = 1 then (spec_l1Whole.l0 k 0 0 s0_0 bt382.2.1 bt382.2.2) else (if bt382.1 = 2 then ((spec_l1Below.f s0_0 bt382.2.1 bt382.2.2 1000000).bind fun bt394 => (some (wrap64 (bt394.1 - 500000),bt394.2.1,bt394.2.2))) else ((spec_l1Below.f s0_0 bt382.2.1 bt382.2.2 41).bind fun bt397 => (some (wrap64 (bt397.1 - 20),bt397.2.1,bt397.2.2))))))) = some (r1,r2,r3) := h
  clear h
  obtain ⟨⟨t382,t383,t384⟩,A20,H⟩ := Option.bind_eq_some_iff.mp H
  try dsimp only at H
  have A2 := Aside0.mk A20
  clear A20
  by_cases c3 : t382 = 0
  · rw [if_pos c3] at H
    have c3b0 : (t382 == 0) = true := beq_iff_eq.mpr c3
    have c3b1 : (t382 != 0) = false := bne_eq_false_iff_eq.mpr c3
    clear c3
    obtain ⟨y385,hy385⟩ : ∃ y_ : List Int,y_ = (([0,1,(-1),9,10,999,1000,2147483647,(-2147483648),3037000499,3037000500,9223372036854775807,(-9223372036854775807),(-9223372036854775808)] : List Int)) := ⟨_,rfl⟩
    replace H : ((spec_l1PickInt.f s0_0 t383 t384 y385).bind fun bt388 => (some (bt388.1,bt388.2.1,bt388.2.2))) = some (r1,r2,r3) := by first | (rw [hy385];with_reducible exact H) | (have H2_ := (Option.bind_some _ _).symm.trans H;rw [hy385];with_reducible exact H2_) | (have H2_ := (Option.bind_some _ _).symm.trans H;with_reducible exact H2_) | with_reducible exact H | (rw [hy385];exact H) | exact H
    have Ny385 := Aside0.mk hy385
    clear hy385
    obtain ⟨⟨t388,t389,t390⟩,A40,H⟩ := Option.bind_eq_some_iff.mp H
    try dsimp only at H
    have A4 := Aside0.mk A40
    clear A40
    simp only [Option.some.injEq,Prod.mk.injEq] at H
    obtain ⟨rfl,rfl,rfl⟩ := H
    go_enter Try.func73,Try.ntmps73
    go_wp2_with (first | ((with_reducible refine gate_callee (f := 44) rfl ?_);refine goesL_ (some 6) rfl rfl Try.func44 Z363 rfl #[.pointer (some ⟨g,0,none⟩),.int .i64 4] rfl Z330 ?_;(with_reducible refine (spec_l1Below.calls g s0_0 s0_1 s0_2 4 t382 t383 t384 w0 _ ?side1 ?side2 A2.out).mono ?_);(case side1 => exact Z319);(case side2 => exact Z318);rintro e w5 ⟨rfl,hi,hb,hk⟩;refine ⟨_,rfl,?_⟩;have n_ := jA (KeepBut.trans Z428 hk (.inl rfl)) (jA (hb) (Aside0.mk (hi)));clear HK HB HI0;obtain ⟨HK,HB,HI0⟩ := n_;(try clear hb);(try clear hb2);(try clear hk);(try clear hi)) | ((with_reducible refine gate_dst (N := 10) rfl ?_);refine Kd.R_lit (Kd.int .i64) _ 3 ?hg (N := 10) ?hd (xs := ([0,1,(-1),9,10,999,1000,2147483647,(-2147483648),3037000499,3037000500,9223372036854775807,(-9223372036854775807),(-9223372036854775808)] : List Int)) (inner := [.int .i64 0,.int .i64 1,.int .i64 (-1),.int .i64 9,.int .i64 10,.int .i64 999,.int .i64 1000,.int .i64 2147483647,.int .i64 (-2147483648),.int .i64 3037000499,.int .i64 3037000500,.int .i64 9223372036854775807,.int .i64 (-9223372036854775807),.int .i64 (-9223372036854775808)]) (ok := fun _ => True) (okp := fun _ => True) ?hr ?hp (fun _ hk => hk) trivial (Below.refl _ _) (Nat.le_refl _) Z483 ?_;(case hd => rfl);(case hg => rfl);(case hr => exact Z359);(case hp => exact (Reps.one (show Kd.M (Kd.int .i64) _ _ _ 0 [.int .i64 0] from rfl) (Reps.one (show Kd.M (Kd.int .i64) _ _ _ 1 [.int .i64 1] from rfl) (Reps.one (show Kd.M (Kd.int .i64) _ _ _ (-1) [.int .i64 (-1)] from rfl) (Reps.one (show Kd.M (Kd.int .i64) _ _ _ 9 [.int .i64 9] from rfl) (Reps.one (show Kd.M (Kd.int .i64) _ _ _ 10 [.int .i64 10] from rfl) (Reps.one (show Kd.M (Kd.int .i64) _ _ _ 999 [.int .i64 999] from rfl) (Reps.one (show Kd.M (Kd.int .i64) _ _ _ 1000 [.int .i64 1000] from rfl) (Reps.one (show Kd.M (Kd.int .i64) _ _ _ 2147483647 [.int .i64 2147483647] from rfl) (Reps.one (show Kd.M (Kd.int .i64) _ _ _ (-2147483648) [.int .i64 (-2147483648)] from rfl) (Reps.one (show Kd.M (Kd.int .i64) _ _ _ 3037000499 [.int .i64 3037000499] from rfl) (Reps.one (show Kd.M (Kd.int .i64) _ _ _ 3037000500 [.int .i64 3037000500] from rfl) (Reps.one (show Kd.M (Kd.int .i64) _ _ _ 9223372036854775807 [.int .i64 9223372036854775807] from rfl) (Reps.one (show Kd.M (Kd.int .i64) _ _ _ (-9223372036854775807) [.int .i64 (-9223372036854775807)] from rfl) (Reps.one (show Kd.M (Kd.int .i64) _ _ _ (-9223372036854775808) [.int .i64 (-9223372036854775808)] from rfl) (Reps.none _ _))))))))))))))));intro v386 w6 ho7 hb hg_ hnew_;clear hg_ hnew_;(first | rw [← Ny385.out] at ho7 | (simp only [Int.reduceToNat] at ho7;rw [← Ny385.out] at ho7));have n_ := jA (Kd.R_lower ho7 (keep_size (w := w) (g := g) (row := none) Z428)) (jA (IsS76.below Z319 hb) (jA (KeepBut.trans Z428 (KeepBut.of_below hb g none) (.inl rfl)) (Aside0.mk (below_step Z318 hb))));clear HI0 HK HB;obtain ⟨HO387,HI0,HK,HB⟩ := n_;clear hb ho7;obtain ⟨Ao8,co8,eo8⟩ := Kd.R_slice HO387.out;subst eo8) | ((with_reducible refine gate_callee (f := 30) rfl ?_);refine goesL_ (some 11) rfl rfl Try.func30 Z363 rfl #[.pointer (some ⟨g,0,none⟩),.slice Ao8 y385.length co8] rfl Z330 ?_;(with_reducible refine (spec_l1PickInt.calls g s0_0 t383 t384 _ _ y385 t388 t389 t390 w0 _ ?side1 ?side2 ?side3 ?side4 ?side5 A4.out).mono ?_);(case side1 => exact Z319);(case side2 => exact Z318);(case side3 => repeat (first | exact (Kd.R_reads' HO387.out).2.2 | (with_reducible refine Kd.C_alloc ?_ _) | (with_reducible refine Kd.C_drewN ?_ _) | (with_reducible refine Kd.C_drew ?_)));(case side4 => exact (Kd.R_reads' HO387.out).2.1);(case side5 => exact far_slice (IsS76.own_ne HI0.out HO387.out Z364));rintro e w9 ⟨rfl,hi,hb,hk⟩;refine ⟨_,rfl,?_⟩;have n_ := jA (Kd.R_mono (Kd.R_keep (IsS76.apart (show IsS76 w0 _ g s0_0 t383 t384 from Z319) (by (with_reducible repeat (first | apply Kd.R_alloc | apply Kd.R_drewN | apply Kd.R_drew));exact HO387.out) Z364) hk (fun _ h => h.2)) (fun _ h => h.1)) (jA (KeepBut.trans Z428 hk (.inl rfl)) (jA (hb) (Aside0.mk (hi))));clear HO387 HK HB HI0;obtain ⟨HO387,HK,HB,HI0⟩ := n_;(try clear hb);(try clear hb2);(try clear hk);(try clear hi)))
    go_ret
    exact ⟨Z354,Z319,Z318,Z428⟩
  · rw [if_neg c3] at H
    have c3b0 : (t382 == 0) = false := beq_eq_false_iff_ne.mpr c3
    have c3b1 : (t382 != 0) = true := bne_iff_ne.mpr c3
    by_cases c10 : t382 = 1
    · rw [if_pos c10] at H
      have c10b0 : (t382 == 1) = true := beq_iff_eq.mpr c10
      have c10b1 : (t382 != 1) = false := bne_eq_false_iff_eq.mpr c10
      clear c10
      have H' := Aside0.mk H
      clear H
      go_enter Try.func73,Try.ntmps73
      go_wp2_with (first | ((with_reducible refine gate_callee (f := 44) rfl ?_);refine goesL_ (some 6) rfl rfl Try.func44 Z363 rfl #[.pointer (some ⟨g,0,none⟩),.int .i64 4] rfl Z330 ?_;(with_reducible refine (spec_l1Below.calls g s0_0 s0_1 s0_2 4 t382 t383 t384 w0 _ ?side1 ?side2 A2.out).mono ?_);(case side1 => exact Z319);(case side2 => exact Z318);rintro e w11 ⟨rfl,hi,hb,hk⟩;refine ⟨_,rfl,?_⟩;have n_ := jA (KeepBut.trans Z428 hk (.inl rfl)) (jA (hb) (Aside0.mk (hi)));clear HK HB HI0;obtain ⟨HK,HB,HI0⟩ := n_;(try clear hb);(try clear hb2);(try clear hk);(try clear hi)))
      go_loopg [3,4] k (fun kq v3 v4 w' => ∃ (x3_1 : Int) (x4_1 : Int) (x1001_1 : Int) (x1002_1 : Int),v3 = .int .i64 x3_1 ∧ v4 = .int .i64 x4_1 ∧ Aside0 (spec_l1Whole.l0 kq x3_1 x4_1 s0_0 x1001_1 x1002_1 = some (r1,r2,r3)) ∧ Aside0 (kq ≤ k) ∧ Aside0 (IsS76 w0 w' g s0_0 x1001_1 x1002_1) ∧ Aside0 (KeepBut w w' g none) ∧ Aside0 (Below w0.heap.size w0 w'))
      case atStart => exact ⟨(0),(0),(t383),(t384),Z358,Z358,H',⟨Nat.le_refl _⟩,⟨Z319⟩,⟨Z428⟩,⟨Z318⟩⟩
      case round =>
        clear H'
        try clear c1
        try clear p2
        try clear c3
        try clear c3b0
        try clear c3b1
        try clear c4
        try clear p6
        try clear c7
        try clear c10
        try clear c10b0
        try clear c10b1
        obtain ⟨x3_1,x4_1,x1001_1,x1002_1,rfl,rfl,HA,HK1,HI0,HK,HB⟩ := hrel
        cases gk with
        | zero => exact absurd HA.out (by simp [spec_l1Whole.l0])
        | succ k1 =>
          have H := HA.out
          clear HA
          simp only [spec_l1Whole.l0] at H
          by_cases c12 : x4_1 < 8
          · rw [if_pos c12] at H
            have c12b0 : decide (x4_1 < 8) = true := decide_eq_true c12
            clear c12
            obtain ⟨⟨t391,t392,t393⟩,A130,H⟩ := Option.bind_eq_some_iff.mp H
            try dsimp only at H
            have A13 := Aside0.mk A130
            clear A130
            have H' := Aside0.mk H
            clear H
            go_wp2_with (first | ((with_reducible refine gate_callee (f := 63) rfl ?_);refine goesL_ (some 21) rfl rfl Try.func63 Z363 rfl #[.pointer (some ⟨g,0,none⟩)] rfl Z330 ?_;(with_reducible refine (spec_l1Byte.calls g s0_0 x1001_1 x1002_1 t391 t392 t393 w0 _ ?side1 ?side2 A13.out).mono ?_);(case side1 => exact Z319);(case side2 => exact Z318);rintro e w14 ⟨rfl,hi,hb,hk⟩;refine ⟨_,rfl,?_⟩;have n_ := jA (KeepBut.trans Z428 hk (.inl rfl)) (jA (hb) (Aside0.mk (hi)));clear HK HB HI0;obtain ⟨HK,HB,HI0⟩ := n_;(try clear hb);(try clear hb2);(try clear hk);(try clear hi)))
            go_roundg k1
            case measure => have := HK1.out;omega
            case rel => exact ⟨(wrap64 ((wrap64 (x3_1 * 256)) + t391)),(wrap64 (x4_1 + 1)),(t392),(t393),Z358,Z358,H',⟨by have := HK1.out;omega⟩,⟨Z319⟩,⟨Z428⟩,⟨Z318⟩⟩
          · rw [if_neg c12] at H
            have c12b0 : decide (x4_1 < 8) = false := decide_eq_false c12
            clear c12
            simp only [Option.some.injEq,Prod.mk.injEq] at H
            obtain ⟨rfl,rfl,rfl⟩ := H
            go_wp2
            go_ret
            exact ⟨Z354,Z319,Z318,Z428⟩
    · rw [if_neg c10] at H
      have c10b0 : (t382 == 1) = false := beq_eq_false_iff_ne.mpr c10
      have c10b1 : (t382 != 1) = true := bne_iff_ne.mpr c10
      by_cases c15 : t382 = 2
      · rw [if_pos c15] at H
        have c15b0 : (t382 == 2) = true := beq_iff_eq.mpr c15
        have c15b1 : (t382 != 2) = false := bne_eq_false_iff_eq.mpr c15
        clear c15
        obtain ⟨⟨t394,t395,t396⟩,A160,H⟩ := Option.bind_eq_some_iff.mp H
        try dsimp only at H
        have A16 := Aside0.mk A160
        clear A160
        simp only [Option.some.injEq,Prod.mk.injEq] at H
        obtain ⟨rfl,rfl,rfl⟩ := H
        go_enter Try.func73,Try.ntmps73
        go_wp2_with (first | ((with_reducible refine gate_callee (f := 44) rfl ?_);refine goesL_ (some 6) rfl rfl Try.func44 Z363 rfl #[.pointer (some ⟨g,0,none⟩),.int .i64 4] rfl Z330 ?_;(with_reducible refine (spec_l1Below.calls g s0_0 s0_1 s0_2 4 t382 t383 t384 w0 _ ?side1 ?side2 A2.out).mono ?_);(case side1 => exact Z319);(case side2 => exact Z318);rintro e w17 ⟨rfl,hi,hb,hk⟩;refine ⟨_,rfl,?_⟩;have n_ := jA (KeepBut.trans Z428 hk (.inl rfl)) (jA (hb) (Aside0.mk (hi)));clear HK HB HI0;obtain ⟨HK,HB,HI0⟩ := n_;(try clear hb);(try clear hb2);(try clear hk);(try clear hi)) | ((with_reducible refine gate_callee (f := 44) rfl ?_);refine goesL_ (some 27) rfl rfl Try.func44 Z363 rfl #[.pointer (some ⟨g,0,none⟩),.int .i64 1000000] rfl Z330 ?_;(with_reducible refine (spec_l1Below.calls g s0_0 t383 t384 1000000 t394 t395 t396 w0 _ ?side1 ?side2 A16.out).mono ?_);(case side1 => exact Z319);(case side2 => exact Z318);rintro e w18 ⟨rfl,hi,hb,hk⟩;refine ⟨_,rfl,?_⟩;have n_ := jA (KeepBut.trans Z428 hk (.inl rfl)) (jA (hb) (Aside0.mk (hi)));clear HK HB HI0;obtain ⟨HK,HB,HI0⟩ := n_;(try clear hb);(try clear hb2);(try clear hk);(try clear hi)))
        go_ret
        exact ⟨Z354,Z319,Z318,Z428⟩
      · rw [if_neg c15] at H
        have c15b0 : (t382 == 2) = false := beq_eq_false_iff_ne.mpr c15
        have c15b1 : (t382 != 2) = true := bne_iff_ne.mpr c15
        obtain ⟨⟨t397,t398,t399⟩,A190,H⟩ := Option.bind_eq_some_iff.mp H
        try dsimp only at H
        have A19 := Aside0.mk A190
        clear A190
        simp only [Option.some.injEq,Prod.mk.injEq] at H
        obtain ⟨rfl,rfl,rfl⟩ := H
        go_enter Try.func73,Try.ntmps73
        go_wp2_with (first | ((with_reducible refine gate_callee (f := 44) rfl ?_);refine goesL_ (some 6) rfl rfl Try.func44 Z363 rfl #[.pointer (some ⟨g,0,none⟩),.int .i64 4] rfl Z330 ?_;(with_reducible refine (spec_l1Below.calls g s0_0 s0_1 s0_2 4 t382 t383 t384 w0 _ ?side1 ?side2 A2.out).mono ?_);(case side1 => exact Z319);(case side2 => exact Z318);rintro e w20 ⟨rfl,hi,hb,hk⟩;refine ⟨_,rfl,?_⟩;have n_ := jA (KeepBut.trans Z428 hk (.inl rfl)) (jA (hb) (Aside0.mk (hi)));clear HK HB HI0;obtain ⟨HK,HB,HI0⟩ := n_;(try clear hb);(try clear hb2);(try clear hk);(try clear hi)) | ((with_reducible refine gate_callee (f := 44) rfl ?_);refine goesL_ (some 30) rfl rfl Try.func44 Z363 rfl #[.pointer (some ⟨g,0,none⟩),.int .i64 41] rfl Z330 ?_;(with_reducible refine (spec_l1Below.calls g s0_0 t383 t384 41 t397 t398 t399 w0 _ ?side1 ?side2 A19.out).mono ?_);(case side1 => exact Z319);(case side2 => exact Z318);rintro e w21 ⟨rfl,hi,hb,hk⟩;refine ⟨_,rfl,?_⟩;have n_ := jA (KeepBut.trans Z428 hk (.inl rfl)) (jA (hb) (Aside0.mk (hi)));clear HK HB HI0;obtain ⟨HK,HB,HI0⟩ := n_;(try clear hb);(try clear hb2);(try clear hk);(try clear hi)))
        go_ret
        exact ⟨Z354,Z319,Z318,Z428⟩

/-! ### spec_l14Slot: function 51 -/
theorem spec_l14Slot.cells2 {w : World} {g : Nat} {t : TypeId} {a0 a1 : Value} (h : w.heap[g]? = some (.cells #[a0,a1] t (0,0))) : w.cell? ⟨g,0,none⟩ = some a0 ∧ w.cell? ⟨g,1,none⟩ = some a1 ∧ w.frozen? ⟨g,0,none⟩ = false ∧ w.frozen? ⟨g,1,none⟩ = false := ⟨(blk_cell h 0).trans rfl,(blk_cell h 1).trans rfl,blk_frozen h 0,blk_frozen h 1⟩
def spec_l14Slot.f (k : Nat) (s0_0 : List Int) (s0_1 : Int) (s0_2 : Int) : Option (Int × Int × Int × Int) := (spec_l1Once.f s0_0 s0_1 s0_2 10).bind fun bt401 => (if bt401.1 = true then ((spec_l1PickInt.f s0_0 bt401.2.1 bt401.2.2 (([0,40,41,(-1),9223372036854775807] : List Int))).bind fun bt407 => ((spec_l1Whole.f k s0_0 bt407.2.1 bt407.2.2).bind fun bt410 => (some (bt407.1,bt410.1,bt410.2.1,bt410.2.2)))) else ((spec_l1Below.f s0_0 bt401.2.1 bt401.2.2 12).bind fun bt413 => ((spec_l1Below.f s0_0 bt413.2.1 bt413.2.2 8001).bind fun bt416 => (some (bt413.1,wrap64 (bt416.1 - 4000),bt416.2.1,bt416.2.2)))))
theorem spec_l14Slot.mono : ∀ a0 a1 a2 k,LeO (spec_l14Slot.f k a0 a1 a2) (spec_l14Slot.f (k + 1) a0 a1 a2) := by
  intro a0 a1 a2 k
  unfold spec_l14Slot.f
  repeat' first
      | (with_reducible exact spec_l1Whole.mono _ _ _ _)
      | (with_reducible exact LeO.refl _)
      | (with_reducible exact LeO.none _)
      | (with_reducible refine LeO.ite ?_ ?_)
      | (with_reducible refine LeO.bind ?_ (fun _ => ?_))
      | exact spec_l1Whole.mono _ _ _ _
      | exact LeO.none _
      | refine LeO.ite ?_ ?_
      | refine LeO.bind ?_ (fun _ => ?_)
set_option maxHeartbeats 8000000 in
set_option maxRecDepth 100000 in
theorem spec_l14Slot.calls (k : Nat) (g : Nat) (s0_0 : List Int) (s0_1 : Int) (s0_2 : Int) (r1 : Int) (r2 : Int) (r3 : Int) (r4 : Int) (w0 w : World) (hI : IsS76 w0 w g s0_0 s0_1 s0_2) (hB : Below w0.heap.size w0 w) (h : spec_l14Slot.f k s0_0 s0_1 s0_2 = some (r1,r2,r3,r4)) :
    Calls Try.prog 51 #[.pointer (some ⟨g,0,none⟩)] w fun e w' => e = .returned (.agg #[.int .i64 r1,.int .i64 r2]) ∧ IsS76 w0 w' g s0_0 r3 r4 ∧ Below w0.heap.size w0 w' ∧ KeepBut w w' g none := by
  have hu33 := Try.underlying33
  have HI0 := Aside0.mk hI
  have HK := Aside0.mk (KeepBut.refl w g none)
  have HL := Aside0.mk hB.size
  clear hI
  have HW0 := Aside0.mk hB.size
  have HB := Aside0.mk hB
  clear hB
  have H : ((spec_l1Once.f s0_0 s0_1 s0_2 10).bind fun bt401 => (if bt401.1 = true then ((spec_l1PickInt.f s0_0 bt401.2.1 bt401.2.2 (([0,40,41,(-1),9223372036854775807] : List Int))).bind fun bt407 => ((spec_l1Whole.f k s0_0 bt407.2.1 bt407.2.2).bind fun bt410 => (some (bt407.1,bt410.1,bt410.2.1,bt410.2.2)))) else ((spec_l1Below.f s0_0 bt401.2.1 bt401.2.2 12).bind fun bt413 => ((spec_l1Below.f s0_0 bt413.2.1 bt413.2.2 8001).bind fun bt416 => (some (bt413.1,wrap64 (bt416.1 - 4000),bt416.2.1,bt416.2.2)))))) = some (r1,r2,r3,r4) := h
  clear h
  obtain ⟨⟨t401,t402,t403⟩,A20,H⟩ := Option.bind_eq_some_iff.mp H
  try dsimp only at H
  have A2 := Aside0.mk A20
  clear A20
  by_cases c3 : t401 = true
  · subst c3
    have H1 : ((spec_l1PickInt.f s0_0 t402 t403 (([0,40,41,(-1),9223372036854775807] : List Int))).bind fun bt407 => ((spec_l1Whole.f k s0_0 bt407.2.1 bt407.2.2).bind fun bt410 => (some (bt407.1,bt410.1,bt410.2.1,bt410.2.2)))) = some (r1,r2,r3,r4) := by rw [if_pos rfl] at H;exact H
    clear H
    have H := H1
    clear H1
    obtain ⟨y404,hy404⟩ : ∃ y_ : List Int,y_ = (([0,40,41,(-1),9223372036854775807] : List Int)) := ⟨_,rfl⟩
    replace H : ((spec_l1PickInt.f s0_0 t402 t403 y404).bind fun bt407 => ((spec_l1Whole.f k s0_0 bt407.2.1 bt407.2.2).bind fun bt410 => (some (bt407.1,bt410.1,bt410.2.1,bt410.2.2)))) = some (r1,r2,r3,r4) := by first | (rw [hy404];with_reducible exact H) | (have H2_ := (Option.bind_some _ _).symm.trans H;rw [hy404];with_reducible exact H2_) | (have H2_ := (Option.bind_some _ _).symm.trans H;with_reducible exact H2_) | with_reducible exact H | (rw [hy404];exact H) | exact H
    have Ny404 := Aside0.mk hy404
    clear hy404
    obtain ⟨⟨t407,t408,t409⟩,A40,H⟩ := Option.bind_eq_some_iff.mp H
    try dsimp only at H
    have A4 := Aside0.mk A40
    clear A40
    obtain ⟨⟨t410,t411,t412⟩,A50,H⟩ := Option.bind_eq_some_iff.mp H
    try dsimp only at H
    have A5 := Aside0.mk A50
    clear A50
    simp only [Option.some.injEq,Prod.mk.injEq] at H
    obtain ⟨rfl,rfl,rfl,rfl⟩ := H
    go_enter Try.func51,Try.ntmps51
    go_wp2_with (first | ((with_reducible refine gate_dst (N := 2) rfl ?_);refine box_event ?hg (N := 2) ?hd (cs := #[.int .i64 0,.int .i64 0]) (t := 33) ?hr ?_;(case hd => rfl);(case hg => rfl);(case hr => exact Z359);intro gb400 hg w6 hbox hb;have n_ := jA (IsS76.below Z319 hb) (jA (KeepBut.trans Z428 (KeepBut.of_below hb g none) (.inl rfl)) (jA (below_step Z318 hb) (jA (hbox) (jA ((Z283 : w.heap.size ≤ gb400)) (jA ((Nat.le_trans HW0.out (Z283 : w.heap.size ≤ gb400) : w0.heap.size ≤ gb400)) (jA ((by rw [hg];exact Nat.ne_of_lt (IsS76.lt (show IsS76 w0 _ g s0_0 s0_1 s0_2 from Z319)) : g ≠ gb400)) (Aside0.mk ((by rw [hg];exact Nat.ne_of_gt (IsS76.lt (show IsS76 w0 _ g s0_0 s0_1 s0_2 from Z319)) : gb400 ≠ g)))))))));clear HI0 HK HB;obtain ⟨HI0,HK,HB,BK400,GW400,GE400,NB0_400,NB400_0⟩ := n_;clear hb hbox hg) | ((with_reducible refine gate_callee (f := 52) rfl ?_);refine goesL_ (some 4) rfl rfl Try.func52 Z363 rfl #[.pointer (some ⟨g,0,none⟩),.int .i64 10] rfl Z330 ?_;(with_reducible refine (spec_l1Once.calls g s0_0 s0_1 s0_2 10 true t402 t403 w0 _ ?side1 ?side2 A2.out).mono ?_);(case side1 => exact Z286);(case side2 => exact Z294);rintro e w7 ⟨rfl,hi,hb,hk⟩;refine ⟨_,rfl,?_⟩;have n_ := jA (KeepBut.blk hk (g' := gb400) (o := .cells #[.int .i64 0,.int .i64 0] 33 (0,0)) Z345 NB400_0.out Z483) (jA (KeepBut.trans Z317 hk (.inl rfl)) (jA (hb) (Aside0.mk (hi))));clear BK400 HK HB HI0;obtain ⟨BK400,HK,HB,HI0⟩ := n_;(try clear hb);(try clear hb2);(try clear hk);(try clear hi)) | ((with_reducible refine gate_dst (N := 6) rfl ?_);refine Kd.R_lit (Kd.int .i64) _ 3 ?hg (N := 6) ?hd (xs := ([0,40,41,(-1),9223372036854775807] : List Int)) (inner := [.int .i64 0,.int .i64 40,.int .i64 41,.int .i64 (-1),.int .i64 9223372036854775807]) (ok := fun _ => True) (okp := fun _ => True) ?hr ?hp (fun _ hk => hk) trivial (Below.refl _ _) (Nat.le_refl _) Z483 ?_;(case hd => rfl);(case hg => rfl);(case hr => exact Z359);(case hp => exact (Reps.one (show Kd.M (Kd.int .i64) _ _ _ 0 [.int .i64 0] from rfl) (Reps.one (show Kd.M (Kd.int .i64) _ _ _ 40 [.int .i64 40] from rfl) (Reps.one (show Kd.M (Kd.int .i64) _ _ _ 41 [.int .i64 41] from rfl) (Reps.one (show Kd.M (Kd.int .i64) _ _ _ (-1) [.int .i64 (-1)] from rfl) (Reps.one (show Kd.M (Kd.int .i64) _ _ _ 9223372036854775807 [.int .i64 9223372036854775807] from rfl) (Reps.none _ _)))))));intro v405 w8 ho9 hb hg_ hnew_;clear hg_ hnew_;(first | rw [← Ny404.out] at ho9 | (simp only [Int.reduceToNat] at ho9;rw [← Ny404.out] at ho9));have n_ := jA (Kd.R_lower ho9 (keep_size (w := w) (g := g) (row := none) Z317)) (jA (IsS76.below Z286 hb) (jA (blk_below (g := gb400) (o := .cells #[.int .i64 0,.int .i64 0] 33 (0,0)) Z345 hb) (jA (KeepBut.trans Z317 (KeepBut.of_below hb g none) (.inl rfl)) (Aside0.mk (below_step Z294 hb)))));clear HI0 BK400 HK HB;obtain ⟨HO406,HI0,BK400,HK,HB⟩ := n_;clear hb ho9;obtain ⟨Ao10,co10,eo10⟩ := Kd.R_slice HO406.out;subst eo10) | ((with_reducible refine gate_callee (f := 30) rfl ?_);refine goesL_ (some 7) rfl rfl Try.func30 Z363 rfl #[.pointer (some ⟨g,0,none⟩),.slice Ao10 y404.length co10] rfl Z330 ?_;(with_reducible refine (spec_l1PickInt.calls g s0_0 t402 t403 _ _ y404 t407 t408 t409 w0 _ ?side1 ?side2 ?side3 ?side4 ?side5 A4.out).mono ?_);(case side1 => exact Z286);(case side2 => exact Z294);(case side3 => repeat (first | exact (Kd.R_reads' HO406.out).2.2 | (with_reducible refine Kd.C_alloc ?_ _) | (with_reducible refine Kd.C_drewN ?_ _) | (with_reducible refine Kd.C_drew ?_)));(case side4 => exact (Kd.R_reads' HO406.out).2.1);(case side5 => exact far_slice (IsS76.own_ne HI0.out HO406.out Z364));rintro e w11 ⟨rfl,hi,hb,hk⟩;refine ⟨_,rfl,?_⟩;have n_ := jA (KeepBut.blk hk (g' := gb400) (o := .cells #[.int .i64 0,.int .i64 0] 33 (0,0)) Z345 NB400_0.out Z483) (jA (Kd.R_mono (Kd.R_keep (IsS76.apart (show IsS76 w0 _ g s0_0 t402 t403 from Z286) Z344 Z364) hk (fun _ h => h.2)) (fun _ h => h.1)) (jA (KeepBut.trans Z317 hk (.inl rfl)) (jA (hb) (Aside0.mk (hi)))));clear BK400 HO406 HK HB HI0;obtain ⟨BK400,HO406,HK,HB,HI0⟩ := n_;(try clear hb);(try clear hb2);(try clear hk);(try clear hi)) | ((with_reducible refine gate_callee (f := 73) rfl ?_);refine goesL_ (some 9) rfl rfl Try.func73 Z363 rfl #[.pointer (some ⟨g,0,none⟩)] rfl Z330 ?_;(with_reducible refine (spec_l1Whole.calls k g s0_0 t408 t409 t410 t411 t412 w0 _ ?side1 ?side2 A5.out).mono ?_);(case side1 => exact Z286);(case side2 => exact Z294);rintro e w12 ⟨rfl,hi,hb,hk⟩;refine ⟨_,rfl,?_⟩;have n_ := jA (KeepBut.blk hk (g' := gb400) (o := .cells #[.int .i64 0,.int .i64 0] 33 (0,0)) Z345 NB400_0.out Z483) (jA (Kd.R_mono (Kd.R_keep (IsS76.apart (show IsS76 w0 _ g s0_0 t408 t409 from Z286) Z344 Z364) hk (fun _ h => h.2)) (fun _ h => h.1)) (jA (KeepBut.trans Z317 hk (.inl rfl)) (jA (hb) (Aside0.mk (hi)))));clear BK400 HO406 HK HB HI0;obtain ⟨BK400,HO406,HK,HB,HI0⟩ := n_;(try clear hb);(try clear hb2);(try clear hk);(try clear hi);have hnb13 := NB400_0.out;have hnc13 := NB0_400.out;obtain ⟨hcz14_0,hcz14_1,hfz14_0,hfz14_1⟩ := spec_l14Slot.cells2 BK400.out))
    refine bodyPost_ret (results_cell_row rfl _ _ gb400 33 #[.int .i64 t407,.int .i64 t410] (0,0) _ rfl (by (with_reducible repeat (first | refine bA ?_ _ | refine bB ?_ | refine bC ?_ _));refine blk_put (cs := #[.int .i64 t407,.int .i64 0]) ?_ 1 _ rfl;(with_reducible repeat (first | refine bA ?_ _ | refine bB ?_ | refine bC ?_ _));refine blk_put (cs := #[.int .i64 0,.int .i64 0]) ?_ 0 _ rfl;(with_reducible repeat (first | refine bA ?_ _ | refine bB ?_ | refine bC ?_ _));exact BK400.out) Try.underlying33 rfl Z363) rfl ?_
    exact ⟨Z354,Z286,Z294,Z317⟩
  · replace c3 := Bool.eq_false_iff.mpr c3
    subst c3
    have H1 : ((spec_l1Below.f s0_0 t402 t403 12).bind fun bt413 => ((spec_l1Below.f s0_0 bt413.2.1 bt413.2.2 8001).bind fun bt416 => (some (bt413.1,wrap64 (bt416.1 - 4000),bt416.2.1,bt416.2.2)))) = some (r1,r2,r3,r4) := by rw [if_neg (show ¬ (false = true) by decide)] at H;exact H
    clear H
    have H := H1
    clear H1
    obtain ⟨⟨t413,t414,t415⟩,A150,H⟩ := Option.bind_eq_some_iff.mp H
    try dsimp only at H
    have A15 := Aside0.mk A150
    clear A150
    obtain ⟨⟨t416,t417,t418⟩,A160,H⟩ := Option.bind_eq_some_iff.mp H
    try dsimp only at H
    have A16 := Aside0.mk A160
    clear A160
    simp only [Option.some.injEq,Prod.mk.injEq] at H
    obtain ⟨rfl,rfl,rfl,rfl⟩ := H
    go_enter Try.func51,Try.ntmps51
    go_wp2_with (first | ((with_reducible refine gate_dst (N := 2) rfl ?_);refine box_event ?hg (N := 2) ?hd (cs := #[.int .i64 0,.int .i64 0]) (t := 33) ?hr ?_;(case hd => rfl);(case hg => rfl);(case hr => exact Z359);intro gb400 hg w17 hbox hb;have n_ := jA (IsS76.below Z319 hb) (jA (KeepBut.trans Z428 (KeepBut.of_below hb g none) (.inl rfl)) (jA (below_step Z318 hb) (jA (hbox) (jA ((Z283 : w.heap.size ≤ gb400)) (jA ((Nat.le_trans HW0.out (Z283 : w.heap.size ≤ gb400) : w0.heap.size ≤ gb400)) (jA ((by rw [hg];exact Nat.ne_of_lt (IsS76.lt (show IsS76 w0 _ g s0_0 s0_1 s0_2 from Z319)) : g ≠ gb400)) (Aside0.mk ((by rw [hg];exact Nat.ne_of_gt (IsS76.lt (show IsS76 w0 _ g s0_0 s0_1 s0_2 from Z319)) : gb400 ≠ g)))))))));clear HI0 HK HB;obtain ⟨HI0,HK,HB,BK400,GW400,GE400,NB0_400,NB400_0⟩ := n_;clear hb hbox hg) | ((with_reducible refine gate_callee (f := 52) rfl ?_);refine goesL_ (some 4) rfl rfl Try.func52 Z363 rfl #[.pointer (some ⟨g,0,none⟩),.int .i64 10] rfl Z330 ?_;(with_reducible refine (spec_l1Once.calls g s0_0 s0_1 s0_2 10 false t402 t403 w0 _ ?side1 ?side2 A2.out).mono ?_);(case side1 => exact Z286);(case side2 => exact Z294);rintro e w18 ⟨rfl,hi,hb,hk⟩;refine ⟨_,rfl,?_⟩;have n_ := jA (KeepBut.blk hk (g' := gb400) (o := .cells #[.int .i64 0,.int .i64 0] 33 (0,0)) Z345 NB400_0.out Z483) (jA (KeepBut.trans Z317 hk (.inl rfl)) (jA (hb) (Aside0.mk (hi))));clear BK400 HK HB HI0;obtain ⟨BK400,HK,HB,HI0⟩ := n_;(try clear hb);(try clear hb2);(try clear hk);(try clear hi)) | ((with_reducible refine gate_callee (f := 44) rfl ?_);refine goesL_ (some 12) rfl rfl Try.func44 Z363 rfl #[.pointer (some ⟨g,0,none⟩),.int .i64 12] rfl Z330 ?_;(with_reducible refine (spec_l1Below.calls g s0_0 t402 t403 12 t413 t414 t415 w0 _ ?side1 ?side2 A15.out).mono ?_);(case side1 => exact Z286);(case side2 => exact Z294);rintro e w19 ⟨rfl,hi,hb,hk⟩;refine ⟨_,rfl,?_⟩;have n_ := jA (KeepBut.blk hk (g' := gb400) (o := .cells #[.int .i64 0,.int .i64 0] 33 (0,0)) Z345 NB400_0.out Z483) (jA (KeepBut.trans Z317 hk (.inl rfl)) (jA (hb) (Aside0.mk (hi))));clear BK400 HK HB HI0;obtain ⟨BK400,HK,HB,HI0⟩ := n_;(try clear hb);(try clear hb2);(try clear hk);(try clear hi)) | ((with_reducible refine gate_callee (f := 44) rfl ?_);refine goesL_ (some 14) rfl rfl Try.func44 Z363 rfl #[.pointer (some ⟨g,0,none⟩),.int .i64 8001] rfl Z330 ?_;(with_reducible refine (spec_l1Below.calls g s0_0 t414 t415 8001 t416 t417 t418 w0 _ ?side1 ?side2 A16.out).mono ?_);(case side1 => exact Z286);(case side2 => exact Z294);rintro e w20 ⟨rfl,hi,hb,hk⟩;refine ⟨_,rfl,?_⟩;have n_ := jA (KeepBut.blk hk (g' := gb400) (o := .cells #[.int .i64 0,.int .i64 0] 33 (0,0)) Z345 NB400_0.out Z483) (jA (KeepBut.trans Z317 hk (.inl rfl)) (jA (hb) (Aside0.mk (hi))));clear BK400 HK HB HI0;obtain ⟨BK400,HK,HB,HI0⟩ := n_;(try clear hb);(try clear hb2);(try clear hk);(try clear hi);have hnb21 := NB400_0.out;have hnc21 := NB0_400.out;obtain ⟨hcz22_0,hcz22_1,hfz22_0,hfz22_1⟩ := spec_l14Slot.cells2 BK400.out))
    refine bodyPost_ret (results_cell_row rfl _ _ gb400 33 #[.int .i64 t413,.int .i64 (wrap64 (t416 - 4000))] (0,0) _ rfl (by (with_reducible repeat (first | refine bA ?_ _ | refine bB ?_ | refine bC ?_ _));refine blk_put (cs := #[.int .i64 t413,.int .i64 0]) ?_ 1 _ rfl;(with_reducible repeat (first | refine bA ?_ _ | refine bB ?_ | refine bC ?_ _));refine blk_put (cs := #[.int .i64 0,.int .i64 0]) ?_ 0 _ rfl;(with_reducible repeat (first | refine bA ?_ _ | refine bB ?_ | refine bC ?_ _));exact BK400.out) Try.underlying33 rfl Z363) rfl ?_
    exact ⟨Z354,Z286,Z294,Z317⟩

/-! ### spec_l15Cand: function 29 -/
theorem spec_l15Cand.cells6 {w : World} {g : Nat} {t : TypeId} {a0 a1 a2 a3 a4 a5 : Value} (h : w.heap[g]? = some (.cells #[a0,a1,a2,a3,a4,a5] t (0,0))) : w.cell? ⟨g,0,none⟩ = some a0 ∧ w.cell? ⟨g,1,none⟩ = some a1 ∧ w.cell? ⟨g,2,none⟩ = some a2 ∧ w.cell? ⟨g,3,none⟩ = some a3 ∧ w.cell? ⟨g,4,none⟩ = some a4 ∧ w.cell? ⟨g,5,none⟩ = some a5 ∧ w.frozen? ⟨g,0,none⟩ = false ∧ w.frozen? ⟨g,1,none⟩ = false ∧ w.frozen? ⟨g,2,none⟩ = false ∧ w.frozen? ⟨g,3,none⟩ = false ∧ w.frozen? ⟨g,4,none⟩ = false ∧ w.frozen? ⟨g,5,none⟩ = false := ⟨(blk_cell h 0).trans rfl,(blk_cell h 1).trans rfl,(blk_cell h 2).trans rfl,(blk_cell h 3).trans rfl,(blk_cell h 4).trans rfl,(blk_cell h 5).trans rfl,blk_frozen h 0,blk_frozen h 1,blk_frozen h 2,blk_frozen h 3,blk_frozen h 4,blk_frozen h 5⟩
def spec_l15Cand.f (k : Nat) (s0_0 : List Int) (s0_1 : Int) (s0_2 : Int) : Option (Int × Int × Int × Int × Int × Int × Int × Int) := (spec_l1Below.f s0_0 s0_1 s0_2 3).bind fun bt420 => ((spec_l1Below.f s0_0 bt420.2.1 bt420.2.2 4).bind fun bt423 => ((spec_l14Slot.f k s0_0 bt423.2.1 bt423.2.2).bind fun bt426 => ((spec_l14Slot.f k s0_0 bt426.2.2.1 bt426.2.2.2).bind fun bt430 => ((spec_l1Once.f s0_0 bt430.2.2.1 bt430.2.2.2 4).bind fun bt435 => (if bt435.1 = true then (if bt426.1 > 0 then (if bt426.1 < 20 then ((spec_l1Below.f s0_0 bt435.2.1 bt435.2.2 9).bind fun bt438 => (some (bt420.1,bt423.1,bt426.1,wrap64 (10 * bt426.1),bt438.1,wrap64 (10 * bt438.1),bt438.2.1,bt438.2.2))) else (some (bt420.1,bt423.1,bt426.1,bt426.2.1,bt430.1,bt430.2.1,bt435.2.1,bt435.2.2))) else (some (bt420.1,bt423.1,bt426.1,bt426.2.1,bt430.1,bt430.2.1,bt435.2.1,bt435.2.2))) else (some (bt420.1,bt423.1,bt426.1,bt426.2.1,bt430.1,bt430.2.1,bt435.2.1,bt435.2.2)))))))
theorem spec_l15Cand.mono : ∀ a0 a1 a2 k,LeO (spec_l15Cand.f k a0 a1 a2) (spec_l15Cand.f (k + 1) a0 a1 a2) := by
  intro a0 a1 a2 k
  unfold spec_l15Cand.f
  repeat' first
      | (with_reducible exact spec_l14Slot.mono _ _ _ _)
      | (with_reducible exact LeO.refl _)
      | (with_reducible exact LeO.none _)
      | (with_reducible refine LeO.ite ?_ ?_)
      | (with_reducible refine LeO.bind ?_ (fun _ => ?_))
      | exact spec_l14Slot.mono _ _ _ _
      | exact LeO.none _
      | refine LeO.ite ?_ ?_
      | refine LeO.bind ?_ (fun _ => ?_)
set_option maxHeartbeats 8000000 in
set_option maxRecDepth 100000 in
theorem spec_l15Cand.calls (k : Nat) (g : Nat) (s0_0 : List Int) (s0_1 : Int) (s0_2 : Int) (r1 : Int) (r2 : Int) (r3 : Int) (r4 : Int) (r5 : Int) (r6 : Int) (r7 : Int) (r8 : Int) (w0 w : World) (hI : IsS76 w0 w g s0_0 s0_1 s0_2) (hB : Below w0.heap.size w0 w) (h : spec_l15Cand.f k s0_0 s0_1 s0_2 = some (r1,r2,r3,r4,r5,r6,r7,r8)) :
    Calls Try.prog 29 #[.pointer (some ⟨g,0,none⟩)] w fun e w' => e = .returned (.agg #[.int .i64 r1,.int .i64 r2,.int .i64 r3,.int .i64 r4,.int .i64 r5,.int .i64 r6]) ∧ IsS76 w0 w' g s0_0 r7 r8 ∧ Below w0.heap.size w0 w' ∧ KeepBut w w' g none := by
  have hu35 := Try.underlying35
  have hu33 := Try.underlying33
  have HI0 := Aside0.mk hI
  have HK := Aside0.mk (KeepBut.refl w g none)
  have HL := Aside0.mk hB.size
  clear hI
  have HW0 := Aside0.mk hB.size
  have HB := Aside0.mk hB
  clear hB
  have H : ((spec_l1Below.f s0_0 s0_1 s0_2 3).bind fun bt420 => ((spec_l1Below.f s0_0 bt420.2.1 bt420.2.2 4).bind fun bt423 => ((spec_l14Slot.f k s0_0 bt423.2.1 bt423.2.2).bind fun bt426 => ((spec_l14Slot.f k s0_0 bt426.2.2.1 bt426.2.2.2).bind fun bt430 => ((spec_l1Once.f s0_0 bt430.2.2.1 bt430.2.2.2 4).bind fun bt435 => (if bt435.1 = true then (if bt426.1 > 0 then (if bt426.1 < 20 then ((spec_l1Below.f s0_0 bt435.2.1 bt435.2.2 9).bind fun bt438 => (some (bt420.1,bt423.1,bt426.1,wrap64 (10 * bt426.1),bt438.1,wrap64 (10 * bt438.1),bt438.2.1,bt438.2.2))) else (some (bt420.1,bt423.1,bt426.1,bt426.2.1,bt430.1,bt430.2.1,bt435.2.1,bt435.2.2))) else (some (bt420.1,bt423.1,bt426.1,bt426.2.1,bt430.1,bt430.2.1,bt435.2.1,bt435.2.2))) else (some (bt420.1,bt423.1,bt426.1,bt426.2.1,bt430.1,bt430.2.1,bt435.2.1,bt435.2.2)))))))) = some (r1,r2,r3,r4,r5,r6,r7,r8) := h
  clear h
  obtain ⟨⟨t420,t421,t422⟩,A20,H⟩ := Option.bind_eq_some_iff.mp H
  try dsimp only at H
  have A2 := Aside0.mk A20
  clear A20
  obtain ⟨⟨t423,t424,t425⟩,A30,H⟩ := Option.bind_eq_some_iff.mp H
  try dsimp only at H
  have A3 := Aside0.mk A30
  clear A30
  obtain ⟨⟨t426,t427,t428,t429⟩,A40,H⟩ := Option.bind_eq_some_iff.mp H
  try dsimp only at H
  have A4 := Aside0.mk A40
  clear A40
  obtain ⟨⟨t430,t431,t432,t433⟩,A50,H⟩ := Option.bind_eq_some_iff.mp H
  try dsimp only at H
  have A5 := Aside0.mk A50
  clear A50
  obtain ⟨⟨t435,t436,t437⟩,A60,H⟩ := Option.bind_eq_some_iff.mp H
  try dsimp only at H
  have A6 := Aside0.mk A60
  clear A60
  by_cases c7 : t435 = true
  · subst c7
    have H1 : (if t426 > 0 then (if t426 < 20 then ((spec_l1Below.f s0_0 t436 t437 9).bind fun bt438 => (some (t420,t423,t426,wrap64 (10 * t426),bt438.1,wrap64 (10 * bt438.1),bt438.2.1,bt438.2.2))) else (some (t420,t423,t426,t427,t430,t431,t436,t437))) else (some (t420,t423,t426,t427,t430,t431,t436,t437))) = some (r1,r2,r3,r4,r5,r6,r7,r8) := by rw [if_pos rfl] at H;exact H
    clear H
    have H := H1
    clear H1
    by_cases c8 : t426 > 0
    · rw [if_pos c8] at H
      have c8b0 : decide (0 < t426) = true := decide_eq_true c8
      clear c8
      by_cases c9 : t426 < 20
      · rw [if_pos c9] at H
        have c9b0 : decide (t426 < 20) = true := decide_eq_true c9
        clear c9
        obtain ⟨⟨t438,t439,t440⟩,A100,H⟩ := Option.bind_eq_some_iff.mp H
        try dsimp only at H
        have A10 := Aside0.mk A100
        clear A100
        simp only [Option.some.injEq,Prod.mk.injEq] at H
        obtain ⟨rfl,rfl,rfl,rfl,rfl,rfl,rfl,rfl⟩ := H
        go_enter Try.func29,Try.ntmps29
        go_wp2_with (first | ((with_reducible refine gate_dst (N := 2) rfl ?_);refine box_event ?hg (N := 2) ?hd (cs := #[.int .i64 0,.int .i64 0,.int .i64 0,.int .i64 0,.int .i64 0,.int .i64 0]) (t := 35) ?hr ?_;(case hd => rfl);(case hg => rfl);(case hr => exact Z359);intro gb419 hg w11 hbox hb;have n_ := jA (IsS76.below Z319 hb) (jA (KeepBut.trans Z428 (KeepBut.of_below hb g none) (.inl rfl)) (jA (below_step Z318 hb) (jA (hbox) (jA ((Z283 : w.heap.size ≤ gb419)) (jA ((Nat.le_trans HW0.out (Z283 : w.heap.size ≤ gb419) : w0.heap.size ≤ gb419)) (jA ((by rw [hg];exact Nat.ne_of_lt (IsS76.lt (show IsS76 w0 _ g s0_0 s0_1 s0_2 from Z319)) : g ≠ gb419)) (Aside0.mk ((by rw [hg];exact Nat.ne_of_gt (IsS76.lt (show IsS76 w0 _ g s0_0 s0_1 s0_2 from Z319)) : gb419 ≠ g)))))))));clear HI0 HK HB;obtain ⟨HI0,HK,HB,BK419,GW419,GE419,NB0_419,NB419_0⟩ := n_;clear hb hbox hg) | ((with_reducible refine gate_callee (f := 44) rfl ?_);refine goesL_ (some 5) rfl rfl Try.func44 Z363 rfl #[.pointer (some ⟨g,0,none⟩),.int .i64 3] rfl Z330 ?_;(with_reducible refine (spec_l1Below.calls g s0_0 s0_1 s0_2 3 t420 t421 t422 w0 _ ?side1 ?side2 A2.out).mono ?_);(case side1 => exact Z285);(case side2 => exact Z293);rintro e w12 ⟨rfl,hi,hb,hk⟩;refine ⟨_,rfl,?_⟩;have n_ := jA (KeepBut.blk hk (g' := gb419) (o := .cells #[.int .i64 0,.int .i64 0,.int .i64 0,.int .i64 0,.int .i64 0,.int .i64 0] 35 (0,0)) Z433 NB419_0.out Z483) (jA (KeepBut.trans Z408 hk (.inl rfl)) (jA (hb) (Aside0.mk (hi))));clear BK419 HK HB HI0;obtain ⟨BK419,HK,HB,HI0⟩ := n_;(try clear hb);(try clear hb2);(try clear hk);(try clear hi)) | ((with_reducible refine gate_callee (f := 44) rfl ?_);refine goesL_ (some 7) rfl rfl Try.func44 Z363 rfl #[.pointer (some ⟨g,0,none⟩),.int .i64 4] rfl Z330 ?_;(with_reducible refine (spec_l1Below.calls g s0_0 t421 t422 4 t423 t424 t425 w0 _ ?side1 ?side2 A3.out).mono ?_);(case side1 => exact Z285);(case side2 => exact Z293);rintro e w13 ⟨rfl,hi,hb,hk⟩;refine ⟨_,rfl,?_⟩;have n_ := jA (KeepBut.blk hk (g' := gb419) (o := .cells #[.int .i64 0,.int .i64 0,.int .i64 0,.int .i64 0,.int .i64 0,.int .i64 0] 35 (0,0)) Z433 NB419_0.out Z483) (jA (KeepBut.trans Z408 hk (.inl rfl)) (jA (hb) (Aside0.mk (hi))));clear BK419 HK HB HI0;obtain ⟨BK419,HK,HB,HI0⟩ := n_;(try clear hb);(try clear hb2);(try clear hk);(try clear hi)) | ((with_reducible refine gate_callee (f := 51) rfl ?_);refine goesL_ (some 9) rfl rfl Try.func51 Z363 rfl #[.pointer (some ⟨g,0,none⟩)] rfl Z330 ?_;(with_reducible refine (spec_l14Slot.calls k g s0_0 t424 t425 t426 t427 t428 t429 w0 _ ?side1 ?side2 A4.out).mono ?_);(case side1 => exact Z285);(case side2 => exact Z293);rintro e w14 ⟨rfl,hi,hb,hk⟩;refine ⟨_,rfl,?_⟩;have n_ := jA (KeepBut.blk hk (g' := gb419) (o := .cells #[.int .i64 0,.int .i64 0,.int .i64 0,.int .i64 0,.int .i64 0,.int .i64 0] 35 (0,0)) Z433 NB419_0.out Z483) (jA (KeepBut.trans Z408 hk (.inl rfl)) (jA (hb) (Aside0.mk (hi))));clear BK419 HK HB HI0;obtain ⟨BK419,HK,HB,HI0⟩ := n_;(try clear hb);(try clear hb2);(try clear hk);(try clear hi)) | ((with_reducible refine gate_callee (f := 51) rfl ?_);refine goesL_ (some 11) rfl rfl Try.func51 Z363 rfl #[.pointer (some ⟨g,0,none⟩)] rfl Z330 ?_;(with_reducible refine (spec_l14Slot.calls k g s0_0 t428 t429 t430 t431 t432 t433 w0 _ ?side1 ?side2 A5.out).mono ?_);(case side1 => exact Z285);(case side2 => exact Z293);rintro e w15 ⟨rfl,hi,hb,hk⟩;refine ⟨_,rfl,?_⟩;have n_ := jA (KeepBut.blk hk (g' := gb419) (o := .cells #[.int .i64 0,.int .i64 0,.int .i64 0,.int .i64 0,.int .i64 0,.int .i64 0] 35 (0,0)) Z433 NB419_0.out Z483) (jA (KeepBut.trans Z408 hk (.inl rfl)) (jA (hb) (Aside0.mk (hi))));clear BK419 HK HB HI0;obtain ⟨BK419,HK,HB,HI0⟩ := n_;(try clear hb);(try clear hb2);(try clear hk);(try clear hi)) | ((with_reducible refine gate_dst (N := 3) rfl ?_);refine box_event ?hg (N := 3) ?hd (cs := #[.int .i64 0,.int .i64 0,.int .i64 0,.int .i64 0,.int .i64 0,.int .i64 0]) (t := 35) ?hr ?_;(case hd => rfl);(case hg => rfl);(case hr => exact Z359);intro gb434 hg w16 hbox hb;have n_ := jA (IsS76.below Z285 hb) (jA (blk_below (g := gb419) (o := .cells #[.int .i64 0,.int .i64 0,.int .i64 0,.int .i64 0,.int .i64 0,.int .i64 0] 35 (0,0)) Z433 hb) (jA (KeepBut.trans Z408 (KeepBut.of_below hb g none) (.inl rfl)) (jA (below_step Z293 hb) (jA (hbox) (jA ((Z170 : w.heap.size ≤ gb434)) (jA ((Nat.le_trans HW0.out (Z170 : w.heap.size ≤ gb434) : w0.heap.size ≤ gb434)) (jA ((Z167 : gb419 ≠ gb434)) (jA ((Z168 : gb434 ≠ gb419)) (jA ((by rw [hg];exact Nat.ne_of_lt (IsS76.lt (show IsS76 w0 _ g s0_0 t432 t433 from Z285)) : g ≠ gb434)) (Aside0.mk ((by rw [hg];exact Nat.ne_of_gt (IsS76.lt (show IsS76 w0 _ g s0_0 t432 t433 from Z285)) : gb434 ≠ g))))))))))));clear HI0 BK419 HK HB;obtain ⟨HI0,BK419,HK,HB,BK434,GW434,GE434,NB419_434,NB434_419,NB0_434,NB434_0⟩ := n_;clear hb hbox hg;have hnb17 := NB434_419.out;have hnc17 := NB419_434.out;have hnb18 := NB434_0.out;have hnc18 := NB0_434.out;obtain ⟨hcz19_0,hcz19_1,hcz19_2,hcz19_3,hcz19_4,hcz19_5,hfz19_0,hfz19_1,hfz19_2,hfz19_3,hfz19_4,hfz19_5⟩ := spec_l15Cand.cells6 BK434.out) | ((with_reducible refine gate_callee (f := 52) rfl ?_);refine goesL_ (some 14) rfl rfl Try.func52 Z363 rfl #[.pointer (some ⟨g,0,none⟩),.int .i64 4] rfl Z330 ?_;(with_reducible refine (spec_l1Once.calls g s0_0 t432 t433 4 true t436 t437 w0 _ ?side1 ?side2 A6.out).mono ?_);(case side1 => exact Z169);(case side2 => exact Z171);rintro e w20 ⟨rfl,hi,hb,hk⟩;refine ⟨_,rfl,?_⟩;have n_ := jA (KeepBut.blk hk (g' := gb419) (o := .cells #[.int .i64 0,.int .i64 0,.int .i64 0,.int .i64 0,.int .i64 0,.int .i64 0] 35 (0,0)) Z20 NB419_0.out Z483) (jA (KeepBut.blk hk (g' := gb434) (o := .cells #[.int .i64 t420,.int .i64 t423,.int .i64 t426,.int .i64 t427,.int .i64 t430,.int .i64 t431] 35 (0,0)) Z1 NB434_0.out Z483) (jA (KeepBut.trans Z259 hk (.inl rfl)) (jA (hb) (Aside0.mk (hi)))));clear BK419 BK434 HK HB HI0;obtain ⟨BK419,BK434,HK,HB,HI0⟩ := n_;(try clear hb);(try clear hb2);(try clear hk);(try clear hi);obtain ⟨hcz21_0,hcz21_1,hcz21_2,hcz21_3,hcz21_4,hcz21_5,hfz21_0,hfz21_1,hfz21_2,hfz21_3,hfz21_4,hfz21_5⟩ := spec_l15Cand.cells6 BK434.out) | ((with_reducible refine gate_callee (f := 44) rfl ?_);refine goesL_ (some 34) rfl rfl Try.func44 Z363 rfl #[.pointer (some ⟨g,0,none⟩),.int .i64 9] rfl Z330 ?_;(with_reducible refine (spec_l1Below.calls g s0_0 t436 t437 9 t438 t439 t440 w0 _ ?side1 ?side2 A10.out).mono ?_);(case side1 => exact Z169);(case side2 => exact Z171);rintro e w22 ⟨rfl,hi,hb,hk⟩;refine ⟨_,rfl,?_⟩;have n_ := jA (KeepBut.blk hk (g' := gb419) (o := .cells #[.int .i64 0,.int .i64 0,.int .i64 0,.int .i64 0,.int .i64 0,.int .i64 0] 35 (0,0)) (by (with_reducible repeat (first | refine bA ?_ _ | refine bB ?_ | refine bC ?_ _));refine blk_far ?_ NB419_434.out _;(with_reducible repeat (first | refine bA ?_ _ | refine bB ?_ | refine bC ?_ _));exact BK419.out) NB419_0.out Z483) (jA (KeepBut.blk hk (g' := gb434) (o := .cells #[.int .i64 t420,.int .i64 t423,.int .i64 t426,.int .i64 (wrap64 (10 * t426)),.int .i64 t430,.int .i64 t431] 35 (0,0)) (by (with_reducible repeat (first | refine bA ?_ _ | refine bB ?_ | refine bC ?_ _));refine blk_put (cs := #[.int .i64 t420,.int .i64 t423,.int .i64 t426,.int .i64 t427,.int .i64 t430,.int .i64 t431]) ?_ 3 _ rfl;(with_reducible repeat (first | refine bA ?_ _ | refine bB ?_ | refine bC ?_ _));exact BK434.out) NB434_0.out Z483) (jA (KeepBut.trans Z259 hk (.inl rfl)) (jA (hb) (Aside0.mk (hi)))));clear BK419 BK434 HK HB HI0;obtain ⟨BK419,BK434,HK,HB,HI0⟩ := n_;(try clear hb);(try clear hb2);(try clear hk);(try clear hi);have hcz23_0 : w22.cell? ⟨gb434,0,none⟩ = some (.int .i64 t420) := (blk_cell BK434.out 0).trans rfl;have hcz23_1 : w22.cell? ⟨gb434,1,none⟩ = some (.int .i64 t423) := (blk_cell BK434.out 1).trans rfl;have hcz23_2 : w22.cell? ⟨gb434,2,none⟩ = some (.int .i64 t426) := (blk_cell BK434.out 2).trans rfl;have hcz23_3 : w22.cell? ⟨gb434,3,none⟩ = some (.int .i64 (wrap64 (10 * t426))) := (blk_cell BK434.out 3).trans rfl;have hcz23_4 : w22.cell? ⟨gb434,4,none⟩ = some (.int .i64 t430) := (blk_cell BK434.out 4).trans rfl;have hcz23_5 : w22.cell? ⟨gb434,5,none⟩ = some (.int .i64 t431) := (blk_cell BK434.out 5).trans rfl;have hzhcz23 : ((w22.setCell ⟨gb434,4,none⟩ (.int .i64 t438)).setCell ⟨gb434,5,none⟩ (.int .i64 0)).cell? ⟨gb434,5,none⟩ = some (.int .i64 0) := (by simp [go_sem,hcz23_4,hcz23_5]);have hfz23_0 := blk_frozen BK434.out 0;have hfz23_1 := blk_frozen BK434.out 1;have hfz23_2 := blk_frozen BK434.out 2;have hfz23_3 := blk_frozen BK434.out 3;have hfz23_4 := blk_frozen BK434.out 4;have hfz23_5 := blk_frozen BK434.out 5;have hnb24 := NB419_0.out;have hnc24 := NB0_419.out;obtain ⟨hcz25_0,hcz25_1,hcz25_2,hcz25_3,hcz25_4,hcz25_5,hfz25_0,hfz25_1,hfz25_2,hfz25_3,hfz25_4,hfz25_5⟩ := spec_l15Cand.cells6 BK419.out))
        refine bodyPost_ret (results_cell_row rfl _ _ gb419 35 #[.int .i64 t420,.int .i64 t423,.int .i64 t426,.int .i64 (wrap64 (10 * t426)),.int .i64 t438,.int .i64 (wrap64 (10 * t438))] (0,0) _ rfl (by (with_reducible repeat (first | refine bA ?_ _ | refine bB ?_ | refine bC ?_ _));refine blk_put (cs := #[.int .i64 t420,.int .i64 t423,.int .i64 t426,.int .i64 (wrap64 (10 * t426)),.int .i64 t438,.int .i64 0]) ?_ 5 _ rfl;(with_reducible repeat (first | refine bA ?_ _ | refine bB ?_ | refine bC ?_ _));refine blk_put (cs := #[.int .i64 t420,.int .i64 t423,.int .i64 t426,.int .i64 (wrap64 (10 * t426)),.int .i64 0,.int .i64 0]) ?_ 4 _ rfl;(with_reducible repeat (first | refine bA ?_ _ | refine bB ?_ | refine bC ?_ _));refine blk_put (cs := #[.int .i64 t420,.int .i64 t423,.int .i64 t426,.int .i64 0,.int .i64 0,.int .i64 0]) ?_ 3 _ rfl;(with_reducible repeat (first | refine bA ?_ _ | refine bB ?_ | refine bC ?_ _));refine blk_put (cs := #[.int .i64 t420,.int .i64 t423,.int .i64 0,.int .i64 0,.int .i64 0,.int .i64 0]) ?_ 2 _ rfl;(with_reducible repeat (first | refine bA ?_ _ | refine bB ?_ | refine bC ?_ _));refine blk_put (cs := #[.int .i64 t420,.int .i64 0,.int .i64 0,.int .i64 0,.int .i64 0,.int .i64 0]) ?_ 1 _ rfl;(with_reducible repeat (first | refine bA ?_ _ | refine bB ?_ | refine bC ?_ _));refine blk_put (cs := #[.int .i64 0,.int .i64 0,.int .i64 0,.int .i64 0,.int .i64 0,.int .i64 0]) ?_ 0 _ rfl;(with_reducible repeat (first | refine bA ?_ _ | refine bB ?_ | refine bC ?_ _));refine blk_far ?_ NB419_434.out _;(with_reducible repeat (first | refine bA ?_ _ | refine bB ?_ | refine bC ?_ _));refine blk_far ?_ NB419_434.out _;(with_reducible repeat (first | refine bA ?_ _ | refine bB ?_ | refine bC ?_ _));refine blk_far ?_ NB419_434.out _;(with_reducible repeat (first | refine bA ?_ _ | refine bB ?_ | refine bC ?_ _));exact BK419.out) Try.underlying35 rfl Z363) rfl ?_
        exact ⟨Z354,Z169,Z171,Z259⟩
      · rw [if_neg c9] at H
        have c9b0 : decide (t426 < 20) = false := decide_eq_false c9
        clear c9
        simp only [Option.some.injEq,Prod.mk.injEq] at H
        obtain ⟨rfl,rfl,rfl,rfl,rfl,rfl,rfl,rfl⟩ := H
        go_enter Try.func29,Try.ntmps29
        go_wp2_with (first | ((with_reducible refine gate_dst (N := 2) rfl ?_);refine box_event ?hg (N := 2) ?hd (cs := #[.int .i64 0,.int .i64 0,.int .i64 0,.int .i64 0,.int .i64 0,.int .i64 0]) (t := 35) ?hr ?_;(case hd => rfl);(case hg => rfl);(case hr => exact Z359);intro gb419 hg w26 hbox hb;have n_ := jA (IsS76.below Z319 hb) (jA (KeepBut.trans Z428 (KeepBut.of_below hb g none) (.inl rfl)) (jA (below_step Z318 hb) (jA (hbox) (jA ((Z283 : w.heap.size ≤ gb419)) (jA ((Nat.le_trans HW0.out (Z283 : w.heap.size ≤ gb419) : w0.heap.size ≤ gb419)) (jA ((by rw [hg];exact Nat.ne_of_lt (IsS76.lt (show IsS76 w0 _ g s0_0 s0_1 s0_2 from Z319)) : g ≠ gb419)) (Aside0.mk ((by rw [hg];exact Nat.ne_of_gt (IsS76.lt (show IsS76 w0 _ g s0_0 s0_1 s0_2 from Z319)) : gb419 ≠ g)))))))));clear HI0 HK HB;obtain ⟨HI0,HK,HB,BK419,GW419,GE419,NB0_419,NB419_0⟩ := n_;clear hb hbox hg) | ((with_reducible refine gate_callee (f := 44) rfl ?_);refine goesL_ (some 5) rfl rfl Try.func44 Z363 rfl #[.pointer (some ⟨g,0,none⟩),.int .i64 3] rfl Z330 ?_;(with_reducible refine (spec_l1Below.calls g s0_0 s0_1 s0_2 3 t420 t421 t422 w0 _ ?side1 ?side2 A2.out).mono ?_);(case side1 => exact Z285);(case side2 => exact Z293);rintro e w27 ⟨rfl,hi,hb,hk⟩;refine ⟨_,rfl,?_⟩;have n_ := jA (KeepBut.blk hk (g' := gb419) (o := .cells #[.int .i64 0,.int .i64 0,.int .i64 0,.int .i64 0,.int .i64 0,.int .i64 0] 35 (0,0)) Z433 NB419_0.out Z483) (jA (KeepBut.trans Z408 hk (.inl rfl)) (jA (hb) (Aside0.mk (hi))));clear BK419 HK HB HI0;obtain ⟨BK419,HK,HB,HI0⟩ := n_;(try clear hb);(try clear hb2);(try clear hk);(try clear hi)) | ((with_reducible refine gate_callee (f := 44) rfl ?_);refine goesL_ (some 7) rfl rfl Try.func44 Z363 rfl #[.pointer (some ⟨g,0,none⟩),.int .i64 4] rfl Z330 ?_;(with_reducible refine (spec_l1Below.calls g s0_0 t421 t422 4 t423 t424 t425 w0 _ ?side1 ?side2 A3.out).mono ?_);(case side1 => exact Z285);(case side2 => exact Z293);rintro e w28 ⟨rfl,hi,hb,hk⟩;refine ⟨_,rfl,?_⟩;have n_ := jA (KeepBut.blk hk (g' := gb419) (o := .cells #[.int .i64 0,.int .i64 0,.int .i64 0,.int .i64 0,.int .i64 0,.int .i64 0] 35 (0,0)) Z433 NB419_0.out Z483) (jA (KeepBut.trans Z408 hk (.inl rfl)) (jA (hb) (Aside0.mk (hi))));clear BK419 HK HB HI0;obtain ⟨BK419,HK,HB,HI0⟩ := n_;(try clear hb);(try clear hb2);(try clear hk);(try clear hi)) | ((with_reducible refine gate_callee (f := 51) rfl ?_);refine goesL_ (some 9) rfl rfl Try.func51 Z363 rfl #[.pointer (some ⟨g,0,none⟩)] rfl Z330 ?_;(with_reducible refine (spec_l14Slot.calls k g s0_0 t424 t425 t426 t427 t428 t429 w0 _ ?side1 ?side2 A4.out).mono ?_);(case side1 => exact Z285);(case side2 => exact Z293);rintro e w29 ⟨rfl,hi,hb,hk⟩;refine ⟨_,rfl,?_⟩;have n_ := jA (KeepBut.blk hk (g' := gb419) (o := .cells #[.int .i64 0,.int .i64 0,.int .i64 0,.int .i64 0,.int .i64 0,.int .i64 0] 35 (0,0)) Z433 NB419_0.out Z483) (jA (KeepBut.trans Z408 hk (.inl rfl)) (jA (hb) (Aside0.mk (hi))));clear BK419 HK HB HI0;obtain ⟨BK419,HK,HB,HI0⟩ := n_;(try clear hb);(try clear hb2);(try clear hk);(try clear hi)) | ((with_reducible refine gate_callee (f := 51) rfl ?_);refine goesL_ (some 11) rfl rfl Try.func51 Z363 rfl #[.pointer (some ⟨g,0,none⟩)] rfl Z330 ?_;(with_reducible refine (spec_l14Slot.calls k g s0_0 t428 t429 t430 t431 t432 t433 w0 _ ?side1 ?side2 A5.out).mono ?_);(case side1 => exact Z285);(case side2 => exact Z293);rintro e w30 ⟨rfl,hi,hb,hk⟩;refine ⟨_,rfl,?_⟩;have n_ := jA (KeepBut.blk hk (g' := gb419) (o := .cells #[.int .i64 0,.int .i64 0,.int .i64 0,.int .i64 0,.int .i64 0,.int .i64 0] 35 (0,0)) Z433 NB419_0.out Z483) (jA (KeepBut.trans Z408 hk (.inl rfl)) (jA (hb) (Aside0.mk (hi))));clear BK419 HK HB HI0;obtain ⟨BK419,HK,HB,HI0⟩ := n_;(try clear hb);(try clear hb2);(try clear hk);(try clear hi)) | ((with_reducible refine gate_dst (N := 3) rfl ?_);refine box_event ?hg (N := 3) ?hd (cs := #[.int .i64 0,.int .i64 0,.int .i64 0,.int .i64 0,.int .i64 0,.int .i64 0]) (t := 35) ?hr ?_;(case hd => rfl);(case hg => rfl);(case hr => exact Z359);intro gb434 hg w31 hbox hb;have n_ := jA (IsS76.below Z285 hb) (jA (blk_below (g := gb419) (o := .cells #[.int .i64 0,.int .i64 0,.int .i64 0,.int .i64 0,.int .i64 0,.int .i64 0] 35 (0,0)) Z433 hb) (jA (KeepBut.trans Z408 (KeepBut.of_below hb g none) (.inl rfl)) (jA (below_step Z293 hb) (jA (hbox) (jA ((Z170 : w.heap.size ≤ gb434)) (jA ((Nat.le_trans HW0.out (Z170 : w.heap.size ≤ gb434) : w0.heap.size ≤ gb434)) (jA ((Z167 : gb419 ≠ gb434)) (jA ((Z168 : gb434 ≠ gb419)) (jA ((by rw [hg];exact Nat.ne_of_lt (IsS76.lt (show IsS76 w0 _ g s0_0 t432 t433 from Z285)) : g ≠ gb434)) (Aside0.mk ((by rw [hg];exact Nat.ne_of_gt (IsS76.lt (show IsS76 w0 _ g s0_0 t432 t433 from Z285)) : gb434 ≠ g))))))))))));clear HI0 BK419 HK HB;obtain ⟨HI0,BK419,HK,HB,BK434,GW434,GE434,NB419_434,NB434_419,NB0_434,NB434_0⟩ := n_;clear hb hbox hg;have hnb32 := NB434_419.out;have hnc32 := NB419_434.out;have hnb33 := NB434_0.out;have hnc33 := NB0_434.out;obtain ⟨hcz34_0,hcz34_1,hcz34_2,hcz34_3,hcz34_4,hcz34_5,hfz34_0,hfz34_1,hfz34_2,hfz34_3,hfz34_4,hfz34_5⟩ := spec_l15Cand.cells6 BK434.out) | ((with_reducible refine gate_callee (f := 52) rfl ?_);refine goesL_ (some 14) rfl rfl Try.func52 Z363 rfl #[.pointer (some ⟨g,0,none⟩),.int .i64 4] rfl Z330 ?_;(with_reducible refine (spec_l1Once.calls g s0_0 t432 t433 4 true t436 t437 w0 _ ?side1 ?side2 A6.out).mono ?_);(case side1 => exact Z169);(case side2 => exact Z171);rintro e w35 ⟨rfl,hi,hb,hk⟩;refine ⟨_,rfl,?_⟩;have n_ := jA (KeepBut.blk hk (g' := gb419) (o := .cells #[.int .i64 0,.int .i64 0,.int .i64 0,.int .i64 0,.int .i64 0,.int .i64 0] 35 (0,0)) Z20 NB419_0.out Z483) (jA (KeepBut.blk hk (g' := gb434) (o := .cells #[.int .i64 t420,.int .i64 t423,.int .i64 t426,.int .i64 t427,.int .i64 t430,.int .i64 t431] 35 (0,0)) Z1 NB434_0.out Z483) (jA (KeepBut.trans Z259 hk (.inl rfl)) (jA (hb) (Aside0.mk (hi)))));clear BK419 BK434 HK HB HI0;obtain ⟨BK419,BK434,HK,HB,HI0⟩ := n_;(try clear hb);(try clear hb2);(try clear hk);(try clear hi);obtain ⟨hcz36_0,hcz36_1,hcz36_2,hcz36_3,hcz36_4,hcz36_5,hfz36_0,hfz36_1,hfz36_2,hfz36_3,hfz36_4,hfz36_5⟩ := spec_l15Cand.cells6 BK434.out;have hnb37 := NB419_0.out;have hnc37 := NB0_419.out;obtain ⟨hcz38_0,hcz38_1,hcz38_2,hcz38_3,hcz38_4,hcz38_5,hfz38_0,hfz38_1,hfz38_2,hfz38_3,hfz38_4,hfz38_5⟩ := spec_l15Cand.cells6 BK419.out))
        refine bodyPost_ret (results_cell_row rfl _ _ gb419 35 #[.int .i64 t420,.int .i64 t423,.int .i64 t426,.int .i64 t427,.int .i64 t430,.int .i64 t431] (0,0) _ rfl Z2 Try.underlying35 rfl Z363) rfl ?_
        exact ⟨Z354,Z169,Z171,Z259⟩
    · rw [if_neg c8] at H
      have c8b0 : decide (0 < t426) = false := decide_eq_false c8
      clear c8
      simp only [Option.some.injEq,Prod.mk.injEq] at H
      obtain ⟨rfl,rfl,rfl,rfl,rfl,rfl,rfl,rfl⟩ := H
      go_enter Try.func29,Try.ntmps29
      go_wp2_with (first | ((with_reducible refine gate_dst (N := 2) rfl ?_);refine box_event ?hg (N := 2) ?hd (cs := #[.int .i64 0,.int .i64 0,.int .i64 0,.int .i64 0,.int .i64 0,.int .i64 0]) (t := 35) ?hr ?_;(case hd => rfl);(case hg => rfl);(case hr => exact Z359);intro gb419 hg w39 hbox hb;have n_ := jA (IsS76.below Z319 hb) (jA (KeepBut.trans Z428 (KeepBut.of_below hb g none) (.inl rfl)) (jA (below_step Z318 hb) (jA (hbox) (jA ((Z283 : w.heap.size ≤ gb419)) (jA ((Nat.le_trans HW0.out (Z283 : w.heap.size ≤ gb419) : w0.heap.size ≤ gb419)) (jA ((by rw [hg];exact Nat.ne_of_lt (IsS76.lt (show IsS76 w0 _ g s0_0 s0_1 s0_2 from Z319)) : g ≠ gb419)) (Aside0.mk ((by rw [hg];exact Nat.ne_of_gt (IsS76.lt (show IsS76 w0 _ g s0_0 s0_1 s0_2 from Z319)) : gb419 ≠ g)))))))));clear HI0 HK HB;obtain ⟨HI0,HK,HB,BK419,GW419,GE419,NB0_419,NB419_0⟩ := n_;clear hb hbox hg) | ((with_reducible refine gate_callee (f := 44) rfl ?_);refine goesL_ (some 5) rfl rfl Try.func44 Z363 rfl #[.pointer (some ⟨g,0,none⟩),.int .i64 3] rfl Z330 ?_;(with_reducible refine (spec_l1Below.calls g s0_0 s0_1 s0_2 3 t420 t421 t422 w0 _ ?side1 ?side2 A2.out).mono ?_);(case side1 => exact Z285);(case side2 => exact Z293);rintro e w40 ⟨rfl,hi,hb,hk⟩;refine ⟨_,rfl,?_⟩;have n_ := jA (KeepBut.blk hk (g' := gb419) (o := .cells #[.int .i64 0,.int .i64 0,.int .i64 0,.int .i64 0,.int .i64 0,.int .i64 0] 35 (0,0)) Z433 NB419_0.out Z483) (jA (KeepBut.trans Z408 hk (.inl rfl)) (jA (hb) (Aside0.mk (hi))));clear BK419 HK HB HI0;obtain ⟨BK419,HK,HB,HI0⟩ := n_;(try clear hb);(try clear hb2);(try clear hk);(try clear hi)) | ((with_reducible refine gate_callee (f := 44) rfl ?_);refine goesL_ (some 7) rfl rfl Try.func44 Z363 rfl #[.pointer (some ⟨g,0,none⟩),.int .i64 4] rfl Z330 ?_;(with_reducible refine (spec_l1Below.calls g s0_0 t421 t422 4 t423 t424 t425 w0 _ ?side1 ?side2 A3.out).mono ?_);(case side1 => exact Z285);(case side2 => exact Z293);rintro e w41 ⟨rfl,hi,hb,hk⟩;refine ⟨_,rfl,?_⟩;have n_ := jA (KeepBut.blk hk (g' := gb419) (o := .cells #[.int .i64 0,.int .i64 0,.int .i64 0,.int .i64 0,.int .i64 0,.int .i64 0] 35 (0,0)) Z433 NB419_0.out Z483) (jA (KeepBut.trans Z408 hk (.inl rfl)) (jA (hb) (Aside0.mk (hi))));clear BK419 HK HB HI0;obtain ⟨BK419,HK,HB,HI0⟩ := n_;(try clear hb);(try clear hb2);(try clear hk);(try clear hi)) | ((with_reducible refine gate_callee (f := 51) rfl ?_);refine goesL_ (some 9) rfl rfl Try.func51 Z363 rfl #[.pointer (some ⟨g,0,none⟩)] rfl Z330 ?_;(with_reducible refine (spec_l14Slot.calls k g s0_0 t424 t425 t426 t427 t428 t429 w0 _ ?side1 ?side2 A4.out).mono ?_);(case side1 => exact Z285);(case side2 => exact Z293);rintro e w42 ⟨rfl,hi,hb,hk⟩;refine ⟨_,rfl,?_⟩;have n_ := jA (KeepBut.blk hk (g' := gb419) (o := .cells #[.int .i64 0,.int .i64 0,.int .i64 0,.int .i64 0,.int .i64 0,.int .i64 0] 35 (0,0)) Z433 NB419_0.out Z483) (jA (KeepBut.trans Z408 hk (.inl rfl)) (jA (hb) (Aside0.mk (hi))));clear BK419 HK HB HI0;obtain ⟨BK419,HK,HB,HI0⟩ := n_;(try clear hb);(try clear hb2);(try clear hk);(try clear hi)) | ((with_reducible refine gate_callee (f := 51) rfl ?_);refine goesL_ (some 11) rfl rfl Try.func51 Z363 rfl #[.pointer (some ⟨g,0,none⟩)] rfl Z330 ?_;(with_reducible refine (spec_l14Slot.calls k g s0_0 t428 t429 t430 t431 t432 t433 w0 _ ?side1 ?side2 A5.out).mono ?_);(case side1 => exact Z285);(case side2 => exact Z293);rintro e w43 ⟨rfl,hi,hb,hk⟩;refine ⟨_,rfl,?_⟩;have n_ := jA (KeepBut.blk hk (g' := gb419) (o := .cells #[.int .i64 0,.int .i64 0,.int .i64 0,.int .i64 0,.int .i64 0,.int .i64 0] 35 (0,0)) Z433 NB419_0.out Z483) (jA (KeepBut.trans Z408 hk (.inl rfl)) (jA (hb) (Aside0.mk (hi))));clear BK419 HK HB HI0;obtain ⟨BK419,HK,HB,HI0⟩ := n_;(try clear hb);(try clear hb2);(try clear hk);(try clear hi)) | ((with_reducible refine gate_dst (N := 3) rfl ?_);refine box_event ?hg (N := 3) ?hd (cs := #[.int .i64 0,.int .i64 0,.int .i64 0,.int .i64 0,.int .i64 0,.int .i64 0]) (t := 35) ?hr ?_;(case hd => rfl);(case hg => rfl);(case hr => exact Z359);intro gb434 hg w44 hbox hb;have n_ := jA (IsS76.below Z285 hb) (jA (blk_below (g := gb419) (o := .cells #[.int .i64 0,.int .i64 0,.int .i64 0,.int .i64 0,.int .i64 0,.int .i64 0] 35 (0,0)) Z433 hb) (jA (KeepBut.trans Z408 (KeepBut.of_below hb g none) (.inl rfl)) (jA (below_step Z293 hb) (jA (hbox) (jA ((Z170 : w.heap.size ≤ gb434)) (jA ((Nat.le_trans HW0.out (Z170 : w.heap.size ≤ gb434) : w0.heap.size ≤ gb434)) (jA ((Z167 : gb419 ≠ gb434)) (jA ((Z168 : gb434 ≠ gb419)) (jA ((by rw [hg];exact Nat.ne_of_lt (IsS76.lt (show IsS76 w0 _ g s0_0 t432 t433 from Z285)) : g ≠ gb434)) (Aside0.mk ((by rw [hg];exact Nat.ne_of_gt (IsS76.lt (show IsS76 w0 _ g s0_0 t432 t433 from Z285)) : gb434 ≠ g))))))))))));clear HI0 BK419 HK HB;obtain ⟨HI0,BK419,HK,HB,BK434,GW434,GE434,NB419_434,NB434_419,NB0_434,NB434_0⟩ := n_;clear hb hbox hg;have hnb45 := NB434_419.out;have hnc45 := NB419_434.out;have hnb46 := NB434_0.out;have hnc46 := NB0_434.out;obtain ⟨hcz47_0,hcz47_1,hcz47_2,hcz47_3,hcz47_4,hcz47_5,hfz47_0,hfz47_1,hfz47_2,hfz47_3,hfz47_4,hfz47_5⟩ := spec_l15Cand.cells6 BK434.out) | ((with_reducible refine gate_callee (f := 52) rfl ?_);refine goesL_ (some 14) rfl rfl Try.func52 Z363 rfl #[.pointer (some ⟨g,0,none⟩),.int .i64 4] rfl Z330 ?_;(with_reducible refine (spec_l1Once.calls g s0_0 t432 t433 4 true t436 t437 w0 _ ?side1 ?side2 A6.out).mono ?_);(case side1 => exact Z169);(case side2 => exact Z171);rintro e w48 ⟨rfl,hi,hb,hk⟩;refine ⟨_,rfl,?_⟩;have n_ := jA (KeepBut.blk hk (g' := gb419) (o := .cells #[.int .i64 0,.int .i64 0,.int .i64 0,.int .i64 0,.int .i64 0,.int .i64 0] 35 (0,0)) Z20 NB419_0.out Z483) (jA (KeepBut.blk hk (g' := gb434) (o := .cells #[.int .i64 t420,.int .i64 t423,.int .i64 t426,.int .i64 t427,.int .i64 t430,.int .i64 t431] 35 (0,0)) Z1 NB434_0.out Z483) (jA (KeepBut.trans Z259 hk (.inl rfl)) (jA (hb) (Aside0.mk (hi)))));clear BK419 BK434 HK HB HI0;obtain ⟨BK419,BK434,HK,HB,HI0⟩ := n_;(try clear hb);(try clear hb2);(try clear hk);(try clear hi);obtain ⟨hcz49_0,hcz49_1,hcz49_2,hcz49_3,hcz49_4,hcz49_5,hfz49_0,hfz49_1,hfz49_2,hfz49_3,hfz49_4,hfz49_5⟩ := spec_l15Cand.cells6 BK434.out;have hnb50 := NB419_0.out;have hnc50 := NB0_419.out;obtain ⟨hcz51_0,hcz51_1,hcz51_2,hcz51_3,hcz51_4,hcz51_5,hfz51_0,hfz51_1,hfz51_2,hfz51_3,hfz51_4,hfz51_5⟩ := spec_l15Cand.cells6 BK419.out))
      refine bodyPost_ret (results_cell_row rfl _ _ gb419 35 #[.int .i64 t420,.int .i64 t423,.int .i64 t426,.int .i64 t427,.int .i64 t430,.int .i64 t431] (0,0) _ rfl Z2 Try.underlying35 rfl Z363) rfl ?_
      exact ⟨Z354,Z169,Z171,Z259⟩
  · replace c7 := Bool.eq_false_iff.mpr c7
    subst c7
    have H1 : (some (t420,t423,t426,t427,t430,t431,t436,t437)) = some (r1,r2,r3,r4,r5,r6,r7,r8) := by rw [if_neg (show ¬ (false = true) by decide)] at H;exact H
    clear H
    have H := H1
    clear H1
    simp only [Option.some.injEq,Prod.mk.injEq] at H
    obtain ⟨rfl,rfl,rfl,rfl,rfl,rfl,rfl,rfl⟩ := H
    go_enter Try.func29,Try.ntmps29
    go_wp2_with (first | ((with_reducible refine gate_dst (N := 2) rfl ?_);refine box_event ?hg (N := 2) ?hd (cs := #[.int .i64 0,.int .i64 0,.int .i64 0,.int .i64 0,.int .i64 0,.int .i64 0]) (t := 35) ?hr ?_;(case hd => rfl);(case hg => rfl);(case hr => exact Z359);intro gb419 hg w52 hbox hb;have n_ := jA (IsS76.below Z319 hb) (jA (KeepBut.trans Z428 (KeepBut.of_below hb g none) (.inl rfl)) (jA (below_step Z318 hb) (jA (hbox) (jA ((Z283 : w.heap.size ≤ gb419)) (jA ((Nat.le_trans HW0.out (Z283 : w.heap.size ≤ gb419) : w0.heap.size ≤ gb419)) (jA ((by rw [hg];exact Nat.ne_of_lt (IsS76.lt (show IsS76 w0 _ g s0_0 s0_1 s0_2 from Z319)) : g ≠ gb419)) (Aside0.mk ((by rw [hg];exact Nat.ne_of_gt (IsS76.lt (show IsS76 w0 _ g s0_0 s0_1 s0_2 from Z319)) : gb419 ≠ g)))))))));clear HI0 HK HB;obtain ⟨HI0,HK,HB,BK419,GW419,GE419,NB0_419,NB419_0⟩ := n_;clear hb hbox hg) | ((with_reducible refine gate_callee (f := 44) rfl ?_);refine goesL_ (some 5) rfl rfl Try.func44 Z363 rfl #[.pointer (some ⟨g,0,none⟩),.int .i64 3] rfl Z330 ?_;(with_reducible refine (spec_l1Below.calls g s0_0 s0_1 s0_2 3 t420 t421 t422 w0 _ ?side1 ?side2 A2.out).mono ?_);(case side1 => exact Z285);(case side2 => exact Z293);rintro e w53 ⟨rfl,hi,hb,hk⟩;refine ⟨_,rfl,?_⟩;have n_ := jA (KeepBut.blk hk (g' := gb419) (o := .cells #[.int .i64 0,.int .i64 0,.int .i64 0,.int .i64 0,.int .i64 0,.int .i64 0] 35 (0,0)) Z433 NB419_0.out Z483) (jA (KeepBut.trans Z408 hk (.inl rfl)) (jA (hb) (Aside0.mk (hi))));clear BK419 HK HB HI0;obtain ⟨BK419,HK,HB,HI0⟩ := n_;(try clear hb);(try clear hb2);(try clear hk);(try clear hi)) | ((with_reducible refine gate_callee (f := 44) rfl ?_);refine goesL_ (some 7) rfl rfl Try.func44 Z363 rfl #[.pointer (some ⟨g,0,none⟩),.int .i64 4] rfl Z330 ?_;(with_reducible refine (spec_l1Below.calls g s0_0 t421 t422 4 t423 t424 t425 w0 _ ?side1 ?side2 A3.out).mono ?_);(case side1 => exact Z285);(case side2 => exact Z293);rintro e w54 ⟨rfl,hi,hb,hk⟩;refine ⟨_,rfl,?_⟩;have n_ := jA (KeepBut.blk hk (g' := gb419) (o := .cells #[.int .i64 0,.int .i64 0,.int .i64 0,.int .i64 0,.int .i64 0,.int .i64 0] 35 (0,0)) Z433 NB419_0.out Z483) (jA (KeepBut.trans Z408 hk (.inl rfl)) (jA (hb) (Aside0.mk (hi))));clear BK419 HK HB HI0;obtain ⟨BK419,HK,HB,HI0⟩ := n_;(try clear hb);(try clear hb2);(try clear hk);(try clear hi)) | ((with_reducible refine gate_callee (f := 51) rfl ?_);refine goesL_ (some 9) rfl rfl Try.func51 Z363 rfl #[.pointer (some ⟨g,0,none⟩)] rfl Z330 ?_;(with_reducible refine (spec_l14Slot.calls k g s0_0 t424 t425 t426 t427 t428 t429 w0 _ ?side1 ?side2 A4.out).mono ?_);(case side1 => exact Z285);(case side2 => exact Z293);rintro e w55 ⟨rfl,hi,hb,hk⟩;refine ⟨_,rfl,?_⟩;have n_ := jA (KeepBut.blk hk (g' := gb419) (o := .cells #[.int .i64 0,.int .i64 0,.int .i64 0,.int .i64 0,.int .i64 0,.int .i64 0] 35 (0,0)) Z433 NB419_0.out Z483) (jA (KeepBut.trans Z408 hk (.inl rfl)) (jA (hb) (Aside0.mk (hi))));clear BK419 HK HB HI0;obtain ⟨BK419,HK,HB,HI0⟩ := n_;(try clear hb);(try clear hb2);(try clear hk);(try clear hi)) | ((with_reducible refine gate_callee (f := 51) rfl ?_);refine goesL_ (some 11) rfl rfl Try.func51 Z363 rfl #[.pointer (some ⟨g,0,none⟩)] rfl Z330 ?_;(with_reducible refine (spec_l14Slot.calls k g s0_0 t428 t429 t430 t431 t432 t433 w0 _ ?side1 ?side2 A5.out).mono ?_);(case side1 => exact Z285);(case side2 => exact Z293);rintro e w56 ⟨rfl,hi,hb,hk⟩;refine ⟨_,rfl,?_⟩;have n_ := jA (KeepBut.blk hk (g' := gb419) (o := .cells #[.int .i64 0,.int .i64 0,.int .i64 0,.int .i64 0,.int .i64 0,.int .i64 0] 35 (0,0)) Z433 NB419_0.out Z483) (jA (KeepBut.trans Z408 hk (.inl rfl)) (jA (hb) (Aside0.mk (hi))));clear BK419 HK HB HI0;obtain ⟨BK419,HK,HB,HI0⟩ := n_;(try clear hb);(try clear hb2);(try clear hk);(try clear hi)) | ((with_reducible refine gate_dst (N := 3) rfl ?_);refine box_event ?hg (N := 3) ?hd (cs := #[.int .i64 0,.int .i64 0,.int .i64 0,.int .i64 0,.int .i64 0,.int .i64 0]) (t := 35) ?hr ?_;(case hd => rfl);(case hg => rfl);(case hr => exact Z359);intro gb434 hg w57 hbox hb;have n_ := jA (IsS76.below Z285 hb) (jA (blk_below (g := gb419) (o := .cells #[.int .i64 0,.int .i64 0,.int .i64 0,.int .i64 0,.int .i64 0,.int .i64 0] 35 (0,0)) Z433 hb) (jA (KeepBut.trans Z408 (KeepBut.of_below hb g none) (.inl rfl)) (jA (below_step Z293 hb) (jA (hbox) (jA ((Z170 : w.heap.size ≤ gb434)) (jA ((Nat.le_trans HW0.out (Z170 : w.heap.size ≤ gb434) : w0.heap.size ≤ gb434)) (jA ((Z167 : gb419 ≠ gb434)) (jA ((Z168 : gb434 ≠ gb419)) (jA ((by rw [hg];exact Nat.ne_of_lt (IsS76.lt (show IsS76 w0 _ g s0_0 t432 t433 from Z285)) : g ≠ gb434)) (Aside0.mk ((by rw [hg];exact Nat.ne_of_gt (IsS76.lt (show IsS76 w0 _ g s0_0 t432 t433 from Z285)) : gb434 ≠ g))))))))))));clear HI0 BK419 HK HB;obtain ⟨HI0,BK419,HK,HB,BK434,GW434,GE434,NB419_434,NB434_419,NB0_434,NB434_0⟩ := n_;clear hb hbox hg;have hnb58 := NB434_419.out;have hnc58 := NB419_434.out;have hnb59 := NB434_0.out;have hnc59 := NB0_434.out;obtain ⟨hcz60_0,hcz60_1,hcz60_2,hcz60_3,hcz60_4,hcz60_5,hfz60_0,hfz60_1,hfz60_2,hfz60_3,hfz60_4,hfz60_5⟩ := spec_l15Cand.cells6 BK434.out) | ((with_reducible refine gate_callee (f := 52) rfl ?_);refine goesL_ (some 14) rfl rfl Try.func52 Z363 rfl #[.pointer (some ⟨g,0,none⟩),.int .i64 4] rfl Z330 ?_;(with_reducible refine (spec_l1Once.calls g s0_0 t432 t433 4 false t436 t437 w0 _ ?side1 ?side2 A6.out).mono ?_);(case side1 => exact Z169);(case side2 => exact Z171);rintro e w61 ⟨rfl,hi,hb,hk⟩;refine ⟨_,rfl,?_⟩;have n_ := jA (KeepBut.blk hk (g' := gb419) (o := .cells #[.int .i64 0,.int .i64 0,.int .i64 0,.int .i64 0,.int .i64 0,.int .i64 0] 35 (0,0)) Z20 NB419_0.out Z483) (jA (KeepBut.blk hk (g' := gb434) (o := .cells #[.int .i64 t420,.int .i64 t423,.int .i64 t426,.int .i64 t427,.int .i64 t430,.int .i64 t431] 35 (0,0)) Z1 NB434_0.out Z483) (jA (KeepBut.trans Z259 hk (.inl rfl)) (jA (hb) (Aside0.mk (hi)))));clear BK419 BK434 HK HB HI0;obtain ⟨BK419,BK434,HK,HB,HI0⟩ := n_;(try clear hb);(try clear hb2);(try clear hk);(try clear hi);obtain ⟨hcz62_0,hcz62_1,hcz62_2,hcz62_3,hcz62_4,hcz62_5,hfz62_0,hfz62_1,hfz62_2,hfz62_3,hfz62_4,hfz62_5⟩ := spec_l15Cand.cells6 BK434.out;have hnb63 := NB419_0.out;have hnc63 := NB0_419.out;obtain ⟨hcz64_0,hcz64_1,hcz64_2,hcz64_3,hcz64_4,hcz64_5,hfz64_0,hfz64_1,hfz64_2,hfz64_3,hfz64_4,hfz64_5⟩ := spec_l15Cand.cells6 BK419.out))
    refine bodyPost_ret (results_cell_row rfl _ _ gb419 35 #[.int .i64 t420,.int .i64 t423,.int .i64 t426,.int .i64 t427,.int .i64 t430,.int .i64 t431] (0,0) _ rfl Z2 Try.underlying35 rfl Z363) rfl ?_
    exact ⟨Z354,Z169,Z171,Z259⟩

/-! ### spec_DrawGainOf: function 14 -/
theorem spec_DrawGainOf.cells6 {w : World} {g : Nat} {t : TypeId} {a0 a1 a2 a3 a4 a5 : Value} (h : w.heap[g]? = some (.cells #[a0,a1,a2,a3,a4,a5] t (0,0))) : w.cell? ⟨g,0,none⟩ = some a0 ∧ w.cell? ⟨g,1,none⟩ = some a1 ∧ w.cell? ⟨g,2,none⟩ = some a2 ∧ w.cell? ⟨g,3,none⟩ = some a3 ∧ w.cell? ⟨g,4,none⟩ = some a4 ∧ w.cell? ⟨g,5,none⟩ = some a5 ∧ w.frozen? ⟨g,0,none⟩ = false ∧ w.frozen? ⟨g,1,none⟩ = false ∧ w.frozen? ⟨g,2,none⟩ = false ∧ w.frozen? ⟨g,3,none⟩ = false ∧ w.frozen? ⟨g,4,none⟩ = false ∧ w.frozen? ⟨g,5,none⟩ = false := ⟨(blk_cell h 0).trans rfl,(blk_cell h 1).trans rfl,(blk_cell h 2).trans rfl,(blk_cell h 3).trans rfl,(blk_cell h 4).trans rfl,(blk_cell h 5).trans rfl,blk_frozen h 0,blk_frozen h 1,blk_frozen h 2,blk_frozen h 3,blk_frozen h 4,blk_frozen h 5⟩
def spec_DrawGainOf.f (k : Nat) (l0 : List Int) : Option (Int × Int × Int × Int × Int × Int × Int) := (spec_l1New.f k l0).bind fun bt442 => ((spec_l15Cand.f k bt442.1 bt442.2.1 bt442.2.2).bind fun bt446 => ((spec_l1PickInt.f bt442.1 bt446.2.2.2.2.2.2.1 bt446.2.2.2.2.2.2.2 (([1,2,100,101,0] : List Int))).bind fun bt457 => (some (bt446.1,bt446.2.1,bt446.2.2.1,bt446.2.2.2.1,bt446.2.2.2.2.1,bt446.2.2.2.2.2.1,bt457.1))))
theorem spec_DrawGainOf.mono : ∀ a0 k,LeO (spec_DrawGainOf.f k a0) (spec_DrawGainOf.f (k + 1) a0) := by
  intro a0 k
  unfold spec_DrawGainOf.f
  repeat' first
      | (with_reducible exact spec_l15Cand.mono _ _ _ _)
      | (with_reducible exact spec_l1New.mono _ _)
      | (with_reducible exact LeO.refl _)
      | (with_reducible exact LeO.none _)
      | (with_reducible refine LeO.ite ?_ ?_)
      | (with_reducible refine LeO.bind ?_ (fun _ => ?_))
      | exact spec_l15Cand.mono _ _ _ _
      | exact spec_l1New.mono _ _
      | exact LeO.none _
      | refine LeO.ite ?_ ?_
      | refine LeO.bind ?_ (fun _ => ?_)
set_option maxHeartbeats 8000000 in
set_option maxRecDepth 100000 in
theorem spec_DrawGainOf.calls (k : Nat) (A0 : Option Addr) (c0 : Nat) (l0 : List Int) (r1 : Int) (r2 : Int) (r3 : Int) (r4 : Int) (r5 : Int) (r6 : Int) (r7 : Int) (w : World) (hr0 : Kd.C (Kd.int .u8) w A0 l0.length l0) (hc0 : l0.length ≤ c0) (h : spec_DrawGainOf.f k l0 = some (r1,r2,r3,r4,r5,r6,r7)) :
    Calls Try.prog 14 #[.slice A0 l0.length c0] w fun e w' => e = .returned (.tuple #[.agg #[.int .i64 r1,.int .i64 r2,.int .i64 r3,.int .i64 r4,.int .i64 r5,.int .i64 r6],.int .i64 r7]) ∧ Below w.heap.size w w' := by
  have hu35 := Try.underlying35
  have HR0 := Aside0.mk hr0
  have HC0 := Aside0.mk hc0
  clear hr0 hc0
  have HB := Aside0.mk (Below.refl w.heap.size w)
  have H : ((spec_l1New.f k l0).bind fun bt442 => ((spec_l15Cand.f k bt442.1 bt442.2.1 bt442.2.2).bind fun bt446 => ((spec_l1PickInt.f bt442.1 bt446.2.2.2.2.2.2.1 bt446.2.2.2.2.2.2.2 (([1,2,100,101,0] : List Int))).bind fun bt457 => (some (bt446.1,bt446.2.1,bt446.2.2.1,bt446.2.2.2.1,bt446.2.2.2.2.1,bt446.2.2.2.2.2.1,bt457.1))))) = some (r1,r2,r3,r4,r5,r6,r7) := h
  clear h
  obtain ⟨⟨t442,t443,t444⟩,A20,H⟩ := Option.bind_eq_some_iff.mp H
  try dsimp only at H
  have A2 := Aside0.mk A20
  clear A20
  obtain ⟨⟨t446,t447,t448,t449,t450,t451,t452,t453⟩,A30,H⟩ := Option.bind_eq_some_iff.mp H
  try dsimp only at H
  have A3 := Aside0.mk A30
  clear A30
  obtain ⟨y454,hy454⟩ : ∃ y_ : List Int,y_ = (([1,2,100,101,0] : List Int)) := ⟨_,rfl⟩
  replace H : ((spec_l1PickInt.f t442 t452 t453 y454).bind fun bt457 => (some (t446,t447,t448,t449,t450,t451,bt457.1))) = some (r1,r2,r3,r4,r5,r6,r7) := by first | (rw [hy454];with_reducible exact H) | (have H2_ := (Option.bind_some _ _).symm.trans H;rw [hy454];with_reducible exact H2_) | (have H2_ := (Option.bind_some _ _).symm.trans H;with_reducible exact H2_) | with_reducible exact H | (rw [hy454];exact H) | exact H
  have Ny454 := Aside0.mk hy454
  clear hy454
  obtain ⟨⟨t457,t458,t459⟩,A40,H⟩ := Option.bind_eq_some_iff.mp H
  try dsimp only at H
  have A4 := Aside0.mk A40
  clear A40
  simp only [Option.some.injEq,Prod.mk.injEq] at H
  obtain ⟨rfl,rfl,rfl,rfl,rfl,rfl,rfl⟩ := H
  go_enter Try.func14,Try.ntmps14
  go_wp2_with (first | ((with_reducible refine gate_dst (N := 2) rfl ?_);refine box_event ?hg (N := 2) ?hd (cs := #[.int .i64 0,.int .i64 0,.int .i64 0,.int .i64 0,.int .i64 0,.int .i64 0]) (t := 35) ?hr ?_;(case hd => rfl);(case hg => rfl);(case hr => exact Z359);intro gb441 hg w5 hbox hb;have n_ := jA (below_step Z430 hb) (jA (hbox) (jA ((Z321 : w.heap.size ≤ gb441)) (Aside0.mk ((Z321 : w.heap.size ≤ gb441)))));clear HB;obtain ⟨HB,BK441,GW441,GE441⟩ := n_;clear hb hbox hg) | ((with_reducible refine gate_callee (f := 28) rfl ?_);refine goesL_ (some 6) rfl rfl Try.func28 Z363 rfl #[.slice A0 l0.length c0] rfl Z330 ?_;(with_reducible refine (spec_l1New.calls k _ _ l0 t442 t443 t444 w _ ?side1 ?side2 ?side3 A2.out).mono ?_);(case side1 => repeat (first | (with_reducible first | exact HB.out | apply below_alloc | apply pw_below_drewN | apply below_drew1 | refine below_set ?_ GE441.out) | exact HB.out));(case side2 => exact HR0.out);(case side3 => exact HC0.out);rintro e w6 ⟨g445,rfl,hi,hb,hb2⟩;refine ⟨_,rfl,?_⟩;have n_ := jA (blk_below (g := gb441) (o := .cells #[.int .i64 0,.int .i64 0,.int .i64 0,.int .i64 0,.int .i64 0,.int .i64 0] 35 (0,0)) Z346 hb2) (jA (hb) (jA (hi) (jA (IsS76.ne_blk hi (blk_below (g := gb441) (o := .cells #[.int .i64 0,.int .i64 0,.int .i64 0,.int .i64 0,.int .i64 0,.int .i64 0] 35 (0,0)) Z346 hb2) Z364) (Aside0.mk (Ne.symm (IsS76.ne_blk hi (blk_below (g := gb441) (o := .cells #[.int .i64 0,.int .i64 0,.int .i64 0,.int .i64 0,.int .i64 0,.int .i64 0] 35 (0,0)) Z346 hb2) Z364))))));clear BK441 HB;obtain ⟨BK441,HB,HI445,NB445_441,NB441_445⟩ := n_;(try clear hb);(try clear hb2);(try clear hk);(try clear hi)) | ((with_reducible refine gate_callee (f := 29) rfl ?_);refine goesL_ (some 8) rfl rfl Try.func29 Z363 rfl #[.pointer (some ⟨g445,0,none⟩)] rfl Z330 ?_;(with_reducible refine (spec_l15Cand.calls k g445 t442 t443 t444 t446 t447 t448 t449 t450 t451 t452 t453 w _ ?side1 ?side2 A3.out).mono ?_);(case side1 => exact Z276);(case side2 => exact Z284);rintro e w7 ⟨rfl,hi,hb,hk⟩;refine ⟨_,rfl,?_⟩;have n_ := jA (KeepBut.blk hk (g' := gb441) (o := .cells #[.int .i64 0,.int .i64 0,.int .i64 0,.int .i64 0,.int .i64 0,.int .i64 0] 35 (0,0)) Z346 NB441_445.out Z483) (jA (hb) (Aside0.mk (hi)));clear BK441 HB HI445;obtain ⟨BK441,HB,HI445⟩ := n_;(try clear hb);(try clear hb2);(try clear hk);(try clear hi)) | ((with_reducible refine gate_dst (N := 10) rfl ?_);refine Kd.R_lit (Kd.int .i64) _ 3 ?hg (N := 10) ?hd (xs := ([1,2,100,101,0] : List Int)) (inner := [.int .i64 1,.int .i64 2,.int .i64 100,.int .i64 101,.int .i64 0]) (ok := fun _ => True) (okp := fun _ => True) ?hr ?hp (fun _ hk => hk) trivial (Below.refl _ _) (Nat.le_refl _) Z483 ?_;(case hd => rfl);(case hg => rfl);(case hr => exact Z359);(case hp => exact (Reps.one (show Kd.M (Kd.int .i64) _ _ _ 1 [.int .i64 1] from rfl) (Reps.one (show Kd.M (Kd.int .i64) _ _ _ 2 [.int .i64 2] from rfl) (Reps.one (show Kd.M (Kd.int .i64) _ _ _ 100 [.int .i64 100] from rfl) (Reps.one (show Kd.M (Kd.int .i64) _ _ _ 101 [.int .i64 101] from rfl) (Reps.one (show Kd.M (Kd.int .i64) _ _ _ 0 [.int .i64 0] from rfl) (Reps.none _ _)))))));intro v455 w8 ho9 hb hg_ hnew_;clear hg_ hnew_;(first | rw [← Ny454.out] at ho9 | (simp only [Int.reduceToNat] at ho9;rw [← Ny454.out] at ho9));have n_ := jA (Kd.R_lower ho9 (below_size Z284)) (jA (blk_below (g := gb441) (o := .cells #[.int .i64 0,.int .i64 0,.int .i64 0,.int .i64 0,.int .i64 0,.int .i64 0] 35 (0,0)) Z346 hb) (jA (IsS76.below Z276 hb) (Aside0.mk (below_step Z284 hb))));clear BK441 HI445 HB;obtain ⟨HO456,BK441,HI445,HB⟩ := n_;clear hb ho9;obtain ⟨Ao10,co10,eo10⟩ := Kd.R_slice HO456.out;subst eo10) | ((with_reducible refine gate_callee (f := 30) rfl ?_);refine goesL_ (some 11) rfl rfl Try.func30 Z363 rfl #[.pointer (some ⟨g445,0,none⟩),.slice Ao10 y454.length co10] rfl Z330 ?_;(with_reducible refine (spec_l1PickInt.calls g445 t442 t452 t453 _ _ y454 t457 t458 t459 w _ ?side1 ?side2 ?side3 ?side4 ?side5 A4.out).mono ?_);(case side1 => exact Z276);(case side2 => exact Z284);(case side3 => repeat (first | exact (Kd.R_reads' HO456.out).2.2 | (with_reducible refine Kd.C_alloc ?_ _) | (with_reducible refine Kd.C_drewN ?_ _) | (with_reducible refine Kd.C_drew ?_)));(case side4 => exact (Kd.R_reads' HO456.out).2.1);(case side5 => exact far_slice (IsS76.own_ne HI445.out HO456.out Z364));rintro e w11 ⟨rfl,hi,hb,hk⟩;refine ⟨_,rfl,?_⟩;have n_ := jA (KeepBut.blk hk (g' := gb441) (o := .cells #[.int .i64 0,.int .i64 0,.int .i64 0,.int .i64 0,.int .i64 0,.int .i64 0] 35 (0,0)) Z346 NB441_445.out Z483) (jA (Kd.R_mono (Kd.R_keep (IsS76.apart (show IsS76 w _ g445 t442 t452 t453 from Z276) (by (with_reducible repeat (first | apply Kd.R_alloc | apply Kd.R_drewN | apply Kd.R_drew));exact HO456.out) Z364) hk (fun _ h => h.2)) (fun _ h => h.1)) (jA (hb) (Aside0.mk (hi))));clear BK441 HO456 HB HI445;obtain ⟨BK441,HO456,HB,HI445⟩ := n_;(try clear hb);(try clear hb2);(try clear hk);(try clear hi);have hnb12 := NB441_445.out;have hnc12 := NB445_441.out;obtain ⟨hcz13_0,hcz13_1,hcz13_2,hcz13_3,hcz13_4,hcz13_5,hfz13_0,hfz13_1,hfz13_2,hfz13_3,hfz13_4,hfz13_5⟩ := spec_DrawGainOf.cells6 BK441.out))
  refine bodyPost_ret (results_ct rfl _ _ gb441 35 #[.int .i64 t446,.int .i64 t447,.int .i64 t448,.int .i64 t449,.int .i64 t450,.int .i64 t451] (0,0) _ rfl (by (with_reducible repeat (first | refine bA ?_ _ | refine bB ?_ | refine bC ?_ _));refine blk_put (cs := #[.int .i64 t446,.int .i64 t447,.int .i64 t448,.int .i64 t449,.int .i64 t450,.int .i64 0]) ?_ 5 _ rfl;(with_reducible repeat (first | refine bA ?_ _ | refine bB ?_ | refine bC ?_ _));refine blk_put (cs := #[.int .i64 t446,.int .i64 t447,.int .i64 t448,.int .i64 t449,.int .i64 0,.int .i64 0]) ?_ 4 _ rfl;(with_reducible repeat (first | refine bA ?_ _ | refine bB ?_ | refine bC ?_ _));refine blk_put (cs := #[.int .i64 t446,.int .i64 t447,.int .i64 t448,.int .i64 0,.int .i64 0,.int .i64 0]) ?_ 3 _ rfl;(with_reducible repeat (first | refine bA ?_ _ | refine bB ?_ | refine bC ?_ _));refine blk_put (cs := #[.int .i64 t446,.int .i64 t447,.int .i64 0,.int .i64 0,.int .i64 0,.int .i64 0]) ?_ 2 _ rfl;(with_reducible repeat (first | refine bA ?_ _ | refine bB ?_ | refine bC ?_ _));refine blk_put (cs := #[.int .i64 t446,.int .i64 0,.int .i64 0,.int .i64 0,.int .i64 0,.int .i64 0]) ?_ 1 _ rfl;(with_reducible repeat (first | refine bA ?_ _ | refine bB ?_ | refine bC ?_ _));refine blk_put (cs := #[.int .i64 0,.int .i64 0,.int .i64 0,.int .i64 0,.int .i64 0,.int .i64 0]) ?_ 0 _ rfl;(with_reducible repeat (first | refine bA ?_ _ | refine bB ?_ | refine bC ?_ _));exact BK441.out) Try.underlying35 rfl Z363) rfl ?_
  exact ⟨Z354,Z284⟩

end Go.Proofs.Ytjcjehnjbgklbaa.QFnGain
