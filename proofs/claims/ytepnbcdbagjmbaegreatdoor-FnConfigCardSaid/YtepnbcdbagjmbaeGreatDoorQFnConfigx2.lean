/- The machine side of FnConfig: what each Go function that it reaches comes to. Conditions: none. -/
import Derived.Test.YtepnbcdbagjmbaeGreatDoorQFnConfigx0
namespace Go.Proofs.YtepnbcdbagjmbaeGreatDoor.QFnConfig
open Go.RowKit Go.Proofs.YtepnbcdbagjmbaeGreatDoorW.PrintWords Go.Proofs.YtepnbcdbagjmbaeGreatDoorW.PrintLast Go.Proofs.YtepnbcdbagjmbaeGreatDoorW.PrintMore
attribute [local go_sem] max2_int min2_int max_two min_two max_three min_three max_four min_four   -- for this text's walks alone
set_option linter.unusedVariables false
set_option linter.unusedSimpArgs false

/-! ### impl_within: function 23 -/
def impl_within.f (a0 : Int) (a1 : Int) (a2 : Int) : Option (Bool) := if a0 ≥ a1 then (some (decide (a0 ≤ a2))) else (some false)
set_option maxHeartbeats 8000000 in
set_option maxRecDepth 100000 in
theorem impl_within.calls (a0 : Int) (a1 : Int) (a2 : Int) (r : Bool) (w : World) (h : impl_within.f a0 a1 a2 = some r) :
  Calls Tryz.prog 23 #[.int .i64 a0,.int .i64 a1,.int .i64 a2] w fun e w' => e = .returned (.bool r) ∧ Drawn0 w w' := by
 have H := h
 clear h
 unfold impl_within.f at H
 by_cases c4 : a0 ≥ a1
 ·rw [if_pos c4] at H
  have c4b0 : decide (a1 ≤ a0) = true := decide_eq_true c4
  clear c4
  obtain rfl := Option.some.inj H
  go_enter Tryz.func23,Tryz.ntmps23
  go_wp2
  go_ret
  exact ⟨Z165,Z158⟩
 rw [if_neg c4] at H
 have c4b0 : decide (a1 ≤ a0) = false := decide_eq_false c4
 clear c4
 obtain rfl := Option.some.inj H
 go_enter Tryz.func23,Tryz.ntmps23
 go_wp2
 go_ret
 exact ⟨Z165,Z158⟩

/-! ### impl_isSign: function 26 -/
def impl_isSign.f (a0 : Int) : Option (Bool) := (impl_within.f a0 (-1) 1).bind fun t101 => (some t101)
set_option maxHeartbeats 8000000 in
set_option maxRecDepth 100000 in
theorem impl_isSign.calls (a0 : Int) (r : Bool) (w : World) (h : impl_isSign.f a0 = some r) :
  Calls Tryz.prog 26 #[.int .i64 a0] w fun e w' => e = .returned (.bool r) ∧ Drawn0 w w' := by
 have H := h
 clear h
 unfold impl_isSign.f at H
 obtain ⟨t101,A20,H⟩ := Option.bind_eq_some_iff.mp H
 have A2 := Aside0.mk A20
 clear A20
 obtain rfl := Option.some.inj H
 go_enter Tryz.func26,Tryz.ntmps26
 go_wp2_with (first | ((with_reducible refine gate_callee (f := 23) rfl ?_);refine goesL_ (some 4) rfl rfl Tryz.func23 Z190 rfl #[.int .i64 a0,.int .i64 (-1),.int .i64 1] rfl Z130 ?_;(with_reducible refine (impl_within.calls a0 (-1) 1 t101 _ A2.out).mono ?_);rintro e w' ⟨rfl,⟨nd,rfl⟩⟩;refine ⟨_,rfl,?_⟩))
 go_ret
 exact ⟨Z165,Z158⟩

/-! ### impl_ConfigOk_1: function 25 -/
def impl_ConfigOk_1.f (a0 : Int) : Option (Bool) := (impl_isSign.f a0).bind fun t102 => (some (!t102))
set_option maxHeartbeats 8000000 in
set_option maxRecDepth 100000 in
theorem impl_ConfigOk_1.calls (a0 : Int) (r : Bool) (w : World) (h : impl_ConfigOk_1.f a0 = some r) :
  Calls Tryz.prog 25 #[.int .i64 a0] w fun e w' => e = .returned (.bool r) ∧ Drawn0 w w' := by
 have H := h
 clear h
 unfold impl_ConfigOk_1.f at H
 obtain ⟨t102,A20,H⟩ := Option.bind_eq_some_iff.mp H
 have A2 := Aside0.mk A20
 clear A20
 obtain rfl := Option.some.inj H
 go_enter Tryz.func25,Tryz.ntmps25
 go_wp2_with (first | ((with_reducible refine gate_callee (f := 26) rfl ?_);refine goesL_ (some 4) rfl rfl Tryz.func26 Z190 rfl #[.int .i64 a0] rfl Z130 ?_;(with_reducible refine (impl_isSign.calls a0 t102 _ A2.out).mono ?_);rintro e w' ⟨rfl,⟨nd,rfl⟩⟩;refine ⟨_,rfl,?_⟩))
 go_ret
 exact ⟨Z165,Z158⟩

/-! ### laws_big: function 4 -/
def laws_big.f (l0 : List Int) : Option (Bool) := some (decide ((l0.length : Int) > 1048576))
set_option maxHeartbeats 8000000 in
set_option maxRecDepth 100000 in
theorem laws_big.calls (A0 : Option Addr) (c0 : Nat) (l0 : List Int) (r : Bool) (w : World) (hr0 : Kd.C (Kd.int .u8) w A0 l0.length l0) (hc0 : l0.length ≤ c0) (h : laws_big.f l0 = some r) :
  Calls Tryz.prog 4 #[.slice A0 l0.length c0] w fun e w' => e = .returned (.bool r) ∧ Drawn0 w w' := by
 have HR0 := Aside0.mk hr0
 have HC0 := Aside0.mk hc0
 clear hr0 hc0
 have H := h
 clear h
 unfold laws_big.f at H
 obtain rfl := Option.some.inj H
 go_enter Tryz.func4,Tryz.ntmps4
 go_wp2
 go_ret
 exact ⟨Z165,Z158⟩

/-- A state of type 65 at block g of W;what its slices lead to came in by w0. -/
def IsS65 (w0 W : World) (g : Nat) (f0 : List Int) (f1 : Int) (f2 : Int) : Prop := ∃ A0 c0,W.heap[g]? = some (.cells #[.slice A0 f0.length c0,.int .i64 f1,.int .i64 f2] 65 (0,0)) ∧ w0.heap.size ≤ g ∧ Kd.C (Kd.int .u8) w0 A0 f0.length f0
theorem IsS65.grown {w0 W : World} {g : Nat} {f0 : List Int} {f1 : Int} {f2 : Int} {W1 : World} {row : Option Nat} (h : IsS65 w0 W g f0 f1 f2) (hw : W.grownBy W1 row) (hne : some g ≠ row) : IsS65 w0 W1 g f0 f1 f2 := by
 obtain ⟨A0,c0,hb,hg,hr0⟩ := h
 exact ⟨A0,c0,blk_grown hb hw hne,hg,hr0⟩
theorem IsS65.own_neN {w0 W : World} {g : Nat} {f0 : List Int} {f1 : Int} {f2 : Int} {α : Type} {d : Kd α} {e : Nat} {base : Nat} {ok : Nat → Prop} {v : Value} {xs : List α} (h : IsS65 w0 W g f0 f1 f2) (ho : Kd.N d e W base ok v xs) (ht : e ≠ 65) : some g ≠ v.ownBlock := by
 obtain ⟨A0,c0,hb,hg,hr0⟩ := h
 exact Kd.N_ne ho hb ht
theorem IsS65.fresh {w0 W : World} {g : Nat} {f0 : List Int} {f1 : Int} {f2 : Int} (h : IsS65 w0 W g f0 f1 f2) : ∀ k,W.heap.size ≤ k → k ≠ g := by
 obtain ⟨A0,c0,hb,hg,hr0⟩ := h
 exact Kd.freshB hb
theorem IsS65.kept {w0 W : World} {g : Nat} {f0 : List Int} {f1 : Int} {f2 : Int} {W1 : World} {S : Nat → Prop} (h : IsS65 w0 W g f0 f1 f2) (hk : Kept W W1 S) (hne : ¬ S g) : IsS65 w0 W1 g f0 f1 f2 := by
 obtain ⟨A0,c0,hb,hg,hr0⟩ := h
 exact ⟨A0,c0,blk_kept hb hk hne,hg,hr0⟩
theorem IsS65.below {w0 W : World} {g : Nat} {f0 : List Int} {f1 : Int} {f2 : Int} {W1 : World} (h : IsS65 w0 W g f0 f1 f2) (hw : Below W.heap.size W W1) : IsS65 w0 W1 g f0 f1 f2 := h.grown (grown_of_below hw none) Z286
theorem IsS65.alloc {w0 W : World} {g : Nat} {f0 : List Int} {f1 : Int} {f2 : Int} (h : IsS65 w0 W g f0 f1 f2) (o : Obj) : IsS65 w0 (W.alloc o) g f0 f1 f2 := h.below (below_alloc (Below.refl _ _) o)
theorem IsS65.drewN {w0 W : World} {g : Nat} {f0 : List Int} {f1 : Int} {f2 : Int} (h : IsS65 w0 W g f0 f1 f2) (m : Nat) : IsS65 w0 (W.drewN m) g f0 f1 f2 := h
theorem IsS65.drew {w0 W : World} {g : Nat} {f0 : List Int} {f1 : Int} {f2 : Int} (h : IsS65 w0 W g f0 f1 f2) : IsS65 w0 W.drew g f0 f1 f2 := h
theorem IsS65.at_ {w0 W : World} {g : Nat} {f0 : List Int} {f1 : Int} {f2 : Int} {w' : World} {m : Nat} (hq : W.drewN m = w') (h : IsS65 w0 W g f0 f1 f2) : IsS65 w0 w' g f0 f1 f2 := by subst hq;exact IsS65.drewN h m
theorem IsS65.apart {w0 W : World} {g : Nat} {f0 : List Int} {f1 : Int} {f2 : Int} {α : Type} {d : Kd α} {e : Nat} {base : Nat} {ok : Nat → Prop} {v : Value} {xs : List α} (h : IsS65 w0 W g f0 f1 f2) (ho : d.R e W base ok v xs) (ht : ∀ q,q ∈ e :: d.E → q ≠ 65) : d.R e W base (fun k => ok k ∧ k ≠ g) v xs := by
 obtain ⟨A0,c0,hb,hg,hr0⟩ := h
 exact Kd.R_types ho hb ht
theorem IsS65.own_ne {w0 W : World} {g : Nat} {f0 : List Int} {f1 : Int} {f2 : Int} {α : Type} {d : Kd α} {e : Nat} {base : Nat} {ok : Nat → Prop} {v : Value} {xs : List α} (h : IsS65 w0 W g f0 f1 f2) (ho : d.R e W base ok v xs) (ht : e ≠ 65) : some g ≠ v.ownBlock := by
 obtain ⟨A0,c0,hb,hg,hr0⟩ := h
 exact Kd.R_ne ho hb ht
theorem IsS65.apartQ {w0 W : World} {g : Nat} {f0 : List Int} {f1 : Int} {f2 : Int} {α : Type} {d : Kd α} {e : Nat} {base : Nat} {ok : Nat → Prop} {v : Value} {xs : List α} (h : IsS65 w0 W g f0 f1 f2) (ho : d.Q e W base ok v xs) (ht : ∀ q,q ∈ e :: d.E → q ≠ 65) : d.Q e W base (fun k => ok k ∧ k ≠ g) v xs := by
 obtain ⟨A0,c0,hb,hg,hr0⟩ := h
 exact Kd.Q_types ho hb ht
theorem IsS65.own_neQ {w0 W : World} {g : Nat} {f0 : List Int} {f1 : Int} {f2 : Int} {α : Type} {d : Kd α} {e : Nat} {base : Nat} {ok : Nat → Prop} {v : Value} {xs : List α} (h : IsS65 w0 W g f0 f1 f2) (ho : d.Q e W base ok v xs) (ht : e ≠ 65) : some g ≠ v.ownBlock := by
 obtain ⟨A0,c0,hb,hg,hr0⟩ := h
 exact Kd.Q_ne ho hb ht
theorem IsS65.apartS {w0 W : World} {g : Nat} {f0 : List Int} {f1 : Int} {f2 : Int} {α : Type} {d : Kd α} {e : Nat} {base : Nat} {ok : Nat → Prop} {v : Value} {xs : List α} (h : IsS65 w0 W g f0 f1 f2) (ho : d.S e W base ok v xs) (ht : ∀ q,q ∈ e :: d.E → q ≠ 65) : d.S e W base (fun k => ok k ∧ k ≠ g) v xs := by
 obtain ⟨A0,c0,hb,hg,hr0⟩ := h
 exact Kd.S_types ho hb ht
theorem IsS65.own_neS {w0 W : World} {g : Nat} {f0 : List Int} {f1 : Int} {f2 : Int} {α : Type} {d : Kd α} {e : Nat} {base : Nat} {ok : Nat → Prop} {v : Value} {xs : List α} (h : IsS65 w0 W g f0 f1 f2) (ho : d.S e W base ok v xs) (ht : e ≠ 65) : some g ≠ v.ownBlock := by
 obtain ⟨A0,c0,hb,hg,hr0⟩ := h
 exact Kd.S_ne ho hb ht
theorem IsS65.lt {w0 W : World} {g : Nat} {f0 : List Int} {f1 : Int} {f2 : Int} (h : IsS65 w0 W g f0 f1 f2) : g < W.heap.size := by
 obtain ⟨A0,c0,hb,hg,hr0⟩ := h
 exact blk_lt hb
theorem IsS65.ge {w0 W : World} {g : Nat} {f0 : List Int} {f1 : Int} {f2 : Int} (h : IsS65 w0 W g f0 f1 f2) : w0.heap.size ≤ g := by
 obtain ⟨A0,c0,hb,hg,hr0⟩ := h
 exact hg
theorem IsS65.ne_blk {w0 W : World} {g : Nat} {f0 : List Int} {f1 : Int} {f2 : Int} {a : Nat} {cs : Array Value} {t : TypeId} {fr : Nat × Nat} (h : IsS65 w0 W g f0 f1 f2) (hb2 : W.heap[a]? = some (.cells cs t fr)) (ht : t ≠ 65) : g ≠ a := by
 obtain ⟨A0,c0,hb,hg,hr0⟩ := h
 rintro rfl
 rw [hb] at hb2
 injection hb2 with hb2
 injection hb2 with _ ht2
 exact ht ht2.symm
theorem IsS65.far {w0 W : World} {g : Nat} {f0 : List Int} {f1 : Int} {f2 : Int} {p : Addr} (h : IsS65 w0 W g f0 f1 f2) (hne : g ≠ p.block) (u : Value) : IsS65 w0 (W.setCell p u) g f0 f1 f2 := by
 obtain ⟨A0,c0,hb,hg,hr0⟩ := h
 exact ⟨A0,c0,blk_far hb hne u,hg,hr0⟩
theorem cellS65_0 {W : World} {g : Nat} {A0 : Option Addr} {c0 : Nat} {f0 : List Int} {f1 : Int} {f2 : Int} (h : W.heap[g]? = some (.cells #[.slice A0 f0.length c0,.int .i64 f1,.int .i64 f2] 65 (0,0))) : W.cell? ⟨g,0,none⟩ = some (.slice A0 f0.length c0) := (blk_cell h 0).trans rfl
theorem cellS65_1 {W : World} {g : Nat} {A0 : Option Addr} {c0 : Nat} {f0 : List Int} {f1 : Int} {f2 : Int} (h : W.heap[g]? = some (.cells #[.slice A0 f0.length c0,.int .i64 f1,.int .i64 f2] 65 (0,0))) : W.cell? ⟨g,1,none⟩ = some (.int .i64 f1) := (blk_cell h 1).trans rfl
theorem IsS65.set_1 {w0 W : World} {g : Nat} {f0 : List Int} {f1 : Int} {f2 : Int} (h : IsS65 w0 W g f0 f1 f2) (x : Int) : IsS65 w0 (W.setCell ⟨g,1,none⟩ (.int .i64 x)) g f0 x f2 := by
 obtain ⟨A0,c0,hb,hg,hr0⟩ := h
 exact ⟨A0,c0,by simpa using blk_set hb 1 (.int .i64 x),hg,hr0⟩
theorem cellS65_2 {W : World} {g : Nat} {A0 : Option Addr} {c0 : Nat} {f0 : List Int} {f1 : Int} {f2 : Int} (h : W.heap[g]? = some (.cells #[.slice A0 f0.length c0,.int .i64 f1,.int .i64 f2] 65 (0,0))) : W.cell? ⟨g,2,none⟩ = some (.int .i64 f2) := (blk_cell h 2).trans rfl
theorem IsS65.set_2 {w0 W : World} {g : Nat} {f0 : List Int} {f1 : Int} {f2 : Int} (h : IsS65 w0 W g f0 f1 f2) (x : Int) : IsS65 w0 (W.setCell ⟨g,2,none⟩ (.int .i64 x)) g f0 f1 x := by
 obtain ⟨A0,c0,hb,hg,hr0⟩ := h
 exact ⟨A0,c0,by simpa using blk_set hb 2 (.int .i64 x),hg,hr0⟩
theorem IsS65.new (w0 W : World) (A0 : Option Addr) (c0 : Nat) (f0 : List Int) (f1 : Int) (f2 : Int) (hB : Below w0.heap.size w0 W) (hr0 : Kd.C (Kd.int .u8) w0 A0 f0.length f0) : IsS65 w0 (W.alloc (.cells #[.slice A0 f0.length c0,.int .i64 f1,.int .i64 f2] 65)) W.heap.size f0 f1 f2 := ⟨A0,c0,by simpa using heap_alloc_new W _,hB.size,hr0⟩

/-! ### spec_l1Byte: function 60 -/
def spec_l1Byte.f (s0_0 : List Int) (s0_1 : Int) (s0_2 : Int) : Option (Int × Int × Int) := if s0_1 < (s0_0.length : Int) then (if 0 ≤ s0_1 then (some (Go.bits .and .i64 (wrap64 ((Go.bits .and .i64 (Go.bits .xor .i64 ((wrap64 ((wrap64 (s0_2 * 6364136223846793005)) + 1442695040888963407)) / 8589934592) ((wrap64 ((wrap64 (s0_2 * 6364136223846793005)) + 1442695040888963407)) / 35184372088832)) 255) + (wrap64 (rd s0_0 s0_1)))) 255,wrap64 (s0_1 + 1),wrap64 ((wrap64 (s0_2 * 6364136223846793005)) + 1442695040888963407))) else (none)) else (some (Go.bits .and .i64 (Go.bits .xor .i64 ((wrap64 ((wrap64 (s0_2 * 6364136223846793005)) + 1442695040888963407)) / 8589934592) ((wrap64 ((wrap64 (s0_2 * 6364136223846793005)) + 1442695040888963407)) / 35184372088832)) 255,s0_1,wrap64 ((wrap64 (s0_2 * 6364136223846793005)) + 1442695040888963407)))
set_option maxHeartbeats 8000000 in
set_option maxRecDepth 100000 in
theorem spec_l1Byte.calls (g : Nat) (s0_0 : List Int) (s0_1 : Int) (s0_2 : Int) (r1 : Int) (r2 : Int) (r3 : Int) (w0 w : World) (hI : IsS65 w0 w g s0_0 s0_1 s0_2) (hB : Below w0.heap.size w0 w) (h : spec_l1Byte.f s0_0 s0_1 s0_2 = some (r1,r2,r3)) :
  Calls Tryz.prog 60 #[.pointer (some ⟨g,0,none⟩)] w fun e w' => e = .returned (.int .i64 r1) ∧ IsS65 w0 w' g s0_0 r2 r3 ∧ Below w0.heap.size w0 w' ∧ KeepBut w w' g none := by
 have HI0 := Aside0.mk hI
 have HK := Aside0.mk (KeepBut.refl w g none)
 have HL := Aside0.mk hB.size
 clear hI
 have HW0 := Aside0.mk hB.size
 have HB := Aside0.mk hB
 clear hB
 have H := h
 clear h
 unfold spec_l1Byte.f at H
 by_cases c2 : s0_1 < (s0_0.length : Int)
 rotate_left
 ·rw [if_neg c2] at H
  have c2b0 : decide (s0_1 < (s0_0.length : Int)) = false := decide_eq_false c2
  clear c2
  simp only [Option.some.injEq,Prod.mk.injEq] at H
  obtain ⟨rfl,rfl,rfl⟩ := H
  obtain ⟨ASz5_0,cSz5_0,HGz5,hgz5,HSz5_0⟩ := HI0.out
  have hcz5_0 := cellS65_0 HGz5
  have hcz5_1 := cellS65_1 HGz5
  have hcz5_2 := cellS65_2 HGz5
  have hfz5_1 := blk_frozen HGz5 1
  have hfz5_2 := blk_frozen HGz5 2
  clear HGz5 hgz5
  go_enter Tryz.func60,Tryz.ntmps60
  go_wp2
  repeat (go_quiet (fail);try go_wp2)
  go_ret
  exact ⟨Z152,Z238,Z237,Z297⟩
 rw [if_pos c2] at H
 have c2b0 : decide (s0_1 < (s0_0.length : Int)) = true := decide_eq_true c2
 clear c2
 obtain ⟨c3,H⟩ := ifp H
 have c3b0 : decide (0 ≤ s0_1) = true := decide_eq_true c3
 clear c3
 simp only [Option.some.injEq,Prod.mk.injEq] at H
 obtain ⟨rfl,rfl,rfl⟩ := H
 obtain ⟨ASz4_0,cSz4_0,HGz4,hgz4,HSz4_0⟩ := HI0.out
 have hcz4_0 := cellS65_0 HGz4
 have hcz4_1 := cellS65_1 HGz4
 have hcz4_2 := cellS65_2 HGz4
 have hfz4_1 := blk_frozen HGz4 1
 have hfz4_2 := blk_frozen HGz4 2
 clear HGz4 hgz4
 have p103 : 0 ≤ (s0_1 : Int) := of_decide_eq_true Z164
 have q103 : s0_1 < (s0_0.length : Int) := of_decide_eq_true Z164
 obtain ⟨ad103,e103,hx103_0⟩ := Kd.at_int HSz4_0 s0_1 p103 q103
 cases e103
 have hn103_0 : ad103.block ≠ g := Nat.ne_of_lt (Nat.lt_of_lt_of_le (by have := World.block_lt_of_cell? _ _ hx103_0;first | rwa [add_block] at this | exact this) (IsS65.ge HI0.out))
 replace hx103_0 := pw_cell_below HB.out hx103_0
 replace hx103_0 := (cell_far (p := ⟨g,2,none⟩) (by first | (rw [add_block];exact hn103_0) | (show (Addr.add _ _).block ≠ _;rw [add_block];exact hn103_0) | exact hn103_0) (.int .i64 (wrap64 ((wrap64 (s0_2 * 6364136223846793005)) + 1442695040888963407)))).trans hx103_0
 (try have hy103_0 := fun (n_ : Nat) => (show (((w.drewN n_).setCell ⟨g,2,none⟩ (.int .i64 (wrap64 ((wrap64 (s0_2 * 6364136223846793005)) + 1442695040888963407))))).cell? _ = some _ from hx103_0))
 clear hn103_0
 replace p103 := eq_true p103
 replace q103 := eq_true q103
 go_enter Tryz.func60,Tryz.ntmps60
 go_wp2
 repeat (go_quiet (fail);try go_wp2)
 go_ret
 exact ⟨Z152,Z238,Z237,Z297⟩

/-! ### spec_l1Below: function 44 -/
def spec_l1Below.f (s0_0 : List Int) (s0_1 : Int) (s0_2 : Int) (a1 : Int) : Option (Int × Int × Int) := if a1 ≤ 0 then (some (0,s0_1,s0_2)) else (if a1 ≤ 256 then ((spec_l1Byte.f s0_0 s0_1 s0_2).bind fun bt104 => (if a1 = 0 then (none) else (some (Int.tmod bt104.1 a1,bt104.2.1,bt104.2.2)))) else ((spec_l1Byte.f s0_0 s0_1 s0_2).bind fun bt107 => ((spec_l1Byte.f s0_0 bt107.2.1 bt107.2.2).bind fun bt110 => ((spec_l1Byte.f s0_0 bt110.2.1 bt110.2.2).bind fun bt113 => ((spec_l1Byte.f s0_0 bt113.2.1 bt113.2.2).bind fun bt116 => (if a1 = 0 then (none) else (some (Int.tmod (wrap64 ((wrap64 ((wrap64 ((wrap64 (bt107.1 * 16777216)) + (wrap64 (bt110.1 * 65536)))) + (wrap64 (bt113.1 * 256)))) + bt116.1)) a1,bt116.2.1,bt116.2.2))))))))
set_option maxHeartbeats 8000000 in
set_option maxRecDepth 100000 in
theorem spec_l1Below.calls (g : Nat) (s0_0 : List Int) (s0_1 : Int) (s0_2 : Int) (a1 : Int) (r1 : Int) (r2 : Int) (r3 : Int) (w0 w : World) (hI : IsS65 w0 w g s0_0 s0_1 s0_2) (hB : Below w0.heap.size w0 w) (h : spec_l1Below.f s0_0 s0_1 s0_2 a1 = some (r1,r2,r3)) :
  Calls Tryz.prog 44 #[.pointer (some ⟨g,0,none⟩),.int .i64 a1] w fun e w' => e = .returned (.int .i64 r1) ∧ IsS65 w0 w' g s0_0 r2 r3 ∧ Below w0.heap.size w0 w' ∧ KeepBut w w' g none := by
 have HI0 := Aside0.mk hI
 have HK := Aside0.mk (KeepBut.refl w g none)
 have HL := Aside0.mk hB.size
 clear hI
 have HW0 := Aside0.mk hB.size
 have HB := Aside0.mk hB
 clear hB
 have H := h
 clear h
 unfold spec_l1Below.f at H
 by_cases c3 : a1 ≤ 0
 ·rw [if_pos c3] at H
  have c3b0 : decide (a1 ≤ 0) = true := decide_eq_true c3
  clear c3
  simp only [Option.some.injEq,Prod.mk.injEq] at H
  obtain ⟨rfl,rfl,rfl⟩ := H
  go_enter Tryz.func44,Tryz.ntmps44
  go_wp2
  go_ret
  exact ⟨Z152,Z238,Z237,Z297⟩
 rw [if_neg c3] at H
 have c3b0 : decide (a1 ≤ 0) = false := decide_eq_false c3
 clear c3
 by_cases c4 : a1 ≤ 256
 ·rw [if_pos c4] at H
  have c4b0 : decide (a1 ≤ 256) = true := decide_eq_true c4
  clear c4
  obtain ⟨⟨t104,t105,t106⟩,A50,H⟩ := Option.bind_eq_some_iff.mp H
  try dsimp only at H
  have A5 := Aside0.mk A50
  clear A50
  by_cases c6 : a1 = 0
  ·rw [if_pos c6] at H
   exact absurd H Z286
  rw [if_neg c6] at H
  have c6b0 : (a1 == 0) = false := beq_eq_false_iff_ne.mpr c6
  have c6b1 : (a1 != 0) = true := bne_iff_ne.mpr c6
  simp only [Option.some.injEq,Prod.mk.injEq] at H
  obtain ⟨rfl,rfl,rfl⟩ := H
  go_enter Tryz.func44,Tryz.ntmps44
  go_wp2_with (first | ((with_reducible refine gate_callee (f := 60) rfl ?_);refine goesL_ (some 14) rfl rfl Tryz.func60 Z190 rfl #[.pointer (some ⟨g,0,none⟩)] rfl Z130 ?_;(with_reducible refine (spec_l1Byte.calls g s0_0 s0_1 s0_2 t104 t105 t106 w0 _ ?side1 ?side2 A5.out).mono ?_);(case side1 => exact Z238);(case side2 => exact Z237);rintro e wq1 ⟨rfl,hi,hb,hk⟩;refine ⟨_,rfl,?_⟩;have n_ := Z90;clear HK HB HI0;obtain ⟨HK,HB,HI0⟩ := n_;(try clear hb);(try clear hb2);(try clear hk);(try clear hi)))
  go_ret
  exact ⟨Z152,Z238,Z237,Z297⟩
 rw [if_neg c4] at H
 have c4b0 : decide (a1 ≤ 256) = false := decide_eq_false c4
 clear c4
 obtain ⟨⟨t107,t108,t109⟩,A80,H⟩ := Option.bind_eq_some_iff.mp H
 try dsimp only at H
 have A8 := Aside0.mk A80
 clear A80
 obtain ⟨⟨t110,t111,t112⟩,A90,H⟩ := Option.bind_eq_some_iff.mp H
 try dsimp only at H
 have A9 := Aside0.mk A90
 clear A90
 obtain ⟨⟨t113,t114,t115⟩,A100,H⟩ := Option.bind_eq_some_iff.mp H
 try dsimp only at H
 have A10 := Aside0.mk A100
 clear A100
 obtain ⟨⟨t116,t117,t118⟩,A110,H⟩ := Option.bind_eq_some_iff.mp H
 try dsimp only at H
 have A11 := Aside0.mk A110
 clear A110
 by_cases c12 : a1 = 0
 ·rw [if_pos c12] at H
  exact absurd H Z286
 rw [if_neg c12] at H
 have c12b0 : (a1 == 0) = false := beq_eq_false_iff_ne.mpr c12
 have c12b1 : (a1 != 0) = true := bne_iff_ne.mpr c12
 simp only [Option.some.injEq,Prod.mk.injEq] at H
 obtain ⟨rfl,rfl,rfl⟩ := H
 go_enter Tryz.func44,Tryz.ntmps44
 go_wp2_with (first | ((with_reducible refine gate_callee (f := 60) rfl ?_);refine goesL_ (some 18) rfl rfl Tryz.func60 Z190 rfl #[.pointer (some ⟨g,0,none⟩)] rfl Z130 ?_;(with_reducible refine (spec_l1Byte.calls g s0_0 s0_1 s0_2 t107 t108 t109 w0 _ ?side1 ?side2 A8.out).mono ?_);(case side1 => exact Z238);(case side2 => exact Z237);rintro e wq1 ⟨rfl,hi,hb,hk⟩;refine ⟨_,rfl,?_⟩;have n_ := Z90;clear HK HB HI0;obtain ⟨HK,HB,HI0⟩ := n_;(try clear hb);(try clear hb2);(try clear hk);(try clear hi)) | ((with_reducible refine gate_callee (f := 60) rfl ?_);refine goesL_ (some 20) rfl rfl Tryz.func60 Z190 rfl #[.pointer (some ⟨g,0,none⟩)] rfl Z130 ?_;(with_reducible refine (spec_l1Byte.calls g s0_0 t108 t109 t110 t111 t112 w0 _ ?side1 ?side2 A9.out).mono ?_);(case side1 => exact Z238);(case side2 => exact Z237);rintro e wq2 ⟨rfl,hi,hb,hk⟩;refine ⟨_,rfl,?_⟩;have n_ := Z90;clear HK HB HI0;obtain ⟨HK,HB,HI0⟩ := n_;(try clear hb);(try clear hb2);(try clear hk);(try clear hi)) | ((with_reducible refine gate_callee (f := 60) rfl ?_);refine goesL_ (some 22) rfl rfl Tryz.func60 Z190 rfl #[.pointer (some ⟨g,0,none⟩)] rfl Z130 ?_;(with_reducible refine (spec_l1Byte.calls g s0_0 t111 t112 t113 t114 t115 w0 _ ?side1 ?side2 A10.out).mono ?_);(case side1 => exact Z238);(case side2 => exact Z237);rintro e wq3 ⟨rfl,hi,hb,hk⟩;refine ⟨_,rfl,?_⟩;have n_ := Z90;clear HK HB HI0;obtain ⟨HK,HB,HI0⟩ := n_;(try clear hb);(try clear hb2);(try clear hk);(try clear hi)) | ((with_reducible refine gate_callee (f := 60) rfl ?_);refine goesL_ (some 24) rfl rfl Tryz.func60 Z190 rfl #[.pointer (some ⟨g,0,none⟩)] rfl Z130 ?_;(with_reducible refine (spec_l1Byte.calls g s0_0 t114 t115 t116 t117 t118 w0 _ ?side1 ?side2 A11.out).mono ?_);(case side1 => exact Z238);(case side2 => exact Z237);rintro e wq4 ⟨rfl,hi,hb,hk⟩;refine ⟨_,rfl,?_⟩;have n_ := Z90;clear HK HB HI0;obtain ⟨HK,HB,HI0⟩ := n_;(try clear hb);(try clear hb2);(try clear hk);(try clear hi)))
 go_ret
 exact ⟨Z152,Z238,Z237,Z297⟩

/-! ### spec_l1Once: function 59 -/
def spec_l1Once.f (s0_0 : List Int) (s0_1 : Int) (s0_2 : Int) (a1 : Int) : Option (Bool × Int × Int) := (spec_l1Below.f s0_0 s0_1 s0_2 a1).bind fun bt119 => (some ((bt119.1 == 0),bt119.2.1,bt119.2.2))
set_option maxHeartbeats 8000000 in
set_option maxRecDepth 100000 in
theorem spec_l1Once.calls (g : Nat) (s0_0 : List Int) (s0_1 : Int) (s0_2 : Int) (a1 : Int) (r1 : Bool) (r2 : Int) (r3 : Int) (w0 w : World) (hI : IsS65 w0 w g s0_0 s0_1 s0_2) (hB : Below w0.heap.size w0 w) (h : spec_l1Once.f s0_0 s0_1 s0_2 a1 = some (r1,r2,r3)) :
  Calls Tryz.prog 59 #[.pointer (some ⟨g,0,none⟩),.int .i64 a1] w fun e w' => e = .returned (.bool r1) ∧ IsS65 w0 w' g s0_0 r2 r3 ∧ Below w0.heap.size w0 w' ∧ KeepBut w w' g none := by
 have HI0 := Aside0.mk hI
 have HK := Aside0.mk (KeepBut.refl w g none)
 have HL := Aside0.mk hB.size
 clear hI
 have HW0 := Aside0.mk hB.size
 have HB := Aside0.mk hB
 clear hB
 have H := h
 clear h
 unfold spec_l1Once.f at H
 obtain ⟨⟨t119,t120,t121⟩,A30,H⟩ := Option.bind_eq_some_iff.mp H
 try dsimp only at H
 have A3 := Aside0.mk A30
 clear A30
 simp only [Option.some.injEq,Prod.mk.injEq] at H
 obtain ⟨rfl,rfl,rfl⟩ := H
 go_enter Tryz.func59,Tryz.ntmps59
 go_wp2_with (first | ((with_reducible refine gate_callee (f := 44) rfl ?_);refine goesL_ (some 7) rfl rfl Tryz.func44 Z190 rfl #[.pointer (some ⟨g,0,none⟩),.int .i64 a1] rfl Z130 ?_;(with_reducible refine (spec_l1Below.calls g s0_0 s0_1 s0_2 a1 t119 t120 t121 w0 _ ?side1 ?side2 A3.out).mono ?_);(case side1 => exact Z238);(case side2 => exact Z237);rintro e wq1 ⟨rfl,hi,hb,hk⟩;refine ⟨_,rfl,?_⟩;have n_ := Z90;clear HK HB HI0;obtain ⟨HK,HB,HI0⟩ := n_;(try clear hb);(try clear hb2);(try clear hk);(try clear hi)))
 go_ret
 exact ⟨Z152,Z238,Z237,Z297⟩

end Go.Proofs.YtepnbcdbagjmbaeGreatDoor.QFnConfig
