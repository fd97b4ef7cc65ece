/- The machine side of FnExactGridOf: what each Go function that it reaches comes to. Conditions: none. -/
import Derived.Test.YtnidkpkfkklkaaaQFnExactGridOfx0
import Derived.Test.YtnidkpkfkklkaaaQFnExactGridOfx12
namespace Go.Proofs.Ytnidkpkfkklkaaa.QFnExactGridOf
open Go.RowKit Go.Proofs.YtnidkpkfkklkaaaW.PrintWords Go.Proofs.YtnidkpkfkklkaaaW.PrintLast Go.Proofs.YtnidkpkfkklkaaaW.PrintMore
attribute [local go_sem] max2_int min2_int max_two min_two max_three min_three max_four min_four   -- for this text's walks alone
set_option linter.unusedVariables false
set_option linter.unusedSimpArgs false

/-! ### laws_markStringS: function 32 -/
def laws_markStringS.l0 : Nat → List ByteArray → Int → Int → Option (Int × List ByteArray)
 | 0,_,_,_ => none
 | k + 1,x0,x1,x5 => if x5 < (x0.length : Int) then ((laws_markText.f k x1).bind fun t404 => (if 0 ≤ x5 then (laws_markStringS.l0 k (x0.set (x5 : Int).toNat t404) (wrap64 (x1 + 1)) (wrap64 (x5 + 1))) else (none))) else (some (x1,x0))
def laws_markStringS.f (k : Nat) (l0 : List ByteArray) (a1 : Int) : Option (Int × List ByteArray) := laws_markStringS.l0 k l0 a1 0
theorem laws_markStringS.mono_l : ∀ k,(∀ y0 y1 y2,LeO (laws_markStringS.l0 k y0 y1 y2) (laws_markStringS.l0 (k + 1) y0 y1 y2))
 | 0 => fun _ _ _ r h => by simp [laws_markStringS.l0] at h
 | k + 1 => by
  have ih0 := laws_markStringS.mono_l k
  ·intro y0 y1 y2
   unfold laws_markStringS.l0
   repeat' first
   | (with_reducible exact ih0 _ _ _)
   | (with_reducible exact laws_markText.mono _ _)
   | (with_reducible exact LeO.refl _)
   | (with_reducible exact LeO.none _)
   | (with_reducible refine LeO.ite ?_ ?_)
   | (with_reducible refine LeO.bind ?_ (fun _ => ?_))
   | exact ih0 _ _ _
   | exact laws_markText.mono _ _
   | exact LeO.none _
   | refine LeO.ite ?_ ?_
   | refine LeO.bind ?_ (fun _ => ?_)
theorem laws_markStringS.mono : ∀ a0 a1 k,LeO (laws_markStringS.f k a0 a1) (laws_markStringS.f (k + 1) a0 a1) := by
 intro a0 a1 k
 have ih0 := laws_markStringS.mono_l k
 unfold laws_markStringS.f
 repeat' first
   | (with_reducible exact ih0 _ _ _)
   | (with_reducible exact laws_markText.mono _ _)
   | (with_reducible exact LeO.refl _)
   | (with_reducible exact LeO.none _)
   | (with_reducible refine LeO.ite ?_ ?_)
   | (with_reducible refine LeO.bind ?_ (fun _ => ?_))
   | exact ih0 _ _ _
   | exact laws_markText.mono _ _
   | exact LeO.none _
   | refine LeO.ite ?_ ?_
   | refine LeO.bind ?_ (fun _ => ?_)
set_option maxHeartbeats 8000000 in
set_option maxRecDepth 100000 in
theorem laws_markStringS.calls (k : Nat) (P0_ : Nat → Prop) (u9000_ : Value) (l0 : List ByteArray) (a1 : Int) (r1 : Int) (r2 : List ByteArray) (w0 w : World) (hB : Below w0.heap.size w0 w) (ho0 : Kd.R Kd.string 9 w w0.heap.size P0_ u9000_ l0) (h : laws_markStringS.f k l0 a1 = some (r1,r2)) :
  Calls Try.prog 32 #[u9000_,.int .i64 a1] w fun e w' => e = .returned (.int .i64 r1) ∧ Kd.R Kd.string 9 w' w0.heap.size (fun k_ => (P0_ k_ ∨ w.heap.size ≤ k_)) u9000_ r2 ∧ Below w0.heap.size w0 w' ∧ Kept w w' (fun k_ => P0_ k_) := by
 have HO0 := Aside0.mk (show Kd.R Kd.string 9 w w0.heap.size (fun k_ => (P0_ k_ ∨ w.heap.size ≤ k_)) u9000_ l0 from Kd.R_mono ho0 (fun k_ hk => (.inl hk)))
 have HK := Aside0.mk (Kept.refl w (fun k_ => P0_ k_))
 have HW0 := Aside0.mk hB.size
 have HB := Aside0.mk hB
 clear hB
 have H := h
 clear h
 unfold laws_markStringS.f at H
 have H' := Aside0.mk H
 clear H
 go_enter Try.func32,Try.ntmps32
 go_wp2
 go_loopg [1,5] k (fun kq v1 v5 w' => ∃ (x0_1 : List ByteArray) (x1_1 : Int) (x5_1 : Int),v1 = .int .i64 x1_1 ∧ v5 = .int .i64 x5_1 ∧ Aside0 (laws_markStringS.l0 kq x0_1 x1_1 x5_1 = some (r1,r2)) ∧ Aside0 (kq ≤ k) ∧ Aside0 (Kd.R Kd.string 9 w' w0.heap.size (fun k_ => (P0_ k_ ∨ w.heap.size ≤ k_)) u9000_ x0_1) ∧ Aside0 (Kept w w' (fun k_ => P0_ k_)) ∧ Aside0 (Below w0.heap.size w0 w'))
 case atStart => exact ⟨(l0),(a1),(0),Z218,Z218,H',⟨Nat.le_refl _⟩,⟨Z193⟩,⟨Z152⟩,⟨Z297⟩⟩
 case round =>
  clear H'
  try clear p2
  obtain ⟨x0_1,x1_1,x5_1,rfl,rfl,HA,HK1,HO_0,HK,HB⟩ := hrel
  cases gk with
  | zero => exact absurd HA.out (by simp [laws_markStringS.l0])
  | succ k1 =>
   have H := HA.out
   clear HA
   simp only [laws_markStringS.l0] at H
   by_cases c3 : x5_1 < (x0_1.length : Int)
   rotate_left
   ·rw [if_neg c3] at H
    have c3b0 : decide (x5_1 < (x0_1.length : Int)) = false := decide_eq_false c3
    clear c3
    simp only [Option.some.injEq,Prod.mk.injEq] at H
    obtain ⟨rfl,rfl⟩ := H
    obtain ⟨Ao11,co11,eo11⟩ := Kd.R_slice HO_0.out
    subst eo11
    go_wp2
    go_ret
    exact ⟨Z207,Z184,Z297,Z152⟩
   rw [if_pos c3] at H
   have c3b0 : decide (x5_1 < (x0_1.length : Int)) = true := decide_eq_true c3
   clear c3
   obtain ⟨t404,A40,H⟩ := Option.bind_eq_some_iff.mp H
   have A4 := Aside0.mk A40
   clear A40
   obtain ⟨c5,H⟩ := ifp H
   have c5b0 : decide (0 ≤ x5_1) = true := decide_eq_true c5
   clear c5
   obtain ⟨y405,hyy⟩ : ∃ y_ : List ByteArray,y_ = (x0_1.set (x5_1 : Int).toNat t404) := ⟨_,rfl⟩
   replace H : (laws_markStringS.l0 k1 y405 (wrap64 (x1_1 + 1)) (wrap64 (x5_1 + 1))) = some (r1,r2) := zR
   have Ny405 := Aside0.mk hyy
   clear hyy
   have H' := Aside0.mk H
   clear H
   obtain ⟨Ao7,co7,eo7⟩ := Kd.R_slice HO_0.out
   subst eo7
   go_wp2_with (first | ((with_reducible refine gate_callee (f := 48) rfl ?_);refine goesL_ (some 15) rfl rfl Try.func48 Z236 rfl #[.int .i64 x1_1] rfl Z146 ?_;(with_reducible refine (laws_markText.calls k1 x1_1 t404 _ A4.out).mono ?_);rintro e w8 ⟨rfl,hb⟩;refine ⟨_,rfl,?_⟩;have n_ := jA (Kd.R_below Z184 hb) (jA (Kept.below (S := (fun k_ => P0_ k_)) Z152 hb) (Aside0.mk (below_step Z297 hb)));clear HO_0 HK HB;obtain ⟨HO_0,HK,HB⟩ := n_;(try clear hb);(try clear hb2);(try clear hk);(try clear hi);have p6 : 0 ≤ (x5_1 : Int) := of_decide_eq_true Z217;have q6 : (x5_1 : Int) < ((x0_1.length : Int) : Int) := of_decide_eq_true Z217;obtain ⟨go6,co6,eo6,gb6,gl6,cl6,HG6⟩ := Kd.R_form HO_0.out Z237;(first | cases eo6 | (injection eo6 with ea_ en_ ec_;(first | subst ea_ | (injection ea_ with ea_;subst ea_));subst ec_;clear en_));have GB6 := Aside0.mk gb6;have GG6 := Aside0.mk HG6;clear gb6 gl6 HG6;have HMgo6 := Aside0.mk (show (P0_ go6 ∨ w.heap.size ≤ go6) from (HO_0.out.1 _ rfl));obtain ⟨hx6_0,hf6_0⟩ := Kd.R_celln (⟨#[]⟩ : ByteArray) HO_0.out (x5_1 : Int) p6 q6;replace p6 := eq_true p6;replace q6 := eq_true q6;obtain ⟨hy9_,hz9_⟩ := Kd.R_celln (⟨#[]⟩ : ByteArray) HO_0.out (x5_1 : Int) (of_decide_eq_true Z217) (of_decide_eq_true Z217);have HP9 := Kd.R_putg HO_0.out (x5_1 : Int) t404) | ((with_reducible refine gate_store (t := 9) (p := 16) rfl ?_);refine store_event (t := 9) (p := 16) (v := ?vo_w10) (w1 := (w8.setCell ⟨go6,(x5_1 : Int).toNat,none⟩ (.string t404))) ?hg ?ho ?hn ?hr ?_;(case ho => rfl);(case hg => rfl);(case hn => rfl);(case hr => exact Z219);intro w10 hw;have hg : w8.grownBy w10 (some go6) := (by rw [hw];exact HP9.2);have hp_ : Kd.R Kd.string 9 w10 w0.heap.size (fun k_ => (P0_ k_ ∨ w.heap.size ≤ k_)) (.slice (some ⟨go6,0,none⟩) x0_1.length co7) y405 := (by rw [hw,Ny405.out];exact HP9.1);clear HP9;have n_ := jA (hp_) (jA ((by rw [hw];exact below_set (HB.out) GB6.out : Below w0.heap.size w0 w10)) (Aside0.mk (Kept.of_grown (S := (fun k_ => P0_ k_)) hg Z152 (fun k_ e_ => (HO_0.out.1 k_ e_)))));clear HO_0 HB HK;obtain ⟨HO_0,HB,HK⟩ := n_;clear hg hw hp_))
   go_roundg k1
   case measure => have := HK1.out;omega
   case rel => exact ⟨(y405),(wrap64 (x1_1 + 1)),(wrap64 (x5_1 + 1)),Z218,Z218,H',⟨Z231⟩,⟨Z184⟩,⟨Z152⟩,⟨Z297⟩⟩

/-! ### laws_markIntS: function 34 -/
def laws_markIntS.l0 : Nat → List Int → Int → Int → Option (Int × List Int)
 | 0,_,_,_ => none
 | k + 1,x0,x1,x5 => if x5 < (x0.length : Int) then (if 0 ≤ x5 then (laws_markIntS.l0 k (x0.set (x5 : Int).toNat x1) (wrap64 (x1 + 1)) (wrap64 (x5 + 1))) else (none)) else (some (x1,x0))
def laws_markIntS.f (k : Nat) (l0 : List Int) (a1 : Int) : Option (Int × List Int) := laws_markIntS.l0 k l0 a1 0
theorem laws_markIntS.mono_l : ∀ k,(∀ y0 y1 y2,LeO (laws_markIntS.l0 k y0 y1 y2) (laws_markIntS.l0 (k + 1) y0 y1 y2))
 | 0 => fun _ _ _ r h => by simp [laws_markIntS.l0] at h
 | k + 1 => by
  have ih0 := laws_markIntS.mono_l k
  ·intro y0 y1 y2
   unfold laws_markIntS.l0
   repeat' first
   | (with_reducible exact ih0 _ _ _)
   | (with_reducible exact LeO.refl _)
   | (with_reducible exact LeO.none _)
   | (with_reducible refine LeO.ite ?_ ?_)
   | (with_reducible refine LeO.bind ?_ (fun _ => ?_))
   | exact ih0 _ _ _
   | exact LeO.none _
   | refine LeO.ite ?_ ?_
   | refine LeO.bind ?_ (fun _ => ?_)
theorem laws_markIntS.mono : ∀ a0 a1 k,LeO (laws_markIntS.f k a0 a1) (laws_markIntS.f (k + 1) a0 a1) := by
 intro a0 a1 k
 have ih0 := laws_markIntS.mono_l k
 unfold laws_markIntS.f
 repeat' first
   | (with_reducible exact ih0 _ _ _)
   | (with_reducible exact LeO.refl _)
   | (with_reducible exact LeO.none _)
   | (with_reducible refine LeO.ite ?_ ?_)
   | (with_reducible refine LeO.bind ?_ (fun _ => ?_))
   | exact ih0 _ _ _
   | exact LeO.none _
   | refine LeO.ite ?_ ?_
   | refine LeO.bind ?_ (fun _ => ?_)
set_option maxHeartbeats 8000000 in
set_option maxRecDepth 100000 in
theorem laws_markIntS.calls (k : Nat) (P0_ : Nat → Prop) (u9000_ : Value) (l0 : List Int) (a1 : Int) (r1 : Int) (r2 : List Int) (w0 w : World) (hB : Below w0.heap.size w0 w) (ho0 : Kd.R (Kd.int .i64) 3 w w0.heap.size P0_ u9000_ l0) (h : laws_markIntS.f k l0 a1 = some (r1,r2)) :
  Calls Try.prog 34 #[u9000_,.int .i64 a1] w fun e w' => e = .returned (.int .i64 r1) ∧ Kd.R (Kd.int .i64) 3 w' w0.heap.size (fun k_ => (P0_ k_ ∨ w.heap.size ≤ k_)) u9000_ r2 ∧ Below w0.heap.size w0 w' ∧ Kept w w' (fun k_ => P0_ k_) := by
 have HO0 := Aside0.mk (show Kd.R (Kd.int .i64) 3 w w0.heap.size (fun k_ => (P0_ k_ ∨ w.heap.size ≤ k_)) u9000_ l0 from Kd.R_mono ho0 (fun k_ hk => (.inl hk)))
 have HK := Aside0.mk (Kept.refl w (fun k_ => P0_ k_))
 have HW0 := Aside0.mk hB.size
 have HB := Aside0.mk hB
 clear hB
 have H := h
 clear h
 unfold laws_markIntS.f at H
 have H' := Aside0.mk H
 clear H
 go_enter Try.func34,Try.ntmps34
 go_wp2
 go_loopg [1,5] k (fun kq v1 v5 w' => ∃ (x0_1 : List Int) (x1_1 : Int) (x5_1 : Int),v1 = .int .i64 x1_1 ∧ v5 = .int .i64 x5_1 ∧ Aside0 (laws_markIntS.l0 kq x0_1 x1_1 x5_1 = some (r1,r2)) ∧ Aside0 (kq ≤ k) ∧ Aside0 (Kd.R (Kd.int .i64) 3 w' w0.heap.size (fun k_ => (P0_ k_ ∨ w.heap.size ≤ k_)) u9000_ x0_1) ∧ Aside0 (Kept w w' (fun k_ => P0_ k_)) ∧ Aside0 (Below w0.heap.size w0 w'))
 case atStart => exact ⟨(l0),(a1),(0),Z218,Z218,H',⟨Nat.le_refl _⟩,⟨Z193⟩,⟨Z152⟩,⟨Z297⟩⟩
 case round =>
  clear H'
  try clear p2
  obtain ⟨x0_1,x1_1,x5_1,rfl,rfl,HA,HK1,HO_0,HK,HB⟩ := hrel
  cases gk with
  | zero => exact absurd HA.out (by simp [laws_markIntS.l0])
  | succ k1 =>
   have H := HA.out
   clear HA
   simp only [laws_markIntS.l0] at H
   by_cases c3 : x5_1 < (x0_1.length : Int)
   rotate_left
   ·rw [if_neg c3] at H
    have c3b0 : decide (x5_1 < (x0_1.length : Int)) = false := decide_eq_false c3
    clear c3
    simp only [Option.some.injEq,Prod.mk.injEq] at H
    obtain ⟨rfl,rfl⟩ := H
    obtain ⟨Ao9,co9,eo9⟩ := Kd.R_slice HO_0.out
    subst eo9
    go_wp2
    go_ret
    exact ⟨Z207,Z184,Z297,Z152⟩
   rw [if_pos c3] at H
   have c3b0 : decide (x5_1 < (x0_1.length : Int)) = true := decide_eq_true c3
   clear c3
   obtain ⟨c4,H⟩ := ifp H
   have c4b0 : decide (0 ≤ x5_1) = true := decide_eq_true c4
   clear c4
   obtain ⟨y406,hyy⟩ : ∃ y_ : List Int,y_ = (x0_1.set (x5_1 : Int).toNat x1_1) := ⟨_,rfl⟩
   replace H : (laws_markIntS.l0 k1 y406 (wrap64 (x1_1 + 1)) (wrap64 (x5_1 + 1))) = some (r1,r2) := zR
   have Ny406 := Aside0.mk hyy
   clear hyy
   have H' := Aside0.mk H
   clear H
   obtain ⟨Ao6,co6,eo6⟩ := Kd.R_slice HO_0.out
   subst eo6
   have p5 : 0 ≤ (x5_1 : Int) := of_decide_eq_true Z217
   have q5 : (x5_1 : Int) < ((x0_1.length : Int) : Int) := of_decide_eq_true Z217
   obtain ⟨go5,co5,eo5,gb5,gl5,cl5,HG5⟩ := Kd.R_form HO_0.out Z237
   (first | cases eo5 | (injection eo5 with ea_ en_ ec_;(first | subst ea_ | (injection ea_ with ea_;subst ea_));subst ec_;clear en_))
   have GB5 := Aside0.mk gb5
   have GG5 := Aside0.mk HG5
   clear gb5 gl5 HG5
   have HMgo5 := Aside0.mk (show (P0_ go5 ∨ w.heap.size ≤ go5) from (HO_0.out.1 _ rfl))
   obtain ⟨hx5_0,hf5_0⟩ := Kd.R_celln 0 HO_0.out (x5_1 : Int) p5 q5
   replace p5 := eq_true p5
   replace q5 := eq_true q5
   have HP7 := Kd.R_putg HO_0.out (x5_1 : Int) x1_1
   go_wp2_with (first | ((with_reducible refine gate_store (t := 3) (p := 15) rfl ?_);refine store_event (t := 3) (p := 15) (v := ?vo_w8) (w1 := (wr.setCell ⟨go5,(x5_1 : Int).toNat,none⟩ (.int .i64 x1_1))) ?hg ?ho ?hn ?hr ?_;(case ho => rfl);(case hg => rfl);(case hn => rfl);(case hr => exact Z219);intro w8 hw;have hg : wr.grownBy w8 (some go5) := (by rw [hw];exact HP7.2);have hp_ : Kd.R (Kd.int .i64) 3 w8 w0.heap.size (fun k_ => (P0_ k_ ∨ w.heap.size ≤ k_)) (.slice (some ⟨go5,0,none⟩) x0_1.length co6) y406 := (by rw [hw,Ny406.out];exact HP7.1);clear HP7;have n_ := jA (hp_) (jA ((by rw [hw];exact below_set (HB.out) GB5.out : Below w0.heap.size w0 w8)) (Aside0.mk (Kept.of_grown (S := (fun k_ => P0_ k_)) hg Z152 (fun k_ e_ => (HO_0.out.1 k_ e_)))));clear HO_0 HB HK;obtain ⟨HO_0,HB,HK⟩ := n_;clear hg hw hp_))
   go_roundg k1
   case measure => have := HK1.out;omega
   case rel => exact ⟨(y406),(wrap64 (x1_1 + 1)),(wrap64 (x5_1 + 1)),Z218,Z218,H',⟨Z231⟩,⟨Z184⟩,⟨Z152⟩,⟨Z297⟩⟩

/-! ### laws_markIntSS: function 33 -/
def laws_markIntSS.row (xs : List (List Int)) (i : Int) : List Int := xs.getD i.toNat []
def laws_markIntSS.l0 : Nat → List (List Int) → Int → Int → Option (Int × List (List Int))
 | 0,_,_,_ => none
 | k + 1,x0,x1,x5 => if x5 < (x0.length : Int) then (if 0 ≤ x5 then ((laws_markIntS.f k (laws_markIntSS.row x0 x5) x1).bind fun t => laws_markIntSS.l0 k (x0.set (x5 : Int).toNat t.2) t.1 (wrap64 (x5 + 1))) else (none)) else (some (x1,x0))
def laws_markIntSS.f (k : Nat) (l0 : List (List Int)) (a1 : Int) : Option (Int × List (List Int)) := laws_markIntSS.l0 k l0 a1 0
theorem laws_markIntSS.mono_l : ∀ k,(∀ y0 y1 y2,LeO (laws_markIntSS.l0 k y0 y1 y2) (laws_markIntSS.l0 (k + 1) y0 y1 y2))
 | 0 => fun _ _ _ r h => by simp [laws_markIntSS.l0] at h
 | k + 1 => by
  have ih0 := laws_markIntSS.mono_l k
  intro y0 y1 y2
  unfold laws_markIntSS.l0
  repeat' first
   | (with_reducible exact ih0 _ _ _)
   | (with_reducible exact LeO.refl _)
   | (with_reducible exact LeO.none _)
   | (with_reducible exact laws_markIntS.mono _ _ _)
   | (with_reducible refine LeO.ite ?_ ?_)
   | (with_reducible refine LeO.bind ?_ (fun _ => ?_))
   | exact ih0 _ _ _
   | exact LeO.none _
   | exact laws_markIntS.mono _ _ _
   | refine LeO.ite ?_ ?_
   | refine LeO.bind ?_ (fun _ => ?_)
theorem laws_markIntSS.mono : ∀ a0 a1 k,LeO (laws_markIntSS.f k a0 a1) (laws_markIntSS.f (k + 1) a0 a1) := fun a0 a1 k => laws_markIntSS.mono_l k a0 a1 0
/-- Element i,lent to one call that writes it. -/
theorem laws_markIntSS.lend {W : World} {base : Nat} {ok : Nat → Prop} {g n cap : Nat} {xs : List (List Int)} (h : Kd.S (Kd.slice 3 (Kd.int .i64)) 24 W base ok (.slice (some ⟨g,0,none⟩) n cap) xs) (i : Int) (h0 : 0 ≤ i) (h1 : i < n) :
  ∃ (oki : Nat → Prop) (A : Option Addr) (c : Nat),W.cell? ⟨g,i.toNat,none⟩ = some (.slice A (laws_markIntSS.row xs i).length c) ∧ Kd.R (Kd.int .i64) 3 W base oki (.slice A (laws_markIntSS.row xs i).length c) (laws_markIntSS.row xs i) ∧ (∀ k,oki k → ok k) ∧
   ∀ (w1 : World) (r : List Int) (okp : Nat → Prop),Kd.R (Kd.int .i64) 3 w1 base okp (.slice A (laws_markIntSS.row xs i).length c) r → Kept W w1 (fun k_ => oki k_) → Kd.S (Kd.slice 3 (Kd.int .i64)) 24 w1 base ok (.slice (some ⟨g,0,none⟩) n cap) (xs.set i.toNat r) := by
 obtain ⟨oki,c,hcl,hM,hcc,hoki,hH⟩ := Kd.S_lend h [] i h0 h1
 obtain ⟨v,rfl,hR⟩ := hM
 obtain ⟨A,cc,rfl⟩ := Kd.R_slice hR
 refine ⟨oki,A,cc,?_,hR,fun k hk => (hoki k hk).1,fun w1 r okp h1 hk => ?_⟩
 ·have := hcc 0 _ rfl
  simp only [Kd.slice,Nat.mul_one,Nat.add_zero] at this
  exact this
 exact Kd.H_back (Kd.H_kept hH hk (fun k _ hn => hn)) ⟨_,rfl,Kd.R_reok rfl h1 (fun k e => hR.1 k e)⟩ (fun k hk => hk)
set_option maxHeartbeats 8000000 in
set_option maxRecDepth 100000 in
theorem laws_markIntSS.calls (k : Nat) (P0_ : Nat → Prop) (u9000_ : Value) (l0 : List (List Int)) (a1 : Int) (r1 : Int) (r2 : List (List Int)) (w0 w : World) (hB : Below w0.heap.size w0 w) (ho0 : Kd.S (Kd.slice 3 (Kd.int .i64)) 24 w w0.heap.size P0_ u9000_ l0) (h : laws_markIntSS.f k l0 a1 = some (r1,r2)) :
  Calls Try.prog 33 #[u9000_,.int .i64 a1] w fun e w' => e = .returned (.int .i64 r1) ∧ Kd.S (Kd.slice 3 (Kd.int .i64)) 24 w' w0.heap.size P0_ u9000_ r2 ∧ Below w0.heap.size w0 w' ∧ Kept w w' (fun k_ => P0_ k_) := by
 have HO0 := Aside0.mk ho0
 clear ho0
 have HK := Aside0.mk (Kept.refl w (fun k_ => P0_ k_))
 have HB := Aside0.mk hB
 clear hB
 have H := h
 clear h
 unfold laws_markIntSS.f at H
 have H' := Aside0.mk H
 clear H
 go_enter Try.func33,Try.ntmps33
 go_wp2
 go_loopg [1,5] k (fun kq v1 v5 w' => ∃ (x0_1 : List (List Int)) (x1_1 : Int) (x5_1 : Int),v1 = .int .i64 x1_1 ∧ v5 = .int .i64 x5_1 ∧ Aside0 (laws_markIntSS.l0 kq x0_1 x1_1 x5_1 = some (r1,r2)) ∧ Aside0 (kq ≤ k) ∧ Aside0 (Kd.S (Kd.slice 3 (Kd.int .i64)) 24 w' w0.heap.size P0_ u9000_ x0_1) ∧ Aside0 (Kept w w' (fun k_ => P0_ k_)) ∧ Aside0 (Below w0.heap.size w0 w'))
 case atStart => exact ⟨(l0),(a1),(0),Z218,Z218,H',⟨Nat.le_refl _⟩,⟨by (with_reducible repeat (first | apply Kd.S_alloc | apply Kd.S_drewN | apply Kd.S_drew));exact HO0.out⟩,⟨Z152⟩,⟨Z297⟩⟩
 case round =>
  clear H'
  obtain ⟨x0_1,x1_1,x5_1,rfl,rfl,HA,HK1,HO_0,HK,HB⟩ := hrel
  cases gk with
  | zero => exact absurd HA.out (by simp [laws_markIntSS.l0])
  | succ k1 =>
   have H := HA.out
   clear HA
   simp only [laws_markIntSS.l0] at H
   by_cases c3 : x5_1 < (x0_1.length : Int)
   rotate_left
   ·rw [if_neg c3] at H
    have c3b0 : decide (x5_1 < (x0_1.length : Int)) = false := decide_eq_false c3
    clear c3
    simp only [Option.some.injEq,Prod.mk.injEq] at H
    obtain ⟨rfl,rfl⟩ := H
    obtain ⟨Ao9,co9,eo9⟩ := Kd.S_slice HO_0.out
    subst eo9
    go_wp2
    go_ret
    exact ⟨Z207,Z186,Z297,Z152⟩
   rw [if_pos c3] at H
   have c3b0 : decide (x5_1 < (x0_1.length : Int)) = true := decide_eq_true c3
   obtain ⟨c4,H⟩ := ifp H
   have c4b0 : decide (0 ≤ x5_1) = true := decide_eq_true c4
   obtain ⟨⟨t1,t2⟩,A50,H⟩ := Option.bind_eq_some_iff.mp H
   try dsimp only at H
   have A5 := Aside0.mk A50
   clear A50
   have H' := Aside0.mk H
   clear H
   obtain ⟨go5,co5,eo5,_,_,_⟩ := Kd.S_form HO_0.out Z237
   subst eo5
   obtain ⟨oki,Ai,ci,hx5_0,hR,hoki,hback⟩ := laws_markIntSS.lend HO_0.out x5_1 c4 c3
   have HRi := Aside0.mk hR
   have HBk := Aside0.mk hback
   have HOk := Aside0.mk hoki
   clear hR hback hoki
   have p5 := eq_true c4
   have q5 := eq_true c3
   clear c3 c4
   go_wp2_with (first | ((with_reducible refine gate_callee (f := 34) rfl ?_);refine goesL_ (some 17) rfl rfl Try.func34 Z236 rfl #[.slice Ai (laws_markIntSS.row x0_1 x5_1).length ci,.int .i64 x1_1] rfl Z146 ?_;(with_reducible refine (laws_markIntS.calls k1 (fun k_ => oki k_) (.slice Ai (laws_markIntSS.row x0_1 x5_1).length ci) (laws_markIntSS.row x0_1 x5_1) x1_1 t1 t2 w0 _ ?side1 ?side2 A5.out).mono ?_);(case side1 => exact HB.out);(case side2 => exact HRi.out);rintro e w17 ⟨rfl,hy0,hb,hkp⟩;refine ⟨_,rfl,?_⟩;have n0_ := Aside0.mk (HBk.out _ _ _ hy0 hkp);have n1_ := Aside0.mk (Kept.then_ HK.out hkp (fun k_ h_ => .inl (HOk.out k_ h_)));have n2_ := Aside0.mk hb;clear HO_0 HK HB HRi HBk hx5_0;have HO_0 := n0_;have HK := n1_;have HB := n2_;clear n0_ n1_ n2_ hy0 hkp hb))
   go_roundg k1
   case measure => have := HK1.out;omega
   case rel => exact ⟨_,t1,(wrap64 (x5_1 + 1)),Z218,Z218,H',⟨Z231⟩,⟨Z186⟩,⟨Z152⟩,⟨Z297⟩⟩

/-! ### laws_markTable: function 10 -/
def laws_markTable.f (k : Nat) (l0 : List ByteArray) (_a : ByteArray) (l2 : List (List Int)) (l3 : List Int) (a1 : Int) : Option (Int × List ByteArray × List (List Int) × List Int) := (laws_markStringS.f k l0 a1).bind fun t => (laws_markIntSS.f k l2 t.1).bind fun s => (laws_markIntS.f k l3 s.1).bind fun q => some (q.1,t.2,s.2,q.2)
theorem laws_markTable.mono : ∀ a0 a1 a2 a3 a4 k,LeO (laws_markTable.f k a0 a1 a2 a3 a4) (laws_markTable.f (k + 1) a0 a1 a2 a3 a4) := by
 intro a0 a1 a2 a3 a4 k
 unfold laws_markTable.f
 exact LeO.bind (laws_markStringS.mono _ _ _) (fun _ => LeO.bind (laws_markIntSS.mono _ _ _) (fun _ => LeO.bind (laws_markIntS.mono _ _ _) (fun _ => LeO.refl _)))
set_option maxHeartbeats 8000000 in
set_option maxRecDepth 100000 in
theorem laws_markTable.calls (k : Nat) (P0_ : Nat → Prop) (u0_ : Value) (l0 : List ByteArray) (a0_1 : ByteArray) (P2_ : Nat → Prop) (u2_ : Value) (l2 : List (List Int)) (P3_ : Nat → Prop) (u3_ : Value) (l3 : List Int) (a1 : Int) (r1 : Int) (r2 : List ByteArray) (r3 : List (List Int)) (r4 : List Int) (w0 w : World) (hB : Below w0.heap.size w0 w)
  (ho0 : Kd.R Kd.string 9 w w0.heap.size P0_ u0_ l0) (ho2 : Kd.S (Kd.slice 3 (Kd.int .i64)) 24 w w0.heap.size P2_ u2_ l2) (hap : ∀ k_,P2_ k_ → ¬ P3_ k_) (ho3 : Kd.R (Kd.int .i64) 3 w w0.heap.size P3_ u3_ l3) (_ : ∀ k_,P3_ k_ → ¬ P2_ k_) (h : laws_markTable.f k l0 a0_1 l2 l3 a1 = some (r1,r2,r3,r4)) :
  Calls Try.prog 10 #[.agg #[u0_,.string a0_1,u2_,u3_],.int .i64 a1] w fun e w' => e = .returned (.int .i64 r1) ∧ Kd.R Kd.string 9 w' w0.heap.size P0_ u0_ r2 ∧ Kd.S (Kd.slice 3 (Kd.int .i64)) 24 w' w0.heap.size P2_ u2_ r3 ∧ Kd.R (Kd.int .i64) 3 w' w0.heap.size P3_ u3_ r4 ∧ Below w0.heap.size w0 w' ∧ Kept w w' (fun k_ => P0_ k_ ∨ P2_ k_ ∨ P3_ k_) := by
 unfold laws_markTable.f at h
 obtain ⟨⟨t1,t2⟩,A1,h⟩ := Option.bind_eq_some_iff.mp h
 dsimp only at h
 obtain ⟨⟨s1,s2⟩,A2,h⟩ := Option.bind_eq_some_iff.mp h
 dsimp only at h
 obtain ⟨⟨q1,q2⟩,A3,h⟩ := Option.bind_eq_some_iff.mp h
 simp only [Option.some.injEq,Prod.mk.injEq] at h
 obtain ⟨rfl,rfl,rfl,rfl⟩ := h
 have A1 := Aside0.mk A1
 have A2 := Aside0.mk A2
 have A3 := Aside0.mk A3
 obtain ⟨Aa,ca,rfl⟩ := Kd.R_slice ho0
 obtain ⟨Ab,cb,rfl⟩ := Kd.S_slice ho2
 obtain ⟨Ac,cc,rfl⟩ := Kd.R_slice ho3
 have ta := Kd.R_tight rfl ho0
 have tb := Kd.S_bound ho2
 have tc := Kd.R_tight rfl ho3
 have ya := Kd.R_typed ho0
 have yc := Kd.R_typed ho3
 have la := Kd.R_lt ho0
 have lc := Kd.R_lt ho3
 have pa := ho0.1
 have pc := ho3.1
 clear ho0 ho2 ho3
 generalize hPA : (fun k_ => some k_ = (Value.slice Aa l0.length ca).ownBlock) = PA at ta
 generalize hPC : (fun k_ => some k_ = (Value.slice Ac l3.length cc).ownBlock) = PC at tc
 generalize hPB : (fun k_ => P2_ k_ ∧ w0.heap.size ≤ k_ ∧ k_ < w.heap.size ∧ ∃ q,q ∈ 24 :: (Kd.slice 3 (Kd.int .i64)).E ∧ ∃ cells,w.heap[k_]? = some (.cells cells q (0,0))) = PB at tb
 have eA : ∀ k_,PA k_ ↔ some k_ = (Value.slice Aa l0.length ca).ownBlock := fun k_ => by rw [← hPA]
 have eC : ∀ k_,PC k_ ↔ some k_ = (Value.slice Ac l3.length cc).ownBlock := fun k_ => by rw [← hPC]
 have bP : ∀ k_,PB k_ → P2_ k_ := fun k_ h_ => by rw [← hPB] at h_;exact h_.1
 have bL : ∀ k_,PB k_ → k_ < w.heap.size := fun k_ h_ => by rw [← hPB] at h_;exact h_.2.2.1
 have bT : ∀ k_,PB k_ → ∃ q,(q = 24 ∨ q = 3) ∧ ∃ cells,w.heap[k_]? = some (.cells cells q (0,0)) := fun k_ h_ => by
  rw [← hPB] at h_
  obtain ⟨_,_,_,q,hq,hc⟩ := h_
  refine ⟨q,?_,hc⟩
  simpa [Kd.slice,Kd.int,Kd.scalar] using hq
 have aL : ∀ k_,PA k_ → k_ < w.heap.size := fun k_ h_ => la k_ ((eA k_).1 h_).symm
 have cL : ∀ k_,PC k_ → k_ < w.heap.size := fun k_ h_ => lc k_ ((eC k_).1 h_).symm
 have nAB : ∀ k_,PA k_ → ¬ PB k_ := fun k_ h1 h2 => by
  obtain ⟨c1,e1⟩ := ya k_ ((eA k_).1 h1).symm
  obtain ⟨q,hq,c2,e2⟩ := bT k_ h2
  rw [e1] at e2
  injection e2 with e2
  injection e2 with _ e2 _
  rcases hq with rfl | rfl <;> exact absurd e2 Z293
 have nAC : ∀ k_,PA k_ → ¬ PC k_ := fun k_ h1 h2 => by
  obtain ⟨c1,e1⟩ := ya k_ ((eA k_).1 h1).symm
  obtain ⟨c2,e2⟩ := yc k_ ((eC k_).1 h2).symm
  rw [e1] at e2
  injection e2 with e2
  injection e2 with _ e2 _
  exact absurd e2 Z293
 have nBC : ∀ k_,PB k_ → ¬ PC k_ := fun k_ h1 h2 => hap k_ (bP k_ h1) (pc k_ ((eC k_).1 h2).symm)
 have aP : ∀ k_,PA k_ → P0_ k_ := fun k_ h_ => pa k_ ((eA k_).1 h_).symm
 have cP : ∀ k_,PC k_ → P3_ k_ := fun k_ h_ => pc k_ ((eC k_).1 h_).symm
 clear eA eC bT ya yc la lc hap hPA hPB hPC pa pc
 have HA := Aside0.mk ta
 have HBB := Aside0.mk tb
 have HC := Aside0.mk tc
 have HB := Aside0.mk hB
 have HK := Aside0.mk (Kept.refl w (fun k_ => P0_ k_ ∨ P2_ k_ ∨ P3_ k_))
 have N1 := Aside0.mk nAB
 have N2 := Aside0.mk nAC
 have N3 := Aside0.mk nBC
 have L1 := Aside0.mk aL
 have L2 := Aside0.mk bL
 have L3 := Aside0.mk cL
 have Q1 := Aside0.mk aP
 have Q2 := Aside0.mk bP
 have Q3 := Aside0.mk cP
 clear ta tb tc hB nAB nAC nBC aL bL cL aP bP cP
 go_enter Try.func10,Try.ntmps10
 go_wp2_with (first | ((with_reducible refine gate_dst (N := 2) rfl ?_);refine bE 2 #[.slice Aa l0.length ca,.string a0_1,.slice Ab l2.length cb,.slice Ac l3.length cc] 31 (h := ?_);intro g hg wq1 hbox hb;have n0_ := Aside0.mk (Kd.R_below HA.out hb);have n1_ := Aside0.mk (Kd.S_below HBB.out hb);have n2_ := Aside0.mk (Kd.R_below HC.out hb);have n3_ := Aside0.mk (below_step HB.out hb);have n4_ := Aside0.mk (Kept.below HK.out hb);have BK := Aside0.mk hbox;have GN := Aside0.mk (show ∀ k_,k_ < w.heap.size → k_ ≠ g from fun k_ h_ e_ => by rw [e_,hg] at h_;exact absurd h_ (Nat.lt_irrefl _));clear HA HBB HC HB HK hb hbox hg;have HA := n0_;have HBB := n1_;have HC := n2_;have HB := n3_;have HK := n4_;clear n0_ n1_ n2_ n3_ n4_;have hcq2 : wq1.cell? ⟨g,0,none⟩ = some (.slice Aa l0.length ca) := (blk_cell BK.out 0).trans rfl;have hcq3 : wq1.cell? ⟨g,2,none⟩ = some (.slice Ab l2.length cb) := (blk_cell BK.out 2).trans rfl;have hcq4 : wq1.cell? ⟨g,3,none⟩ = some (.slice Ac l3.length cc) := (blk_cell BK.out 3).trans rfl) | ((with_reducible refine gate_callee (f := 32) rfl ?_);refine goesL_ (some 8) rfl rfl Try.func32 Z236 rfl #[.slice Aa l0.length ca,.int .i64 a1] rfl Z280 ?_;(with_reducible refine (laws_markStringS.calls k PA (.slice Aa l0.length ca) l0 a1 t1 t2 w0 _ ?side1 ?side2 A1.out).mono ?_);(case side1 => exact HB.out);(case side2 => exact HA.out);rintro e wq3 ⟨rfl,hyq2,hb,hkp⟩;refine ⟨_,rfl,?_⟩;have n0_ := Aside0.mk (Kd.R_reok rfl hyq2 (fun k_ e_ => HA.out.1 k_ e_));have n1_ := Aside0.mk (Kd.S_kept HBB.out hkp (fun k_ h1_ h2_ => N1.out k_ h2_ h1_));have n2_ := Aside0.mk (Kd.R_kept HC.out hkp (fun k_ h1_ h2_ => N2.out k_ h2_ h1_));have n3_ := Aside0.mk hb;have n4_ := Aside0.mk (Kept.then_ HK.out hkp (fun k_ h_ => .inl (.inl (Q1.out k_ h_))));have n5_ := Aside0.mk (blk_kept BK.out hkp (fun h_ => GN.out _ (L1.out _ h_) rfl));clear HA HBB HC HB HK BK hcq2 hcq3 hcq4;have HA := n0_;have HBB := n1_;have HC := n2_;have HB := n3_;have HK := n4_;have BK := n5_;clear n0_ n1_ n2_ n3_ n4_ n5_ hyq2 hb hkp;have hcq3 : wq3.cell? ⟨g,2,none⟩ = some (.slice Ab l2.length cb) := (blk_cell BK.out 2).trans rfl;have hcq4 : wq3.cell? ⟨g,3,none⟩ = some (.slice Ac l3.length cc) := (blk_cell BK.out 3).trans rfl) | ((with_reducible refine gate_callee (f := 33) rfl ?_);refine goesL_ (some 12) rfl rfl Try.func33 Z236 rfl #[.slice Ab l2.length cb,.int .i64 t1] rfl Z280 ?_;(with_reducible refine (laws_markIntSS.calls k PB (.slice Ab l2.length cb) l2 t1 s1 s2 w0 _ ?side1 ?side2 A2.out).mono ?_);(case side1 => exact HB.out);(case side2 => exact HBB.out);rintro e wq4 ⟨rfl,hyq2,hb,hkp⟩;refine ⟨_,rfl,?_⟩;have n0_ := Aside0.mk (Kd.R_kept HA.out hkp (fun k_ h1_ h2_ => N1.out k_ h1_ h2_));have n1_ := Aside0.mk hyq2;have n2_ := Aside0.mk (Kd.R_kept HC.out hkp (fun k_ h1_ h2_ => N3.out k_ h2_ h1_));have n3_ := Aside0.mk hb;have n4_ := Aside0.mk (Kept.then_ HK.out hkp (fun k_ h_ => .inl (.inr (.inl (Q2.out k_ h_)))));have n5_ := Aside0.mk (blk_kept BK.out hkp (fun h_ => GN.out _ (L2.out _ h_) rfl));clear HA HBB HC HB HK BK hcq3 hcq4;have HA := n0_;have HBB := n1_;have HC := n2_;have HB := n3_;have HK := n4_;have BK := n5_;clear n0_ n1_ n2_ n3_ n4_ n5_ hyq2 hb hkp;have hcq4 : wq4.cell? ⟨g,3,none⟩ = some (.slice Ac l3.length cc) := (blk_cell BK.out 3).trans rfl) | ((with_reducible refine gate_callee (f := 34) rfl ?_);refine goesL_ (some 16) rfl rfl Try.func34 Z236 rfl #[.slice Ac l3.length cc,.int .i64 s1] rfl Z280 ?_;(with_reducible refine (laws_markIntS.calls k PC (.slice Ac l3.length cc) l3 s1 q1 q2 w0 _ ?side1 ?side2 A3.out).mono ?_);(case side1 => exact HB.out);(case side2 => exact HC.out);rintro e wq5 ⟨rfl,hyq2,hb,hkp⟩;refine ⟨_,rfl,?_⟩;have n0_ := Aside0.mk (Kd.R_kept HA.out hkp (fun k_ h1_ h2_ => N2.out k_ h1_ h2_));have n1_ := Aside0.mk (Kd.S_kept HBB.out hkp (fun k_ h1_ h2_ => N3.out k_ h1_ h2_));have n2_ := Aside0.mk (Kd.R_reok rfl hyq2 (fun k_ e_ => HC.out.1 k_ e_));have n3_ := Aside0.mk hb;have n4_ := Aside0.mk (Kept.then_ HK.out hkp (fun k_ h_ => .inl (.inr (.inr (Q3.out k_ h_)))));clear HA HBB HC HB HK BK hcq4;have HA := n0_;have HBB := n1_;have HC := n2_;have HB := n3_;have HK := n4_;clear n0_ n1_ n2_ n3_ n4_ hyq2 hb hkp))
 go_ret
 exact ⟨rfl,Kd.R_mono HA.out Q1.out,Kd.S_mono HBB.out Q2.out,Kd.R_mono HC.out Q3.out,HB.out,HK.out⟩

/-! ### laws_markGrid: function 11 -/
def laws_markGrid.f (k : Nat) (l0 l1 : List (List Int)) (a1 : Int) : Option (Int × List (List Int) × List (List Int)) := (laws_markIntSS.f k l0 a1).bind fun t => (laws_markIntSS.f k l1 t.1).bind fun s => some (s.1,t.2,s.2)
theorem laws_markGrid.mono : ∀ a0 a1 a2 k,LeO (laws_markGrid.f k a0 a1 a2) (laws_markGrid.f (k + 1) a0 a1 a2) := by
 intro a0 a1 a2 k
 unfold laws_markGrid.f
 exact LeO.bind (laws_markIntSS.mono _ _ _) (fun _ => LeO.bind (laws_markIntSS.mono _ _ _) (fun _ => LeO.refl _))
set_option maxHeartbeats 8000000 in
set_option maxRecDepth 100000 in
theorem laws_markGrid.calls (k : Nat) (P0_ : Nat → Prop) (u0_ : Value) (l0 : List (List Int)) (P1_ : Nat → Prop) (u1_ : Value) (l1 : List (List Int)) (a1 : Int) (r1 : Int) (r2 r3 : List (List Int)) (w0 w : World) (hB : Below w0.heap.size w0 w)
  (ho0 : Kd.S (Kd.slice 3 (Kd.int .i64)) 24 w w0.heap.size P0_ u0_ l0) (hap : ∀ k_,P0_ k_ → ¬ P1_ k_) (ho1 : Kd.S (Kd.slice 3 (Kd.int .i64)) 24 w w0.heap.size P1_ u1_ l1) (_ : ∀ k_,P1_ k_ → ¬ P0_ k_) (h : laws_markGrid.f k l0 l1 a1 = some (r1,r2,r3)) :
  Calls Try.prog 11 #[.agg #[u0_,u1_],.int .i64 a1] w fun e w' => e = .returned (.int .i64 r1) ∧ Kd.S (Kd.slice 3 (Kd.int .i64)) 24 w' w0.heap.size P0_ u0_ r2 ∧ Kd.S (Kd.slice 3 (Kd.int .i64)) 24 w' w0.heap.size P1_ u1_ r3 ∧ Below w0.heap.size w0 w' ∧ Kept w w' (fun k_ => P0_ k_ ∨ P1_ k_) := by
 unfold laws_markGrid.f at h
 obtain ⟨⟨t1,t2⟩,A1,h⟩ := Option.bind_eq_some_iff.mp h
 dsimp only at h
 obtain ⟨⟨s1,s2⟩,A2,h⟩ := Option.bind_eq_some_iff.mp h
 simp only [Option.some.injEq,Prod.mk.injEq] at h
 obtain ⟨rfl,rfl,rfl⟩ := h
 have A1 := Aside0.mk A1
 have A2 := Aside0.mk A2
 obtain ⟨Aa,ca,rfl⟩ := Kd.S_slice ho0
 obtain ⟨Ab,cb,rfl⟩ := Kd.S_slice ho1
 have ta := Kd.S_bound ho0
 have tb := Kd.S_bound ho1
 clear ho0 ho1
 generalize hPA : (fun k_ => P0_ k_ ∧ w0.heap.size ≤ k_ ∧ k_ < w.heap.size ∧ ∃ q,q ∈ 24 :: (Kd.slice 3 (Kd.int .i64)).E ∧ ∃ cells,w.heap[k_]? = some (.cells cells q (0,0))) = PA at ta
 generalize hPB : (fun k_ => P1_ k_ ∧ w0.heap.size ≤ k_ ∧ k_ < w.heap.size ∧ ∃ q,q ∈ 24 :: (Kd.slice 3 (Kd.int .i64)).E ∧ ∃ cells,w.heap[k_]? = some (.cells cells q (0,0))) = PB at tb
 have aP : ∀ k_,PA k_ → P0_ k_ := fun k_ h_ => by rw [← hPA] at h_;exact h_.1
 have aL : ∀ k_,PA k_ → k_ < w.heap.size := fun k_ h_ => by rw [← hPA] at h_;exact h_.2.2.1
 have bP : ∀ k_,PB k_ → P1_ k_ := fun k_ h_ => by rw [← hPB] at h_;exact h_.1
 have bL : ∀ k_,PB k_ → k_ < w.heap.size := fun k_ h_ => by rw [← hPB] at h_;exact h_.2.2.1
 have nAB : ∀ k_,PA k_ → ¬ PB k_ := fun k_ h1 h2 => hap k_ (aP k_ h1) (bP k_ h2)
 clear hap hPA hPB
 have HA := Aside0.mk ta
 have HBB := Aside0.mk tb
 have HB := Aside0.mk hB
 have HK := Aside0.mk (Kept.refl w (fun k_ => P0_ k_ ∨ P1_ k_))
 have N1 := Aside0.mk nAB
 have L1 := Aside0.mk aL
 have L2 := Aside0.mk bL
 have Q1 := Aside0.mk aP
 have Q2 := Aside0.mk bP
 clear ta tb hB nAB aL bL aP bP
 go_enter Try.func11,Try.ntmps11
 go_wp2_with (first | ((with_reducible refine gate_dst (N := 2) rfl ?_);refine bE 2 #[.slice Aa l0.length ca,.slice Ab l1.length cb] 29 (h := ?_);intro g hg wq1 hbox hb;have n0_ := Aside0.mk (Kd.S_below HA.out hb);have n1_ := Aside0.mk (Kd.S_below HBB.out hb);have n3_ := Aside0.mk (below_step HB.out hb);have n4_ := Aside0.mk (Kept.below HK.out hb);have BK := Aside0.mk hbox;have GN := Aside0.mk (show ∀ k_,k_ < w.heap.size → k_ ≠ g from fun k_ h_ e_ => by rw [e_,hg] at h_;exact absurd h_ (Nat.lt_irrefl _));clear HA HBB HB HK hb hbox hg;have HA := n0_;have HBB := n1_;have HB := n3_;have HK := n4_;clear n0_ n1_ n3_ n4_;have hcq2 : wq1.cell? ⟨g,0,none⟩ = some (.slice Aa l0.length ca) := (blk_cell BK.out 0).trans rfl;have hcq1 : wq1.cell? ⟨g,1,none⟩ = some (.slice Ab l1.length cb) := (blk_cell BK.out 1).trans rfl) | ((with_reducible refine gate_callee (f := 33) rfl ?_);refine goesL_ (some 8) rfl rfl Try.func33 Z236 rfl #[.slice Aa l0.length ca,.int .i64 a1] rfl Z280 ?_;(with_reducible refine (laws_markIntSS.calls k PA (.slice Aa l0.length ca) l0 a1 t1 t2 w0 _ ?side1 ?side2 A1.out).mono ?_);(case side1 => exact HB.out);(case side2 => exact HA.out);rintro e wq3 ⟨rfl,hyq2,hb,hkp⟩;refine ⟨_,rfl,?_⟩;have n0_ := Aside0.mk hyq2;have n1_ := Aside0.mk (Kd.S_kept HBB.out hkp (fun k_ h1_ h2_ => N1.out k_ h2_ h1_));have n3_ := Aside0.mk hb;have n4_ := Aside0.mk (Kept.then_ HK.out hkp (fun k_ h_ => .inl (.inl (Q1.out k_ h_))));have n5_ := Aside0.mk (blk_kept BK.out hkp (fun h_ => GN.out _ (L1.out _ h_) rfl));clear HA HBB HB HK BK hcq2 hcq1;have HA := n0_;have HBB := n1_;have HB := n3_;have HK := n4_;have BK := n5_;clear n0_ n1_ n3_ n4_ n5_ hyq2 hb hkp;have hcq1 : wq3.cell? ⟨g,1,none⟩ = some (.slice Ab l1.length cb) := (blk_cell BK.out 1).trans rfl) | ((with_reducible refine gate_callee (f := 33) rfl ?_);refine goesL_ (some 12) rfl rfl Try.func33 Z236 rfl #[.slice Ab l1.length cb,.int .i64 t1] rfl Z280 ?_;(with_reducible refine (laws_markIntSS.calls k PB (.slice Ab l1.length cb) l1 t1 s1 s2 w0 _ ?side1 ?side2 A2.out).mono ?_);(case side1 => exact HB.out);(case side2 => exact HBB.out);rintro e wq4 ⟨rfl,hyq2,hb,hkp⟩;refine ⟨_,rfl,?_⟩;have n0_ := Aside0.mk (Kd.S_kept HA.out hkp (fun k_ h1_ h2_ => N1.out k_ h1_ h2_));have n1_ := Aside0.mk hyq2;have n3_ := Aside0.mk hb;have n4_ := Aside0.mk (Kept.then_ HK.out hkp (fun k_ h_ => .inl (.inr (Q2.out k_ h_))));clear HA HBB HB HK BK hcq1;have HA := n0_;have HBB := n1_;have HB := n3_;have HK := n4_;clear n0_ n1_ n3_ n4_ hyq2 hb hkp))
 go_ret
 exact ⟨rfl,Kd.S_mono HA.out Q1.out,Kd.S_mono HBB.out Q2.out,HB.out,HK.out⟩

/-! ### laws_heldIntS: function 49 -/
def laws_heldIntS.l0 : Nat → List Int → Int → Int → Option (Int)
 | 0,_,_,_ => none
 | k + 1,x0,x1,x5 => if x5 < (x0.length : Int) then (if 0 ≤ x5 then (if (rd x0 x5) = x1 then (laws_heldIntS.l0 k x0 (wrap64 (x1 + 1)) (wrap64 (x5 + 1))) else (some (-1))) else (none)) else (some x1)
def laws_heldIntS.f (k : Nat) (l0 : List Int) (a1 : Int) : Option (Int) := laws_heldIntS.l0 k l0 a1 0
theorem laws_heldIntS.mono_l : ∀ k,(∀ y0 y1 y2,LeO (laws_heldIntS.l0 k y0 y1 y2) (laws_heldIntS.l0 (k + 1) y0 y1 y2))
 | 0 => fun _ _ _ r h => by simp [laws_heldIntS.l0] at h
 | k + 1 => by
  have ih0 := laws_heldIntS.mono_l k
  ·intro y0 y1 y2
   unfold laws_heldIntS.l0
   repeat' first
   | (with_reducible exact ih0 _ _ _)
   | (with_reducible exact LeO.refl _)
   | (with_reducible exact LeO.none _)
   | (with_reducible refine LeO.ite ?_ ?_)
   | (with_reducible refine LeO.bind ?_ (fun _ => ?_))
   | exact ih0 _ _ _
   | exact LeO.none _
   | refine LeO.ite ?_ ?_
   | refine LeO.bind ?_ (fun _ => ?_)
theorem laws_heldIntS.mono : ∀ a0 a1 k,LeO (laws_heldIntS.f k a0 a1) (laws_heldIntS.f (k + 1) a0 a1) := by
 intro a0 a1 k
 have ih0 := laws_heldIntS.mono_l k
 unfold laws_heldIntS.f
 repeat' first
   | (with_reducible exact ih0 _ _ _)
   | (with_reducible exact LeO.refl _)
   | (with_reducible exact LeO.none _)
   | (with_reducible refine LeO.ite ?_ ?_)
   | (with_reducible refine LeO.bind ?_ (fun _ => ?_))
   | exact ih0 _ _ _
   | exact LeO.none _
   | refine LeO.ite ?_ ?_
   | refine LeO.bind ?_ (fun _ => ?_)
set_option maxHeartbeats 8000000 in
set_option maxRecDepth 100000 in
theorem laws_heldIntS.calls (k : Nat) (A0 : Option Addr) (c0 : Nat) (l0 : List Int) (a1 : Int) (r : Int) (w : World) (hr0 : Kd.C (Kd.int .i64) w A0 l0.length l0) (hc0 : l0.length ≤ c0) (h : laws_heldIntS.f k l0 a1 = some r) :
  Calls Try.prog 49 #[.slice A0 l0.length c0,.int .i64 a1] w fun e w' => e = .returned (.int .i64 r) ∧ Drawn0 w w' := by
 have HR0 := Aside0.mk hr0
 have HC0 := Aside0.mk hc0
 clear hr0 hc0
 have H := h
 clear h
 unfold laws_heldIntS.f at H
 have H' := Aside0.mk H
 clear H
 go_enter Try.func49,Try.ntmps49
 go_wp2
 go_loopg [1,5] k (fun kq v1 v5 w' => ∃ (x1_1 : Int) (x5_1 : Int),v1 = .int .i64 x1_1 ∧ v5 = .int .i64 x5_1 ∧ Aside0 (laws_heldIntS.l0 kq l0 x1_1 x5_1 = some r) ∧ Aside0 (kq ≤ k) ∧ Drawn0 w w')
 case atStart => exact ⟨(a1),(0),Z218,Z218,H',⟨Nat.le_refl _⟩,Z214⟩
 case round =>
  clear H'
  try clear p2
  obtain ⟨x1_1,x5_1,rfl,rfl,HA,HK1,⟨m1,rfl⟩⟩ := hrel
  cases gk with
  | zero => exact absurd HA.out (by simp [laws_heldIntS.l0])
  | succ k1 =>
   have H := HA.out
   clear HA
   simp only [laws_heldIntS.l0] at H
   by_cases c3 : x5_1 < (l0.length : Int)
   rotate_left
   ·rw [if_neg c3] at H
    have c3b0 : decide (x5_1 < (l0.length : Int)) = false := decide_eq_false c3
    clear c3
    obtain rfl := Option.some.inj H
    go_wp2
    go_ret
    exact ⟨Z218,Z214⟩
   rw [if_pos c3] at H
   have c3b0 : decide (x5_1 < (l0.length : Int)) = true := decide_eq_true c3
   clear c3
   obtain ⟨c4,H⟩ := ifp H
   have c4b0 : decide (0 ≤ x5_1) = true := decide_eq_true c4
   clear c4
   by_cases c5 : (rd l0 x5_1) = x1_1
   rotate_left
   ·rw [if_neg c5] at H
    have c5b0 : ((rd l0 x5_1) == x1_1) = false := beq_eq_false_iff_ne.mpr c5
    have c5b1 : ((rd l0 x5_1) != x1_1) = true := bne_iff_ne.mpr c5
    obtain rfl := Option.some.inj H
    have p407 : 0 ≤ (x5_1 : Int) := of_decide_eq_true Z217
    have q407 : x5_1 < (l0.length : Int) := of_decide_eq_true Z217
    obtain ⟨ad407,e407,hx407_0⟩ := Kd.at_int HR0.out x5_1 p407 q407
    cases e407
    replace p407 := eq_true p407
    replace q407 := eq_true q407
    go_wp2
    go_ret
    exact ⟨Z218,Z214⟩
   rw [if_pos c5] at H
   have c5b0 : ((rd l0 x5_1) == x1_1) = true := beq_iff_eq.mpr c5
   have c5b1 : ((rd l0 x5_1) != x1_1) = false := bne_eq_false_iff_eq.mpr c5
   clear c5
   have H' := Aside0.mk H
   clear H
   have p407 : 0 ≤ (x5_1 : Int) := of_decide_eq_true Z217
   have q407 : x5_1 < (l0.length : Int) := of_decide_eq_true Z217
   obtain ⟨ad407,e407,hx407_0⟩ := Kd.at_int HR0.out x5_1 p407 q407
   cases e407
   replace p407 := eq_true p407
   replace q407 := eq_true q407
   go_wp2
   go_roundg k1
   case measure => have := HK1.out;omega
   case rel => exact ⟨(wrap64 (x1_1 + 1)),(wrap64 (x5_1 + 1)),Z218,Z218,H',⟨Z231⟩,Z214⟩

/-! ### laws_heldIntSS: function 35 -/
def laws_heldIntSS.l0 : Nat → List (List Int) → Int → Int → Option (Int)
 | 0,_,_,_ => none
 | k + 1,x0,x1,x5 => if x5 < (x0.length : Int) then (if 0 ≤ x5 then ((laws_heldIntS.f k (rd_L2 x0 x5) x1).bind fun t409 => (if t409 < 0 then (some (-1)) else (laws_heldIntSS.l0 k x0 t409 (wrap64 (x5 + 1))))) else (none)) else (some x1)
def laws_heldIntSS.f (k : Nat) (l0 : List (List Int)) (a1 : Int) : Option (Int) := laws_heldIntSS.l0 k l0 a1 0
theorem laws_heldIntSS.mono_l : ∀ k,(∀ y0 y1 y2,LeO (laws_heldIntSS.l0 k y0 y1 y2) (laws_heldIntSS.l0 (k + 1) y0 y1 y2))
 | 0 => fun _ _ _ r h => by simp [laws_heldIntSS.l0] at h
 | k + 1 => by
  have ih0 := laws_heldIntSS.mono_l k
  ·intro y0 y1 y2
   unfold laws_heldIntSS.l0
   repeat' first
   | (with_reducible exact ih0 _ _ _)
   | (with_reducible exact laws_heldIntS.mono _ _ _)
   | (with_reducible exact LeO.refl _)
   | (with_reducible exact LeO.none _)
   | (with_reducible refine LeO.ite ?_ ?_)
   | (with_reducible refine LeO.bind ?_ (fun _ => ?_))
   | exact ih0 _ _ _
   | exact laws_heldIntS.mono _ _ _
   | exact LeO.none _
   | refine LeO.ite ?_ ?_
   | refine LeO.bind ?_ (fun _ => ?_)
theorem laws_heldIntSS.mono : ∀ a0 a1 k,LeO (laws_heldIntSS.f k a0 a1) (laws_heldIntSS.f (k + 1) a0 a1) := by
 intro a0 a1 k
 have ih0 := laws_heldIntSS.mono_l k
 unfold laws_heldIntSS.f
 repeat' first
   | (with_reducible exact ih0 _ _ _)
   | (with_reducible exact laws_heldIntS.mono _ _ _)
   | (with_reducible exact LeO.refl _)
   | (with_reducible exact LeO.none _)
   | (with_reducible refine LeO.ite ?_ ?_)
   | (with_reducible refine LeO.bind ?_ (fun _ => ?_))
   | exact ih0 _ _ _
   | exact laws_heldIntS.mono _ _ _
   | exact LeO.none _
   | refine LeO.ite ?_ ?_
   | refine LeO.bind ?_ (fun _ => ?_)
set_option maxHeartbeats 8000000 in
set_option maxRecDepth 100000 in
theorem laws_heldIntSS.calls (k : Nat) (A0 : Option Addr) (c0 : Nat) (l0 : List (List Int)) (a1 : Int) (r : Int) (w : World) (hr0 : Kd.C (Kd.slice 3 (Kd.int .i64)) w A0 l0.length l0) (hc0 : l0.length ≤ c0) (h : laws_heldIntSS.f k l0 a1 = some r) :
  Calls Try.prog 35 #[.slice A0 l0.length c0,.int .i64 a1] w fun e w' => e = .returned (.int .i64 r) ∧ Drawn0 w w' := by
 have HR0 := Aside0.mk hr0
 have HC0 := Aside0.mk hc0
 clear hr0 hc0
 have H := h
 clear h
 unfold laws_heldIntSS.f at H
 have H' := Aside0.mk H
 clear H
 go_enter Try.func35,Try.ntmps35
 go_wp2
 go_loopg [1,5] k (fun kq v1 v5 w' => ∃ (x1_1 : Int) (x5_1 : Int),v1 = .int .i64 x1_1 ∧ v5 = .int .i64 x5_1 ∧ Aside0 (laws_heldIntSS.l0 kq l0 x1_1 x5_1 = some r) ∧ Aside0 (kq ≤ k) ∧ Drawn0 w w')
 case atStart => exact ⟨(a1),(0),Z218,Z218,H',⟨Nat.le_refl _⟩,Z214⟩
 case round =>
  clear H'
  try clear p2
  obtain ⟨x1_1,x5_1,rfl,rfl,HA,HK1,⟨m1,rfl⟩⟩ := hrel
  cases gk with
  | zero => exact absurd HA.out (by simp [laws_heldIntSS.l0])
  | succ k1 =>
   have H := HA.out
   clear HA
   simp only [laws_heldIntSS.l0] at H
   by_cases c3 : x5_1 < (l0.length : Int)
   rotate_left
   ·rw [if_neg c3] at H
    have c3b0 : decide (x5_1 < (l0.length : Int)) = false := decide_eq_false c3
    clear c3
    obtain rfl := Option.some.inj H
    go_wp2
    go_ret
    exact ⟨Z218,Z214⟩
   rw [if_pos c3] at H
   have c3b0 : decide (x5_1 < (l0.length : Int)) = true := decide_eq_true c3
   clear c3
   obtain ⟨c4,H⟩ := ifp H
   have c4b0 : decide (0 ≤ x5_1) = true := decide_eq_true c4
   clear c4
   obtain ⟨t409,A50,H⟩ := Option.bind_eq_some_iff.mp H
   have A5 := Aside0.mk A50
   clear A50
   by_cases c6 : t409 < 0
   ·rw [if_pos c6] at H
    have c6b0 : decide (t409 < 0) = true := decide_eq_true c6
    clear c6
    obtain rfl := Option.some.inj H
    have p408 : 0 ≤ (x5_1 : Int) := of_decide_eq_true Z217
    have q408 : x5_1 < (l0.length : Int) := of_decide_eq_true Z217
    obtain ⟨ad408,A408_0,c408_0,e408,hx408_0,hl408_0,hi408_0⟩ := at_L2 HR0.out x5_1 p408 q408
    cases e408
    have HR408_0 := Aside0.mk hi408_0
    have HC408_0 := Aside0.mk hl408_0
    clear hi408_0 hl408_0
    replace p408 := eq_true p408
    replace q408 := eq_true q408
    go_wp2_with (first | ((with_reducible refine gate_callee (f := 49) rfl ?_);refine goesL_ (some 17) rfl rfl Try.func49 Z236 rfl #[.slice A408_0 (rd_L2 l0 x5_1).length c408_0,.int .i64 x1_1] rfl Z146 ?_;(with_reducible refine (laws_heldIntS.calls k1 _ _ (rd_L2 l0 x5_1) x1_1 t409 _ ?side1 ?side2 A5.out).mono ?_);(case side1 => exact Z122);(case side2 => exact HC408_0.out);rintro e w' ⟨rfl,⟨nd,rfl⟩⟩;refine ⟨_,rfl,?_⟩))
    go_ret
    exact ⟨Z218,Z214⟩
   rw [if_neg c6] at H
   have c6b0 : decide (t409 < 0) = false := decide_eq_false c6
   clear c6
   have H' := Aside0.mk H
   clear H
   have p408 : 0 ≤ (x5_1 : Int) := of_decide_eq_true Z217
   have q408 : x5_1 < (l0.length : Int) := of_decide_eq_true Z217
   obtain ⟨ad408,A408_0,c408_0,e408,hx408_0,hl408_0,hi408_0⟩ := at_L2 HR0.out x5_1 p408 q408
   cases e408
   have HR408_0 := Aside0.mk hi408_0
   have HC408_0 := Aside0.mk hl408_0
   clear hi408_0 hl408_0
   replace p408 := eq_true p408
   replace q408 := eq_true q408
   go_wp2_with (first | ((with_reducible refine gate_callee (f := 49) rfl ?_);refine goesL_ (some 17) rfl rfl Try.func49 Z236 rfl #[.slice A408_0 (rd_L2 l0 x5_1).length c408_0,.int .i64 x1_1] rfl Z146 ?_;(with_reducible refine (laws_heldIntS.calls k1 _ _ (rd_L2 l0 x5_1) x1_1 t409 _ ?side1 ?side2 A5.out).mono ?_);(case side1 => exact Z122);(case side2 => exact HC408_0.out);rintro e w' ⟨rfl,⟨nd,rfl⟩⟩;refine ⟨_,rfl,?_⟩))
   go_roundg k1
   case measure => have := HK1.out;omega
   case rel => exact ⟨(t409),(wrap64 (x5_1 + 1)),Z218,Z218,H',⟨Z231⟩,Z214⟩

/-! ### laws_heldGrid: function 12 -/
def laws_heldGrid.f (k : Nat) (l0_0 : List (List Int)) (l0_1 : List (List Int)) (a1 : Int) : Option (Int) := (laws_heldIntSS.f k l0_0 a1).bind fun t411 => (if t411 < 0 then (some (-1)) else ((laws_heldIntSS.f k l0_1 t411).bind fun t412 => (if t412 < 0 then (some (-1)) else (some t412))))
theorem laws_heldGrid.mono : ∀ a0 a1 a2 k,LeO (laws_heldGrid.f k a0 a1 a2) (laws_heldGrid.f (k + 1) a0 a1 a2) := by
 intro a0 a1 a2 k
 unfold laws_heldGrid.f
 repeat' first
   | (with_reducible exact laws_heldIntSS.mono _ _ _)
   | (with_reducible exact LeO.refl _)
   | (with_reducible exact LeO.none _)
   | (with_reducible refine LeO.ite ?_ ?_)
   | (with_reducible refine LeO.bind ?_ (fun _ => ?_))
   | exact laws_heldIntSS.mono _ _ _
   | exact LeO.none _
   | refine LeO.ite ?_ ?_
   | refine LeO.bind ?_ (fun _ => ?_)
set_option maxHeartbeats 8000000 in
set_option maxRecDepth 100000 in
theorem laws_heldGrid.calls (k : Nat) (A0_0 : Option Addr) (c0_0 : Nat) (l0_0 : List (List Int)) (A0_1 : Option Addr) (c0_1 : Nat) (l0_1 : List (List Int)) (a1 : Int) (r : Int) (w : World) (hr0_0 : Kd.C (Kd.slice 3 (Kd.int .i64)) w A0_0 l0_0.length l0_0) (hc0_0 : l0_0.length ≤ c0_0) (hr0_1 : Kd.C (Kd.slice 3 (Kd.int .i64)) w A0_1 l0_1.length l0_1) (hc0_1 : l0_1.length ≤ c0_1) (h : laws_heldGrid.f k l0_0 l0_1 a1 = some r) :
  Calls Try.prog 12 #[.agg #[.slice A0_0 l0_0.length c0_0,.slice A0_1 l0_1.length c0_1],.int .i64 a1] w fun e w' => e = .returned (.int .i64 r) ∧ Below w.heap.size w w' := by
 have hu29 := Try.underlying29
 have HR0_0 := Aside0.mk hr0_0
 have HC0_0 := Aside0.mk hc0_0
 clear hr0_0 hc0_0
 have HR0_1 := Aside0.mk hr0_1
 have HC0_1 := Aside0.mk hc0_1
 clear hr0_1 hc0_1
 have HB := Aside0.mk (Below.refl w.heap.size w)
 have H := h
 clear h
 unfold laws_heldGrid.f at H
 obtain ⟨t411,A30,H⟩ := Option.bind_eq_some_iff.mp H
 have A3 := Aside0.mk A30
 clear A30
 by_cases c4 : t411 < 0
 ·rw [if_pos c4] at H
  have c4b0 : decide (t411 < 0) = true := decide_eq_true c4
  clear c4
  obtain rfl := Option.some.inj H
  go_enter Try.func12,Try.ntmps12
  go_wp2_with (first | ((with_reducible refine gate_dst (N := 2) rfl ?_);refine bE 2 #[.slice A0_0 l0_0.length c0_0,.slice A0_1 l0_1.length c0_1] 29 (h := ?_);intro gb410 hg wq1 hbox hb;have n_ := Z14;clear HB;obtain ⟨HB,BK410,GW410,GE410⟩ := n_;clear hb hbox hg;obtain ⟨hczq2_0,hczq2_1,hfzq2_0,hfzq2_1⟩ := cells2 BK410.out) | ((with_reducible refine gate_callee (f := 35) rfl ?_);refine goesL_ (some 8) rfl rfl Try.func35 Z236 rfl #[.slice A0_0 l0_0.length c0_0,.int .i64 a1] rfl Z146 ?_;(with_reducible refine (laws_heldIntSS.calls k _ _ l0_0 a1 t411 _ ?side1 ?side2 A3.out).mono ?_);(case side1 => exact Z105);(case side2 => exact Z233);rintro e w' ⟨rfl,⟨nd,rfl⟩⟩;refine ⟨_,rfl,?_⟩))
  go_ret
  exact ⟨Z207,Z260⟩
 rw [if_neg c4] at H
 have c4b0 : decide (t411 < 0) = false := decide_eq_false c4
 clear c4
 obtain ⟨t412,A70,H⟩ := Option.bind_eq_some_iff.mp H
 have A7 := Aside0.mk A70
 clear A70
 by_cases c8 : t412 < 0
 ·rw [if_pos c8] at H
  have c8b0 : decide (t412 < 0) = true := decide_eq_true c8
  clear c8
  obtain rfl := Option.some.inj H
  go_enter Try.func12,Try.ntmps12
  go_wp2_with (first | ((with_reducible refine gate_dst (N := 2) rfl ?_);refine bE 2 #[.slice A0_0 l0_0.length c0_0,.slice A0_1 l0_1.length c0_1] 29 (h := ?_);intro gb410 hg wq1 hbox hb;have n_ := Z14;clear HB;obtain ⟨HB,BK410,GW410,GE410⟩ := n_;clear hb hbox hg;obtain ⟨hczq2_0,hczq2_1,hfzq2_0,hfzq2_1⟩ := cells2 BK410.out) | ((with_reducible refine gate_callee (f := 35) rfl ?_);refine goesL_ (some 8) rfl rfl Try.func35 Z236 rfl #[.slice A0_0 l0_0.length c0_0,.int .i64 a1] rfl Z146 ?_;(with_reducible refine (laws_heldIntSS.calls k _ _ l0_0 a1 t411 _ ?side1 ?side2 A3.out).mono ?_);(case side1 => exact Z105);(case side2 => exact Z233);rintro e w' ⟨rfl,⟨nd,rfl⟩⟩;refine ⟨_,rfl,?_⟩) | ((with_reducible refine gate_callee (f := 35) rfl ?_);refine goesL_ (some 14) rfl rfl Try.func35 Z236 rfl #[.slice A0_1 l0_1.length c0_1,.int .i64 t411] rfl Z146 ?_;(with_reducible refine (laws_heldIntSS.calls k _ _ l0_1 t411 t412 _ ?side1 ?side2 A7.out).mono ?_);(case side1 => exact Z49);(case side2 => exact HC0_1.out);rintro e w' ⟨rfl,⟨nd,rfl⟩⟩;refine ⟨_,rfl,?_⟩))
  go_ret
  exact ⟨Z207,Z260⟩
 rw [if_neg c8] at H
 have c8b0 : decide (t412 < 0) = false := decide_eq_false c8
 clear c8
 obtain rfl := Option.some.inj H
 go_enter Try.func12,Try.ntmps12
 go_wp2_with (first | ((with_reducible refine gate_dst (N := 2) rfl ?_);refine bE 2 #[.slice A0_0 l0_0.length c0_0,.slice A0_1 l0_1.length c0_1] 29 (h := ?_);intro gb410 hg wq1 hbox hb;have n_ := Z14;clear HB;obtain ⟨HB,BK410,GW410,GE410⟩ := n_;clear hb hbox hg;obtain ⟨hczq2_0,hczq2_1,hfzq2_0,hfzq2_1⟩ := cells2 BK410.out) | ((with_reducible refine gate_callee (f := 35) rfl ?_);refine goesL_ (some 8) rfl rfl Try.func35 Z236 rfl #[.slice A0_0 l0_0.length c0_0,.int .i64 a1] rfl Z146 ?_;(with_reducible refine (laws_heldIntSS.calls k _ _ l0_0 a1 t411 _ ?side1 ?side2 A3.out).mono ?_);(case side1 => exact Z105);(case side2 => exact Z233);rintro e w' ⟨rfl,⟨nd,rfl⟩⟩;refine ⟨_,rfl,?_⟩) | ((with_reducible refine gate_callee (f := 35) rfl ?_);refine goesL_ (some 14) rfl rfl Try.func35 Z236 rfl #[.slice A0_1 l0_1.length c0_1,.int .i64 t411] rfl Z146 ?_;(with_reducible refine (laws_heldIntSS.calls k _ _ l0_1 t411 t412 _ ?side1 ?side2 A7.out).mono ?_);(case side1 => exact Z49);(case side2 => exact HC0_1.out);rintro e w' ⟨rfl,⟨nd,rfl⟩⟩;refine ⟨_,rfl,?_⟩))
 go_ret
 exact ⟨Z207,Z260⟩

end Go.Proofs.Ytnidkpkfkklkaaa.QFnExactGridOf
