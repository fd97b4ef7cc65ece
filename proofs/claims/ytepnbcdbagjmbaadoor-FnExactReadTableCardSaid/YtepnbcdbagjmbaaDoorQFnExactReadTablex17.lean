/- The machine side of FnExactReadTable: what each Go function that it reaches comes to. Conditions: none. -/
import Derived.Test.YtepnbcdbagjmbaaDoorQFnExactReadTablex0
import Derived.Test.YtepnbcdbagjmbaaDoorQFnExactReadTablex16
namespace Go.Proofs.YtepnbcdbagjmbaaDoor.QFnExactReadTable
open Go.RowKit Go.Proofs.YtepnbcdbagjmbaaDoorW.PrintWords Go.Proofs.YtepnbcdbagjmbaaDoorW.PrintLast Go.Proofs.YtepnbcdbagjmbaaDoorW.PrintMore
attribute [local go_sem] max2_int min2_int max_two min_two max_three min_three max_four min_four   -- for this text's walks alone
set_option linter.unusedVariables false
set_option linter.unusedSimpArgs false

/-! ### laws_markIntS: function 26 -/
def laws_markIntS.l0 : Nat → List Int → Int → Int → Option (Int × List Int)
 | 0,_,_,_ => none
 | k + 1,x0,x1,x5 => if x5 < (x0.length : Int) then (if 0 ≤ x5 then (laws_markIntS.l0 k (x0.set (x5 : Int).toNat x1) (wrap64 (x1 + 1)) (wrap64 (x5 + 1))) else (none)) else (some (x1,x0))
def laws_markIntS.f (k : Nat) (l0 : List Int) (a1 : Int) : Option (Int × List Int) := laws_markIntS.l0 k l0 a1 0
theorem laws_markIntS.mono_l : ∀ k,(∀ y0 y1 y2,LeO (laws_markIntS.l0 k y0 y1 y2) (laws_markIntS.l0 (k + 1) y0 y1 y2))
 | 0 => fun _ _ _ r h => by simp [laws_markIntS.l0] at h
 | k + 1 => by
  have ih0 := laws_markIntS.mono_l k
  ·intro y0 y1 y2
   unfold laws_markIntS.l0
   repeat' first
   | (with_reducible exact ih0 _ _ _)
   | (with_reducible exact LeO.refl _)
   | (with_reducible exact LeO.none _)
   | (with_reducible refine LeO.ite ?_ ?_)
   | (with_reducible refine LeO.bind ?_ (fun _ => ?_))
   | exact ih0 _ _ _
   | exact LeO.none _
   | refine LeO.ite ?_ ?_
   | refine LeO.bind ?_ (fun _ => ?_)
theorem laws_markIntS.mono : ∀ a0 a1 k,LeO (laws_markIntS.f k a0 a1) (laws_markIntS.f (k + 1) a0 a1) := by
 intro a0 a1 k
 have ih0 := laws_markIntS.mono_l k
 unfold laws_markIntS.f
 repeat' first
   | (with_reducible exact ih0 _ _ _)
   | (with_reducible exact LeO.refl _)
   | (with_reducible exact LeO.none _)
   | (with_reducible refine LeO.ite ?_ ?_)
   | (with_reducible refine LeO.bind ?_ (fun _ => ?_))
   | exact ih0 _ _ _
   | exact LeO.none _
   | refine LeO.ite ?_ ?_
   | refine LeO.bind ?_ (fun _ => ?_)
set_option maxHeartbeats 8000000 in
set_option maxRecDepth 100000 in
theorem laws_markIntS.calls (k : Nat) (P0_ : Nat → Prop) (u9000_ : Value) (l0 : List Int) (a1 : Int) (r1 : Int) (r2 : List Int) (w0 w : World) (hB : Below w0.heap.size w0 w) (ho0 : Kd.R (Kd.int .i64) 3 w w0.heap.size P0_ u9000_ l0) (h : laws_markIntS.f k l0 a1 = some (r1,r2)) :
  Calls Tryd.prog 26 #[u9000_,.int .i64 a1] w fun e w' => e = .returned (.int .i64 r1) ∧ Kd.R (Kd.int .i64) 3 w' w0.heap.size (fun k_ => (P0_ k_ ∨ w.heap.size ≤ k_)) u9000_ r2 ∧ Below w0.heap.size w0 w' ∧ Kept w w' (fun k_ => P0_ k_) := by
 have HO0 := Aside0.mk (show Kd.R (Kd.int .i64) 3 w w0.heap.size (fun k_ => (P0_ k_ ∨ w.heap.size ≤ k_)) u9000_ l0 from Kd.R_mono ho0 (fun k_ hk => (.inl hk)))
 have HK := Aside0.mk (Kept.refl w (fun k_ => P0_ k_))
 have HW0 := Aside0.mk hB.size
 have HB := Aside0.mk hB
 clear hB
 have H := h
 clear h
 unfold laws_markIntS.f at H
 have H' := Aside0.mk H
 clear H
 go_enter Tryd.func26,Tryd.ntmps26
 go_wp2
 go_loopg [1,5] k (fun kq v1 v5 w' => ∃ (x0_1 : List Int) (x1_1 : Int) (x5_1 : Int),v1 = .int .i64 x1_1 ∧ v5 = .int .i64 x5_1 ∧ Aside0 (laws_markIntS.l0 kq x0_1 x1_1 x5_1 = some (r1,r2)) ∧ Aside0 (kq ≤ k) ∧ Aside0 (Kd.R (Kd.int .i64) 3 w' w0.heap.size (fun k_ => (P0_ k_ ∨ w.heap.size ≤ k_)) u9000_ x0_1) ∧ Aside0 (Kept w w' (fun k_ => P0_ k_)) ∧ Aside0 (Below w0.heap.size w0 w'))
 case atStart => exact ⟨(l0),(a1),(0),Z238,Z238,H',⟨Nat.le_refl _⟩,⟨Z214⟩,⟨Z181⟩,⟨Z351⟩⟩
 case round =>
  clear H'
  try clear c2
  try clear p2
  obtain ⟨x0_1,x1_1,x5_1,rfl,rfl,HA,HK1,HO_0,HK,HB⟩ := hrel
  cases gk with
  | zero => exact absurd HA.out (by simp [laws_markIntS.l0])
  | succ k1 =>
   have H := HA.out
   clear HA
   simp only [laws_markIntS.l0] at H
   by_cases c3 : x5_1 < (x0_1.length : Int)
   rotate_left
   ·rw [if_neg c3] at H
    have c3b0 : decide (x5_1 < (x0_1.length : Int)) = false := decide_eq_false c3
    clear c3
    simp only [Option.some.injEq,Prod.mk.injEq] at H
    obtain ⟨rfl,rfl⟩ := H
    obtain ⟨Ao9,co9,eo9⟩ := Kd.R_slice HO_0.out
    subst eo9
    go_wp2
    go_ret
    exact ⟨Z218,Z211,Z351,Z181⟩
   rw [if_pos c3] at H
   have c3b0 : decide (x5_1 < (x0_1.length : Int)) = true := decide_eq_true c3
   clear c3
   obtain ⟨c4,H⟩ := ifp H
   have c4b0 : decide (0 ≤ x5_1) = true := decide_eq_true c4
   clear c4
   obtain ⟨y377,hyy⟩ : ∃ y_ : List Int,y_ = (x0_1.set (x5_1 : Int).toNat x1_1) := ⟨_,rfl⟩
   replace H : (laws_markIntS.l0 k1 y377 (wrap64 (x1_1 + 1)) (wrap64 (x5_1 + 1))) = some (r1,r2) := zR
   have Ny377 := Aside0.mk hyy
   clear hyy
   have H' := Aside0.mk H
   clear H
   obtain ⟨Ao6,co6,eo6⟩ := Kd.R_slice HO_0.out
   subst eo6
   have p5 : 0 ≤ (x5_1 : Int) := of_decide_eq_true Z330
   have q5 : (x5_1 : Int) < ((x0_1.length : Int) : Int) := of_decide_eq_true Z330
   obtain ⟨go5,co5,eo5,gb5,gl5,cl5,HG5⟩ := Kd.R_form HO_0.out Z254
   (first | cases eo5 | (injection eo5 with ea_ en_ ec_;(first | subst ea_ | (injection ea_ with ea_;subst ea_));subst ec_;clear en_))
   have GB5 := Aside0.mk gb5
   have GG5 := Aside0.mk HG5
   clear gb5 gl5 HG5
   have HMgo5 := Aside0.mk (show (P0_ go5 ∨ w.heap.size ≤ go5) from (HO_0.out.1 _ rfl))
   obtain ⟨hx5_0,hf5_0⟩ := Kd.R_celln 0 HO_0.out (x5_1 : Int) p5 q5
   replace p5 := eq_true p5
   replace q5 := eq_true q5
   have HP7 := Kd.R_putg HO_0.out (x5_1 : Int) x1_1
   go_wp2_with (first | ((with_reducible refine gate_store (t := 3) (p := 15) rfl ?_);refine store_event (t := 3) (p := 15) (v := ?vo_w8) (w1 := (wr.setCell ⟨go5,(x5_1 : Int).toNat,none⟩ (.int .i64 x1_1))) ?hg ?ho ?hn ?hr ?_;(case ho => rfl);(case hg => rfl);(case hn => rfl);(case hr => exact Z239);intro w8 hw;have hg : wr.grownBy w8 (some go5) := (by rw [hw];exact HP7.2);have hp_ : Kd.R (Kd.int .i64) 3 w8 w0.heap.size (fun k_ => (P0_ k_ ∨ w.heap.size ≤ k_)) (.slice (some ⟨go5,0,none⟩) x0_1.length co6) y377 := (by rw [hw,Ny377.out];exact HP7.1);clear HP7;have n_ := jA (hp_) (jA ((by rw [hw];exact below_set (HB.out) GB5.out : Below w0.heap.size w0 w8)) (Aside0.mk (Kept.of_grown (S := (fun k_ => P0_ k_)) hg Z181 (fun k_ e_ => (HO_0.out.1 k_ e_)))));clear HO_0 HB HK;obtain ⟨HO_0,HB,HK⟩ := n_;clear hg hw hp_))
   go_roundg k1
   case measure => have := HK1.out;omega
   case rel => exact ⟨(y377),(wrap64 (x1_1 + 1)),(wrap64 (x5_1 + 1)),Z238,Z238,H',⟨Z248⟩,⟨Z211⟩,⟨Z181⟩,⟨Z351⟩⟩

/-! ### laws_markIntSS: function 25 -/
def laws_markIntSS.row (xs : List (List Int)) (i : Int) : List Int := xs.getD i.toNat []
def laws_markIntSS.l0 : Nat → List (List Int) → Int → Int → Option (Int × List (List Int))
 | 0,_,_,_ => none
 | k + 1,x0,x1,x5 => if x5 < (x0.length : Int) then (if 0 ≤ x5 then ((laws_markIntS.f k (laws_markIntSS.row x0 x5) x1).bind fun t => laws_markIntSS.l0 k (x0.set (x5 : Int).toNat t.2) t.1 (wrap64 (x5 + 1))) else (none)) else (some (x1,x0))
def laws_markIntSS.f (k : Nat) (l0 : List (List Int)) (a1 : Int) : Option (Int × List (List Int)) := laws_markIntSS.l0 k l0 a1 0
theorem laws_markIntSS.mono_l : ∀ k,(∀ y0 y1 y2,LeO (laws_markIntSS.l0 k y0 y1 y2) (laws_markIntSS.l0 (k + 1) y0 y1 y2))
 | 0 => fun _ _ _ r h => by simp [laws_markIntSS.l0] at h
 | k + 1 => by
  have ih0 := laws_markIntSS.mono_l k
  intro y0 y1 y2
  unfold laws_markIntSS.l0
  repeat' first
   | (with_reducible exact ih0 _ _ _)
   | (with_reducible exact LeO.refl _)
   | (with_reducible exact LeO.none _)
   | (with_reducible exact laws_markIntS.mono _ _ _)
   | (with_reducible refine LeO.ite ?_ ?_)
   | (with_reducible refine LeO.bind ?_ (fun _ => ?_))
   | exact ih0 _ _ _
   | exact LeO.none _
   | exact laws_markIntS.mono _ _ _
   | refine LeO.ite ?_ ?_
   | refine LeO.bind ?_ (fun _ => ?_)
theorem laws_markIntSS.mono : ∀ a0 a1 k,LeO (laws_markIntSS.f k a0 a1) (laws_markIntSS.f (k + 1) a0 a1) := fun a0 a1 k => laws_markIntSS.mono_l k a0 a1 0
/-- Element i,lent to one call that writes it. -/
theorem laws_markIntSS.lend {W : World} {base : Nat} {ok : Nat → Prop} {g n cap : Nat} {xs : List (List Int)} (h : Kd.S (Kd.slice 3 (Kd.int .i64)) 24 W base ok (.slice (some ⟨g,0,none⟩) n cap) xs) (i : Int) (h0 : 0 ≤ i) (h1 : i < n) :
  ∃ (oki : Nat → Prop) (A : Option Addr) (c : Nat),W.cell? ⟨g,i.toNat,none⟩ = some (.slice A (laws_markIntSS.row xs i).length c) ∧ Kd.R (Kd.int .i64) 3 W base oki (.slice A (laws_markIntSS.row xs i).length c) (laws_markIntSS.row xs i) ∧ (∀ k,oki k → ok k) ∧
   ∀ (w1 : World) (r : List Int) (okp : Nat → Prop),Kd.R (Kd.int .i64) 3 w1 base okp (.slice A (laws_markIntSS.row xs i).length c) r → Kept W w1 (fun k_ => oki k_) → Kd.S (Kd.slice 3 (Kd.int .i64)) 24 w1 base ok (.slice (some ⟨g,0,none⟩) n cap) (xs.set i.toNat r) := by
 obtain ⟨oki,c,hcl,hM,hcc,hoki,hH⟩ := Kd.S_lend h [] i h0 h1
 obtain ⟨v,rfl,hR⟩ := hM
 obtain ⟨A,cc,rfl⟩ := Kd.R_slice hR
 refine ⟨oki,A,cc,?_,hR,fun k hk => (hoki k hk).1,fun w1 r okp h1 hk => ?_⟩
 ·have := hcc 0 _ rfl
  simp only [Kd.slice,Nat.mul_one,Nat.add_zero] at this
  exact this
 exact Kd.H_back (Kd.H_kept hH hk (fun k _ hn => hn)) ⟨_,rfl,Kd.R_reok rfl h1 (fun k e => hR.1 k e)⟩ (fun k hk => hk)
set_option maxHeartbeats 8000000 in
set_option maxRecDepth 100000 in
theorem laws_markIntSS.calls (k : Nat) (P0_ : Nat → Prop) (u9000_ : Value) (l0 : List (List Int)) (a1 : Int) (r1 : Int) (r2 : List (List Int)) (w0 w : World) (hB : Below w0.heap.size w0 w) (ho0 : Kd.S (Kd.slice 3 (Kd.int .i64)) 24 w w0.heap.size P0_ u9000_ l0) (h : laws_markIntSS.f k l0 a1 = some (r1,r2)) :
  Calls Tryd.prog 25 #[u9000_,.int .i64 a1] w fun e w' => e = .returned (.int .i64 r1) ∧ Kd.S (Kd.slice 3 (Kd.int .i64)) 24 w' w0.heap.size P0_ u9000_ r2 ∧ Below w0.heap.size w0 w' ∧ Kept w w' (fun k_ => P0_ k_) := by
 have HO0 := Aside0.mk ho0
 clear ho0
 have HK := Aside0.mk (Kept.refl w (fun k_ => P0_ k_))
 have HB := Aside0.mk hB
 clear hB
 have H := h
 clear h
 unfold laws_markIntSS.f at H
 have H' := Aside0.mk H
 clear H
 go_enter Tryd.func25,Tryd.ntmps25
 go_wp2
 go_loopg [1,5] k (fun kq v1 v5 w' => ∃ (x0_1 : List (List Int)) (x1_1 : Int) (x5_1 : Int),v1 = .int .i64 x1_1 ∧ v5 = .int .i64 x5_1 ∧ Aside0 (laws_markIntSS.l0 kq x0_1 x1_1 x5_1 = some (r1,r2)) ∧ Aside0 (kq ≤ k) ∧ Aside0 (Kd.S (Kd.slice 3 (Kd.int .i64)) 24 w' w0.heap.size P0_ u9000_ x0_1) ∧ Aside0 (Kept w w' (fun k_ => P0_ k_)) ∧ Aside0 (Below w0.heap.size w0 w'))
 case atStart => exact ⟨(l0),(a1),(0),Z238,Z238,H',⟨Nat.le_refl _⟩,⟨by (with_reducible repeat (first | apply Kd.S_alloc | apply Kd.S_drewN | apply Kd.S_drew));exact HO0.out⟩,⟨Z181⟩,⟨Z351⟩⟩
 case round =>
  clear H'
  obtain ⟨x0_1,x1_1,x5_1,rfl,rfl,HA,HK1,HO_0,HK,HB⟩ := hrel
  cases gk with
  | zero => exact absurd HA.out (by simp [laws_markIntSS.l0])
  | succ k1 =>
   have H := HA.out
   clear HA
   simp only [laws_markIntSS.l0] at H
   by_cases c3 : x5_1 < (x0_1.length : Int)
   rotate_left
   ·rw [if_neg c3] at H
    have c3b0 : decide (x5_1 < (x0_1.length : Int)) = false := decide_eq_false c3
    clear c3
    simp only [Option.some.injEq,Prod.mk.injEq] at H
    obtain ⟨rfl,rfl⟩ := H
    obtain ⟨Ao9,co9,eo9⟩ := Kd.S_slice HO_0.out
    subst eo9
    go_wp2
    go_ret
    exact ⟨Z218,Z212,Z351,Z181⟩
   rw [if_pos c3] at H
   have c3b0 : decide (x5_1 < (x0_1.length : Int)) = true := decide_eq_true c3
   obtain ⟨c4,H⟩ := ifp H
   have c4b0 : decide (0 ≤ x5_1) = true := decide_eq_true c4
   obtain ⟨⟨t1,t2⟩,A50,H⟩ := Option.bind_eq_some_iff.mp H
   try dsimp only at H
   have A5 := Aside0.mk A50
   clear A50
   have H' := Aside0.mk H
   clear H
   obtain ⟨go5,co5,eo5,_,_,_⟩ := Kd.S_form HO_0.out Z254
   subst eo5
   obtain ⟨oki,Ai,ci,hx5_0,hR,hoki,hback⟩ := laws_markIntSS.lend HO_0.out x5_1 c4 c3
   have HRi := Aside0.mk hR
   have HBk := Aside0.mk hback
   have HOk := Aside0.mk hoki
   clear hR hback hoki
   have p5 := eq_true c4
   have q5 := eq_true c3
   clear c3 c4
   go_wp2_with (first | ((with_reducible refine gate_callee (f := 26) rfl ?_);refine goesL_ (some 17) rfl rfl Tryd.func26 Z253 rfl #[.slice Ai (laws_markIntSS.row x0_1 x5_1).length ci,.int .i64 x1_1] rfl Z173 ?_;(with_reducible refine (laws_markIntS.calls k1 (fun k_ => oki k_) (.slice Ai (laws_markIntSS.row x0_1 x5_1).length ci) (laws_markIntSS.row x0_1 x5_1) x1_1 t1 t2 w0 _ ?side1 ?side2 A5.out).mono ?_);(case side1 => exact HB.out);(case side2 => exact HRi.out);rintro e w17 ⟨rfl,hy0,hb,hkp⟩;refine ⟨_,rfl,?_⟩;have n0_ := Aside0.mk (HBk.out _ _ _ hy0 hkp);have n1_ := Aside0.mk (Kept.then_ HK.out hkp (fun k_ h_ => .inl (HOk.out k_ h_)));have n2_ := Aside0.mk hb;clear HO_0 HK HB HRi HBk hx5_0;have HO_0 := n0_;have HK := n1_;have HB := n2_;clear n0_ n1_ n2_ hy0 hkp hb))
   go_roundg k1
   case measure => have := HK1.out;omega
   case rel => exact ⟨_,t1,(wrap64 (x5_1 + 1)),Z238,Z238,H',⟨Z248⟩,⟨Z212⟩,⟨Z181⟩,⟨Z351⟩⟩

/-! ### laws_markTable: function 8 -/
def laws_markTable.f (k : Nat) (l0 : List ByteArray) (_a : ByteArray) (l2 : List (List Int)) (l3 : List Int) (a1 : Int) : Option (Int × List ByteArray × List (List Int) × List Int) := (laws_markStringS.f k l0 a1).bind fun t => (laws_markIntSS.f k l2 t.1).bind fun s => (laws_markIntS.f k l3 s.1).bind fun q => some (q.1,t.2,s.2,q.2)
theorem laws_markTable.mono : ∀ a0 a1 a2 a3 a4 k,LeO (laws_markTable.f k a0 a1 a2 a3 a4) (laws_markTable.f (k + 1) a0 a1 a2 a3 a4) := by
 intro a0 a1 a2 a3 a4 k
 unfold laws_markTable.f
 exact LeO.bind (laws_markStringS.mono _ _ _) (fun _ => LeO.bind (laws_markIntSS.mono _ _ _) (fun _ => LeO.bind (laws_markIntS.mono _ _ _) (fun _ => LeO.refl _)))
set_option maxHeartbeats 8000000 in
set_option maxRecDepth 100000 in
theorem laws_markTable.calls (k : Nat) (P0_ : Nat → Prop) (u0_ : Value) (l0 : List ByteArray) (a0_1 : ByteArray) (P2_ : Nat → Prop) (u2_ : Value) (l2 : List (List Int)) (P3_ : Nat → Prop) (u3_ : Value) (l3 : List Int) (a1 : Int) (r1 : Int) (r2 : List ByteArray) (r3 : List (List Int)) (r4 : List Int) (w0 w : World) (hB : Below w0.heap.size w0 w)
  (ho0 : Kd.R Kd.string 9 w w0.heap.size P0_ u0_ l0) (ho2 : Kd.S (Kd.slice 3 (Kd.int .i64)) 24 w w0.heap.size P2_ u2_ l2) (hap : ∀ k_,P2_ k_ → ¬ P3_ k_) (ho3 : Kd.R (Kd.int .i64) 3 w w0.heap.size P3_ u3_ l3) (_ : ∀ k_,P3_ k_ → ¬ P2_ k_) (h : laws_markTable.f k l0 a0_1 l2 l3 a1 = some (r1,r2,r3,r4)) :
  Calls Tryd.prog 8 #[.agg #[u0_,.string a0_1,u2_,u3_],.int .i64 a1] w fun e w' => e = .returned (.int .i64 r1) ∧ Kd.R Kd.string 9 w' w0.heap.size P0_ u0_ r2 ∧ Kd.S (Kd.slice 3 (Kd.int .i64)) 24 w' w0.heap.size P2_ u2_ r3 ∧ Kd.R (Kd.int .i64) 3 w' w0.heap.size P3_ u3_ r4 ∧ Below w0.heap.size w0 w' ∧ Kept w w' (fun k_ => P0_ k_ ∨ P2_ k_ ∨ P3_ k_) := by
 unfold laws_markTable.f at h
 obtain ⟨⟨t1,t2⟩,A1,h⟩ := Option.bind_eq_some_iff.mp h
 dsimp only at h
 obtain ⟨⟨s1,s2⟩,A2,h⟩ := Option.bind_eq_some_iff.mp h
 dsimp only at h
 obtain ⟨⟨q1,q2⟩,A3,h⟩ := Option.bind_eq_some_iff.mp h
 simp only [Option.some.injEq,Prod.mk.injEq] at h
 obtain ⟨rfl,rfl,rfl,rfl⟩ := h
 have A1 := Aside0.mk A1
 have A2 := Aside0.mk A2
 have A3 := Aside0.mk A3
 obtain ⟨Aa,ca,rfl⟩ := Kd.R_slice ho0
 obtain ⟨Ab,cb,rfl⟩ := Kd.S_slice ho2
 obtain ⟨Ac,cc,rfl⟩ := Kd.R_slice ho3
 have ta := Kd.R_tight rfl ho0
 have tb := Kd.S_bound ho2
 have tc := Kd.R_tight rfl ho3
 have ya := Kd.R_typed ho0
 have yc := Kd.R_typed ho3
 have la := Kd.R_lt ho0
 have lc := Kd.R_lt ho3
 have pa := ho0.1
 have pc := ho3.1
 clear ho0 ho2 ho3
 generalize hPA : (fun k_ => some k_ = (Value.slice Aa l0.length ca).ownBlock) = PA at ta
 generalize hPC : (fun k_ => some k_ = (Value.slice Ac l3.length cc).ownBlock) = PC at tc
 generalize hPB : (fun k_ => P2_ k_ ∧ w0.heap.size ≤ k_ ∧ k_ < w.heap.size ∧ ∃ q,q ∈ 24 :: (Kd.slice 3 (Kd.int .i64)).E ∧ ∃ cells,w.heap[k_]? = some (.cells cells q (0,0))) = PB at tb
 have eA : ∀ k_,PA k_ ↔ some k_ = (Value.slice Aa l0.length ca).ownBlock := fun k_ => by rw [← hPA]
 have eC : ∀ k_,PC k_ ↔ some k_ = (Value.slice Ac l3.length cc).ownBlock := fun k_ => by rw [← hPC]
 have bP : ∀ k_,PB k_ → P2_ k_ := fun k_ h_ => by rw [← hPB] at h_;exact h_.1
 have bL : ∀ k_,PB k_ → k_ < w.heap.size := fun k_ h_ => by rw [← hPB] at h_;exact h_.2.2.1
 have bT : ∀ k_,PB k_ → ∃ q,(q = 24 ∨ q = 3) ∧ ∃ cells,w.heap[k_]? = some (.cells cells q (0,0)) := fun k_ h_ => by
  rw [← hPB] at h_
  obtain ⟨_,_,_,q,hq,hc⟩ := h_
  refine ⟨q,?_,hc⟩
  simpa [Kd.slice,Kd.int,Kd.scalar] using hq
 have aL : ∀ k_,PA k_ → k_ < w.heap.size := fun k_ h_ => la k_ ((eA k_).1 h_).symm
 have cL : ∀ k_,PC k_ → k_ < w.heap.size := fun k_ h_ => lc k_ ((eC k_).1 h_).symm
 have nAB : ∀ k_,PA k_ → ¬ PB k_ := fun k_ h1 h2 => by
  obtain ⟨c1,e1⟩ := ya k_ ((eA k_).1 h1).symm
  obtain ⟨q,hq,c2,e2⟩ := bT k_ h2
  rw [e1] at e2
  injection e2 with e2
  injection e2 with _ e2 _
  rcases hq with rfl | rfl <;> exact absurd e2 Z355
 have nAC : ∀ k_,PA k_ → ¬ PC k_ := fun k_ h1 h2 => by
  obtain ⟨c1,e1⟩ := ya k_ ((eA k_).1 h1).symm
  obtain ⟨c2,e2⟩ := yc k_ ((eC k_).1 h2).symm
  rw [e1] at e2
  injection e2 with e2
  injection e2 with _ e2 _
  exact absurd e2 Z355
 have nBC : ∀ k_,PB k_ → ¬ PC k_ := fun k_ h1 h2 => hap k_ (bP k_ h1) (pc k_ ((eC k_).1 h2).symm)
 have aP : ∀ k_,PA k_ → P0_ k_ := fun k_ h_ => pa k_ ((eA k_).1 h_).symm
 have cP : ∀ k_,PC k_ → P3_ k_ := fun k_ h_ => pc k_ ((eC k_).1 h_).symm
 clear eA eC bT ya yc la lc hap hPA hPB hPC pa pc
 have HA := Aside0.mk ta
 have HBB := Aside0.mk tb
 have HC := Aside0.mk tc
 have HB := Aside0.mk hB
 have HK := Aside0.mk (Kept.refl w (fun k_ => P0_ k_ ∨ P2_ k_ ∨ P3_ k_))
 have N1 := Aside0.mk nAB
 have N2 := Aside0.mk nAC
 have N3 := Aside0.mk nBC
 have L1 := Aside0.mk aL
 have L2 := Aside0.mk bL
 have L3 := Aside0.mk cL
 have Q1 := Aside0.mk aP
 have Q2 := Aside0.mk bP
 have Q3 := Aside0.mk cP
 clear ta tb tc hB nAB nAC nBC aL bL cL aP bP cP
 go_enter Tryd.func8,Tryd.ntmps8
 go_wp2_with (first | ((with_reducible refine gate_dst (N := 2) rfl ?_);refine bE 2 #[.slice Aa l0.length ca,.string a0_1,.slice Ab l2.length cb,.slice Ac l3.length cc] 26 (h := ?_);intro g hg wq1 hbox hb;have n0_ := Aside0.mk (Kd.R_below HA.out hb);have n1_ := Aside0.mk (Kd.S_below HBB.out hb);have n2_ := Aside0.mk (Kd.R_below HC.out hb);have n3_ := Aside0.mk (below_step HB.out hb);have n4_ := Aside0.mk (Kept.below HK.out hb);have BK := Aside0.mk hbox;have GN := Aside0.mk (show ∀ k_,k_ < w.heap.size → k_ ≠ g from fun k_ h_ e_ => by rw [e_,hg] at h_;exact absurd h_ (Nat.lt_irrefl _));clear HA HBB HC HB HK hb hbox hg;have HA := n0_;have HBB := n1_;have HC := n2_;have HB := n3_;have HK := n4_;clear n0_ n1_ n2_ n3_ n4_;have hcq2 : wq1.cell? ⟨g,0,none⟩ = some (.slice Aa l0.length ca) := (blk_cell BK.out 0).trans rfl;have hcq3 : wq1.cell? ⟨g,2,none⟩ = some (.slice Ab l2.length cb) := (blk_cell BK.out 2).trans rfl;have hcq4 : wq1.cell? ⟨g,3,none⟩ = some (.slice Ac l3.length cc) := (blk_cell BK.out 3).trans rfl) | ((with_reducible refine gate_callee (f := 24) rfl ?_);refine goesL_ (some 8) rfl rfl Tryd.func24 Z253 rfl #[.slice Aa l0.length ca,.int .i64 a1] rfl Z329 ?_;(with_reducible refine (laws_markStringS.calls k PA (.slice Aa l0.length ca) l0 a1 t1 t2 w0 _ ?side1 ?side2 A1.out).mono ?_);(case side1 => exact HB.out);(case side2 => exact HA.out);rintro e wq3 ⟨rfl,hyq2,hb,hkp⟩;refine ⟨_,rfl,?_⟩;have n0_ := Aside0.mk (Kd.R_reok rfl hyq2 (fun k_ e_ => HA.out.1 k_ e_));have n1_ := Aside0.mk (Kd.S_kept HBB.out hkp (fun k_ h1_ h2_ => N1.out k_ h2_ h1_));have n2_ := Aside0.mk (Kd.R_kept HC.out hkp (fun k_ h1_ h2_ => N2.out k_ h2_ h1_));have n3_ := Aside0.mk hb;have n4_ := Aside0.mk (Kept.then_ HK.out hkp (fun k_ h_ => .inl (.inl (Q1.out k_ h_))));have n5_ := Aside0.mk (blk_kept BK.out hkp (fun h_ => GN.out _ (L1.out _ h_) rfl));clear HA HBB HC HB HK BK hcq2 hcq3 hcq4;have HA := n0_;have HBB := n1_;have HC := n2_;have HB := n3_;have HK := n4_;have BK := n5_;clear n0_ n1_ n2_ n3_ n4_ n5_ hyq2 hb hkp;have hcq3 : wq3.cell? ⟨g,2,none⟩ = some (.slice Ab l2.length cb) := (blk_cell BK.out 2).trans rfl;have hcq4 : wq3.cell? ⟨g,3,none⟩ = some (.slice Ac l3.length cc) := (blk_cell BK.out 3).trans rfl) | ((with_reducible refine gate_callee (f := 25) rfl ?_);refine goesL_ (some 12) rfl rfl Tryd.func25 Z253 rfl #[.slice Ab l2.length cb,.int .i64 t1] rfl Z329 ?_;(with_reducible refine (laws_markIntSS.calls k PB (.slice Ab l2.length cb) l2 t1 s1 s2 w0 _ ?side1 ?side2 A2.out).mono ?_);(case side1 => exact HB.out);(case side2 => exact HBB.out);rintro e wq4 ⟨rfl,hyq2,hb,hkp⟩;refine ⟨_,rfl,?_⟩;have n0_ := Aside0.mk (Kd.R_kept HA.out hkp (fun k_ h1_ h2_ => N1.out k_ h1_ h2_));have n1_ := Aside0.mk hyq2;have n2_ := Aside0.mk (Kd.R_kept HC.out hkp (fun k_ h1_ h2_ => N3.out k_ h2_ h1_));have n3_ := Aside0.mk hb;have n4_ := Aside0.mk (Kept.then_ HK.out hkp (fun k_ h_ => .inl (.inr (.inl (Q2.out k_ h_)))));have n5_ := Aside0.mk (blk_kept BK.out hkp (fun h_ => GN.out _ (L2.out _ h_) rfl));clear HA HBB HC HB HK BK hcq3 hcq4;have HA := n0_;have HBB := n1_;have HC := n2_;have HB := n3_;have HK := n4_;have BK := n5_;clear n0_ n1_ n2_ n3_ n4_ n5_ hyq2 hb hkp;have hcq4 : wq4.cell? ⟨g,3,none⟩ = some (.slice Ac l3.length cc) := (blk_cell BK.out 3).trans rfl) | ((with_reducible refine gate_callee (f := 26) rfl ?_);refine goesL_ (some 16) rfl rfl Tryd.func26 Z253 rfl #[.slice Ac l3.length cc,.int .i64 s1] rfl Z329 ?_;(with_reducible refine (laws_markIntS.calls k PC (.slice Ac l3.length cc) l3 s1 q1 q2 w0 _ ?side1 ?side2 A3.out).mono ?_);(case side1 => exact HB.out);(case side2 => exact HC.out);rintro e wq5 ⟨rfl,hyq2,hb,hkp⟩;refine ⟨_,rfl,?_⟩;have n0_ := Aside0.mk (Kd.R_kept HA.out hkp (fun k_ h1_ h2_ => N2.out k_ h1_ h2_));have n1_ := Aside0.mk (Kd.S_kept HBB.out hkp (fun k_ h1_ h2_ => N3.out k_ h1_ h2_));have n2_ := Aside0.mk (Kd.R_reok rfl hyq2 (fun k_ e_ => HC.out.1 k_ e_));have n3_ := Aside0.mk hb;have n4_ := Aside0.mk (Kept.then_ HK.out hkp (fun k_ h_ => .inl (.inr (.inr (Q3.out k_ h_)))));clear HA HBB HC HB HK BK hcq4;have HA := n0_;have HBB := n1_;have HC := n2_;have HB := n3_;have HK := n4_;clear n0_ n1_ n2_ n3_ n4_ hyq2 hb hkp))
 go_ret
 exact ⟨rfl,Kd.R_mono HA.out Q1.out,Kd.S_mono HBB.out Q2.out,Kd.R_mono HC.out Q3.out,HB.out,HK.out⟩

/-! ### laws_heldStringS: function 27 -/
def laws_heldStringS.l0 : Nat → List ByteArray → Int → Int → Option (Int)
 | 0,_,_,_ => none
 | k + 1,x0,x1,x5 => if x5 < (x0.length : Int) then (if 0 ≤ x5 then ((laws_markText.f k x1).bind fun t379 => (if (rdOf ByteArray.empty x0 x5).toList = t379.toList then (laws_heldStringS.l0 k x0 (wrap64 (x1 + 1)) (wrap64 (x5 + 1))) else (some (-1)))) else (none)) else (some x1)
def laws_heldStringS.f (k : Nat) (l0 : List ByteArray) (a1 : Int) : Option (Int) := laws_heldStringS.l0 k l0 a1 0
theorem laws_heldStringS.mono_l : ∀ k,(∀ y0 y1 y2,LeO (laws_heldStringS.l0 k y0 y1 y2) (laws_heldStringS.l0 (k + 1) y0 y1 y2))
 | 0 => fun _ _ _ r h => by simp [laws_heldStringS.l0] at h
 | k + 1 => by
  have ih0 := laws_heldStringS.mono_l k
  ·intro y0 y1 y2
   unfold laws_heldStringS.l0
   repeat' first
   | (with_reducible exact ih0 _ _ _)
   | (with_reducible exact laws_markText.mono _ _)
   | (with_reducible exact LeO.refl _)
   | (with_reducible exact LeO.none _)
   | (with_reducible refine LeO.ite ?_ ?_)
   | (with_reducible refine LeO.bind ?_ (fun _ => ?_))
   | exact ih0 _ _ _
   | exact laws_markText.mono _ _
   | exact LeO.none _
   | refine LeO.ite ?_ ?_
   | refine LeO.bind ?_ (fun _ => ?_)
theorem laws_heldStringS.mono : ∀ a0 a1 k,LeO (laws_heldStringS.f k a0 a1) (laws_heldStringS.f (k + 1) a0 a1) := by
 intro a0 a1 k
 have ih0 := laws_heldStringS.mono_l k
 unfold laws_heldStringS.f
 repeat' first
   | (with_reducible exact ih0 _ _ _)
   | (with_reducible exact laws_markText.mono _ _)
   | (with_reducible exact LeO.refl _)
   | (with_reducible exact LeO.none _)
   | (with_reducible refine LeO.ite ?_ ?_)
   | (with_reducible refine LeO.bind ?_ (fun _ => ?_))
   | exact ih0 _ _ _
   | exact laws_markText.mono _ _
   | exact LeO.none _
   | refine LeO.ite ?_ ?_
   | refine LeO.bind ?_ (fun _ => ?_)
set_option maxHeartbeats 8000000 in
set_option maxRecDepth 100000 in
theorem laws_heldStringS.calls (k : Nat) (A0 : Option Addr) (c0 : Nat) (l0 : List ByteArray) (a1 : Int) (r : Int) (w : World) (hr0 : Kd.C Kd.string w A0 l0.length l0) (hc0 : l0.length ≤ c0) (h : laws_heldStringS.f k l0 a1 = some r) :
  Calls Tryd.prog 27 #[.slice A0 l0.length c0,.int .i64 a1] w fun e w' => e = .returned (.int .i64 r) ∧ Below w.heap.size w w' := by
 have HR0 := Aside0.mk hr0
 have HC0 := Aside0.mk hc0
 clear hr0 hc0
 have HB := Aside0.mk (Below.refl w.heap.size w)
 have H := h
 clear h
 unfold laws_heldStringS.f at H
 have H' := Aside0.mk H
 clear H
 go_enter Tryd.func27,Tryd.ntmps27
 go_wp2
 go_loopg [1,5] k (fun kq v1 v5 w' => ∃ (x1_1 : Int) (x5_1 : Int),v1 = .int .i64 x1_1 ∧ v5 = .int .i64 x5_1 ∧ Aside0 (laws_heldStringS.l0 kq l0 x1_1 x5_1 = some r) ∧ Aside0 (kq ≤ k) ∧ Aside0 (Below w.heap.size w w'))
 case atStart => exact ⟨(a1),(0),Z238,Z238,H',⟨Nat.le_refl _⟩,⟨Z351⟩⟩
 case round =>
  clear H'
  try clear c2
  try clear p2
  obtain ⟨x1_1,x5_1,rfl,rfl,HA,HK1,HB⟩ := hrel
  cases gk with
  | zero => exact absurd HA.out (by simp [laws_heldStringS.l0])
  | succ k1 =>
   have H := HA.out
   clear HA
   simp only [laws_heldStringS.l0] at H
   by_cases c3 : x5_1 < (l0.length : Int)
   rotate_left
   ·rw [if_neg c3] at H
    have c3b0 : decide (x5_1 < (l0.length : Int)) = false := decide_eq_false c3
    clear c3
    obtain rfl := Option.some.inj H
    go_wp2
    go_ret
    exact ⟨Z218,Z351⟩
   rw [if_pos c3] at H
   have c3b0 : decide (x5_1 < (l0.length : Int)) = true := decide_eq_true c3
   clear c3
   obtain ⟨c4,H⟩ := ifp H
   have c4b0 : decide (0 ≤ x5_1) = true := decide_eq_true c4
   clear c4
   obtain ⟨t379,A50,H⟩ := Option.bind_eq_some_iff.mp H
   have A5 := Aside0.mk A50
   clear A50
   by_cases c6 : (rdOf ByteArray.empty l0 x5_1).toList = t379.toList
   rotate_left
   ·rw [if_neg c6] at H
    have c6b0 : ((rdOf ByteArray.empty l0 x5_1).toList == t379.toList) = false := beq_eq_false_iff_ne.mpr c6
    have c6b1 : ((rdOf ByteArray.empty l0 x5_1).toList != t379.toList) = true := bne_iff_ne.mpr c6
    obtain rfl := Option.some.inj H
    try go_wp2
    have n0_ := Aside0.mk (below_drew1 HB.out)
    clear HB
    have HB := n0_
    clear n0_
    have p378 : 0 ≤ (x5_1 : Int) := of_decide_eq_true Z330
    have q378 : x5_1 < (l0.length : Int) := of_decide_eq_true Z330
    obtain ⟨ad378,e378,hx378_0⟩ := Kd.at_string HR0.out x5_1 p378 q378
    have hw378_0 := hx378_0
    cases e378
    replace hx378_0 := (HB.out.cell (World.block_lt_of_cell? w _ hx378_0)).trans hx378_0
    replace p378 := eq_true p378
    replace q378 := eq_true q378
    refine start_ (n := 7) (S := fun w' => w'.cell? (ad378.add (x5_1).toNat) = some (.string (rdOf ByteArray.empty l0 x5_1))) (ds := []) (qM 7 0) Z253 rfl (by kernel_rfl) (((HB.out.cell (World.block_lt_of_cell? w _ hw378_0)).trans hw378_0)) (fun hHeld => ?_)
    generalize wr.drew = w9 at HB hx378_0 hHeld ⊢
    refine sP 0 12 7 1 (h := ?_)
    refine sP 1 13 7 3 (h := ?_)
    refine sP 2 14 7 7 (h := ?_)
    refine sP 4 16 7 23 (h := ?_)
    refine take_ (i := 3) (N := some 15) (v := ?_) (a' := ?_) (qM 7 31) rfl rfl Z253 (fun _ _ _ h => h) (Or.inl ⟨Z255,?_⟩) hHeld ?_ ?_
    rotate_left
    ·intro w' s0
     go_simp
     with_reducible rfl
    rotate_left
    ·simp only [Act.put,List.setIfInBounds_toArray,List.set_cons_zero,List.set_cons_succ,i64_w,i32_w]
     rfl
    refine sO 5 17 7 63 (h := fun K hK => ?_)
    refine goes_ Tryd.func41 Z253 rfl #[.int .i64 x1_1] Z255 rfl rfl Z173 ?_
    with_reducible refine (laws_markText.calls k1 x1_1 t379 _ A5.out).mono ?_
    rintro e w10 ⟨rfl,hb⟩
    refine ⟨_,rfl,?_⟩
    have n0_ := Aside0.mk (below_step Z351 hb)
    clear HB
    have HB := n0_
    clear n0_
    (try clear hb)
    (try clear hb2)
    (try clear hk)
    (try clear hi)
    refine hK.out _ _ (((HB.out.cell (World.block_lt_of_cell? w _ hw378_0)).trans hw378_0)) (fun hHeld => ?_)
    clear hK K
    refine rN (h := ?_)
    refine sP 6 18 7 127 (h := ?_)
    refine done_ Z253 ?_
    try go_wp2
    go_ret
    exact ⟨Z218,Z351⟩
   rw [if_pos c6] at H
   have c6b0 : ((rdOf ByteArray.empty l0 x5_1).toList == t379.toList) = true := beq_iff_eq.mpr c6
   have c6b1 : ((rdOf ByteArray.empty l0 x5_1).toList != t379.toList) = false := bne_eq_false_iff_eq.mpr c6
   clear c6
   have H' := Aside0.mk H
   clear H
   try go_wp2
   have n0_ := Aside0.mk (below_drew1 HB.out)
   clear HB
   have HB := n0_
   clear n0_
   have p378 : 0 ≤ (x5_1 : Int) := of_decide_eq_true Z330
   have q378 : x5_1 < (l0.length : Int) := of_decide_eq_true Z330
   obtain ⟨ad378,e378,hx378_0⟩ := Kd.at_string HR0.out x5_1 p378 q378
   have hw378_0 := hx378_0
   cases e378
   replace hx378_0 := (HB.out.cell (World.block_lt_of_cell? w _ hx378_0)).trans hx378_0
   replace p378 := eq_true p378
   replace q378 := eq_true q378
   refine start_ (n := 7) (S := fun w' => w'.cell? (ad378.add (x5_1).toNat) = some (.string (rdOf ByteArray.empty l0 x5_1))) (ds := []) (qM 7 0) Z253 rfl (by kernel_rfl) (((HB.out.cell (World.block_lt_of_cell? w _ hw378_0)).trans hw378_0)) (fun hHeld => ?_)
   generalize wr.drew = w7 at HB hx378_0 hHeld ⊢
   refine sP 0 12 7 1 (h := ?_)
   refine sP 1 13 7 3 (h := ?_)
   refine sP 2 14 7 7 (h := ?_)
   refine sP 4 16 7 23 (h := ?_)
   refine take_ (i := 3) (N := some 15) (v := ?_) (a' := ?_) (qM 7 31) rfl rfl Z253 (fun _ _ _ h => h) (Or.inl ⟨Z255,?_⟩) hHeld ?_ ?_
   rotate_left
   ·intro w' s0
    go_simp
    with_reducible rfl
   rotate_left
   ·simp only [Act.put,List.setIfInBounds_toArray,List.set_cons_zero,List.set_cons_succ,i64_w,i32_w]
    rfl
   refine sO 5 17 7 63 (h := fun K hK => ?_)
   refine goes_ Tryd.func41 Z253 rfl #[.int .i64 x1_1] Z255 rfl rfl Z173 ?_
   with_reducible refine (laws_markText.calls k1 x1_1 t379 _ A5.out).mono ?_
   rintro e w8 ⟨rfl,hb⟩
   refine ⟨_,rfl,?_⟩
   have n0_ := Aside0.mk (below_step Z351 hb)
   clear HB
   have HB := n0_
   clear n0_
   (try clear hb)
   (try clear hb2)
   (try clear hk)
   (try clear hi)
   refine hK.out _ _ (((HB.out.cell (World.block_lt_of_cell? w _ hw378_0)).trans hw378_0)) (fun hHeld => ?_)
   clear hK K
   refine rN (h := ?_)
   refine sP 6 18 7 127 (h := ?_)
   refine done_ Z253 ?_
   try go_wp2
   go_roundg k1
   case measure => have := HK1.out;omega
   case rel => exact ⟨(wrap64 (x1_1 + 1)),(wrap64 (x5_1 + 1)),Z238,Z238,H',⟨Z248⟩,⟨Z351⟩⟩

/-! ### laws_heldIntS: function 29 -/
def laws_heldIntS.l0 : Nat → List Int → Int → Int → Option (Int)
 | 0,_,_,_ => none
 | k + 1,x0,x1,x5 => if x5 < (x0.length : Int) then (if 0 ≤ x5 then (if (rd x0 x5) = x1 then (laws_heldIntS.l0 k x0 (wrap64 (x1 + 1)) (wrap64 (x5 + 1))) else (some (-1))) else (none)) else (some x1)
def laws_heldIntS.f (k : Nat) (l0 : List Int) (a1 : Int) : Option (Int) := laws_heldIntS.l0 k l0 a1 0
theorem laws_heldIntS.mono_l : ∀ k,(∀ y0 y1 y2,LeO (laws_heldIntS.l0 k y0 y1 y2) (laws_heldIntS.l0 (k + 1) y0 y1 y2))
 | 0 => fun _ _ _ r h => by simp [laws_heldIntS.l0] at h
 | k + 1 => by
  have ih0 := laws_heldIntS.mono_l k
  ·intro y0 y1 y2
   unfold laws_heldIntS.l0
   repeat' first
   | (with_reducible exact ih0 _ _ _)
   | (with_reducible exact LeO.refl _)
   | (with_reducible exact LeO.none _)
   | (with_reducible refine LeO.ite ?_ ?_)
   | (with_reducible refine LeO.bind ?_ (fun _ => ?_))
   | exact ih0 _ _ _
   | exact LeO.none _
   | refine LeO.ite ?_ ?_
   | refine LeO.bind ?_ (fun _ => ?_)
theorem laws_heldIntS.mono : ∀ a0 a1 k,LeO (laws_heldIntS.f k a0 a1) (laws_heldIntS.f (k + 1) a0 a1) := by
 intro a0 a1 k
 have ih0 := laws_heldIntS.mono_l k
 unfold laws_heldIntS.f
 repeat' first
   | (with_reducible exact ih0 _ _ _)
   | (with_reducible exact LeO.refl _)
   | (with_reducible exact LeO.none _)
   | (with_reducible refine LeO.ite ?_ ?_)
   | (with_reducible refine LeO.bind ?_ (fun _ => ?_))
   | exact ih0 _ _ _
   | exact LeO.none _
   | refine LeO.ite ?_ ?_
   | refine LeO.bind ?_ (fun _ => ?_)
set_option maxHeartbeats 8000000 in
set_option maxRecDepth 100000 in
theorem laws_heldIntS.calls (k : Nat) (A0 : Option Addr) (c0 : Nat) (l0 : List Int) (a1 : Int) (r : Int) (w : World) (hr0 : Kd.C (Kd.int .i64) w A0 l0.length l0) (hc0 : l0.length ≤ c0) (h : laws_heldIntS.f k l0 a1 = some r) :
  Calls Tryd.prog 29 #[.slice A0 l0.length c0,.int .i64 a1] w fun e w' => e = .returned (.int .i64 r) ∧ Drawn0 w w' := by
 have HR0 := Aside0.mk hr0
 have HC0 := Aside0.mk hc0
 clear hr0 hc0
 have H := h
 clear h
 unfold laws_heldIntS.f at H
 have H' := Aside0.mk H
 clear H
 go_enter Tryd.func29,Tryd.ntmps29
 go_wp2
 go_loopg [1,5] k (fun kq v1 v5 w' => ∃ (x1_1 : Int) (x5_1 : Int),v1 = .int .i64 x1_1 ∧ v5 = .int .i64 x5_1 ∧ Aside0 (laws_heldIntS.l0 kq l0 x1_1 x5_1 = some r) ∧ Aside0 (kq ≤ k) ∧ Drawn0 w w')
 case atStart => exact ⟨(a1),(0),Z238,Z238,H',⟨Nat.le_refl _⟩,Z231⟩
 case round =>
  clear H'
  try clear c2
  try clear p2
  obtain ⟨x1_1,x5_1,rfl,rfl,HA,HK1,⟨m1,rfl⟩⟩ := hrel
  cases gk with
  | zero => exact absurd HA.out (by simp [laws_heldIntS.l0])
  | succ k1 =>
   have H := HA.out
   clear HA
   simp only [laws_heldIntS.l0] at H
   by_cases c3 : x5_1 < (l0.length : Int)
   rotate_left
   ·rw [if_neg c3] at H
    have c3b0 : decide (x5_1 < (l0.length : Int)) = false := decide_eq_false c3
    clear c3
    obtain rfl := Option.some.inj H
    go_wp2
    go_ret
    exact ⟨Z238,Z231⟩
   rw [if_pos c3] at H
   have c3b0 : decide (x5_1 < (l0.length : Int)) = true := decide_eq_true c3
   clear c3
   obtain ⟨c4,H⟩ := ifp H
   have c4b0 : decide (0 ≤ x5_1) = true := decide_eq_true c4
   clear c4
   by_cases c5 : (rd l0 x5_1) = x1_1
   rotate_left
   ·rw [if_neg c5] at H
    have c5b0 : ((rd l0 x5_1) == x1_1) = false := beq_eq_false_iff_ne.mpr c5
    have c5b1 : ((rd l0 x5_1) != x1_1) = true := bne_iff_ne.mpr c5
    obtain rfl := Option.some.inj H
    have p380 : 0 ≤ (x5_1 : Int) := of_decide_eq_true Z330
    have q380 : x5_1 < (l0.length : Int) := of_decide_eq_true Z330
    obtain ⟨ad380,e380,hx380_0⟩ := Kd.at_int HR0.out x5_1 p380 q380
    cases e380
    replace p380 := eq_true p380
    replace q380 := eq_true q380
    go_wp2
    go_ret
    exact ⟨Z238,Z231⟩
   rw [if_pos c5] at H
   have c5b0 : ((rd l0 x5_1) == x1_1) = true := beq_iff_eq.mpr c5
   have c5b1 : ((rd l0 x5_1) != x1_1) = false := bne_eq_false_iff_eq.mpr c5
   clear c5
   have H' := Aside0.mk H
   clear H
   have p380 : 0 ≤ (x5_1 : Int) := of_decide_eq_true Z330
   have q380 : x5_1 < (l0.length : Int) := of_decide_eq_true Z330
   obtain ⟨ad380,e380,hx380_0⟩ := Kd.at_int HR0.out x5_1 p380 q380
   cases e380
   replace p380 := eq_true p380
   replace q380 := eq_true q380
   go_wp2
   go_roundg k1
   case measure => have := HK1.out;omega
   case rel => exact ⟨(wrap64 (x1_1 + 1)),(wrap64 (x5_1 + 1)),Z238,Z238,H',⟨Z248⟩,Z231⟩

/-! ### laws_heldIntSS: function 28 -/
def laws_heldIntSS.l0 : Nat → List (List Int) → Int → Int → Option (Int)
 | 0,_,_,_ => none
 | k + 1,x0,x1,x5 => if x5 < (x0.length : Int) then (if 0 ≤ x5 then ((laws_heldIntS.f k (rd_L4 x0 x5) x1).bind fun t382 => (if t382 < 0 then (some (-1)) else (laws_heldIntSS.l0 k x0 t382 (wrap64 (x5 + 1))))) else (none)) else (some x1)
def laws_heldIntSS.f (k : Nat) (l0 : List (List Int)) (a1 : Int) : Option (Int) := laws_heldIntSS.l0 k l0 a1 0
theorem laws_heldIntSS.mono_l : ∀ k,(∀ y0 y1 y2,LeO (laws_heldIntSS.l0 k y0 y1 y2) (laws_heldIntSS.l0 (k + 1) y0 y1 y2))
 | 0 => fun _ _ _ r h => by simp [laws_heldIntSS.l0] at h
 | k + 1 => by
  have ih0 := laws_heldIntSS.mono_l k
  ·intro y0 y1 y2
   unfold laws_heldIntSS.l0
   repeat' first
   | (with_reducible exact ih0 _ _ _)
   | (with_reducible exact laws_heldIntS.mono _ _ _)
   | (with_reducible exact LeO.refl _)
   | (with_reducible exact LeO.none _)
   | (with_reducible refine LeO.ite ?_ ?_)
   | (with_reducible refine LeO.bind ?_ (fun _ => ?_))
   | exact ih0 _ _ _
   | exact laws_heldIntS.mono _ _ _
   | exact LeO.none _
   | refine LeO.ite ?_ ?_
   | refine LeO.bind ?_ (fun _ => ?_)
theorem laws_heldIntSS.mono : ∀ a0 a1 k,LeO (laws_heldIntSS.f k a0 a1) (laws_heldIntSS.f (k + 1) a0 a1) := by
 intro a0 a1 k
 have ih0 := laws_heldIntSS.mono_l k
 unfold laws_heldIntSS.f
 repeat' first
   | (with_reducible exact ih0 _ _ _)
   | (with_reducible exact laws_heldIntS.mono _ _ _)
   | (with_reducible exact LeO.refl _)
   | (with_reducible exact LeO.none _)
   | (with_reducible refine LeO.ite ?_ ?_)
   | (with_reducible refine LeO.bind ?_ (fun _ => ?_))
   | exact ih0 _ _ _
   | exact laws_heldIntS.mono _ _ _
   | exact LeO.none _
   | refine LeO.ite ?_ ?_
   | refine LeO.bind ?_ (fun _ => ?_)
set_option maxHeartbeats 8000000 in
set_option maxRecDepth 100000 in
theorem laws_heldIntSS.calls (k : Nat) (A0 : Option Addr) (c0 : Nat) (l0 : List (List Int)) (a1 : Int) (r : Int) (w : World) (hr0 : Kd.C (Kd.slice 3 (Kd.int .i64)) w A0 l0.length l0) (hc0 : l0.length ≤ c0) (h : laws_heldIntSS.f k l0 a1 = some r) :
  Calls Tryd.prog 28 #[.slice A0 l0.length c0,.int .i64 a1] w fun e w' => e = .returned (.int .i64 r) ∧ Drawn0 w w' := by
 have HR0 := Aside0.mk hr0
 have HC0 := Aside0.mk hc0
 clear hr0 hc0
 have H := h
 clear h
 unfold laws_heldIntSS.f at H
 have H' := Aside0.mk H
 clear H
 go_enter Tryd.func28,Tryd.ntmps28
 go_wp2
 go_loopg [1,5] k (fun kq v1 v5 w' => ∃ (x1_1 : Int) (x5_1 : Int),v1 = .int .i64 x1_1 ∧ v5 = .int .i64 x5_1 ∧ Aside0 (laws_heldIntSS.l0 kq l0 x1_1 x5_1 = some r) ∧ Aside0 (kq ≤ k) ∧ Drawn0 w w')
 case atStart => exact ⟨(a1),(0),Z238,Z238,H',⟨Nat.le_refl _⟩,Z231⟩
 case round =>
  clear H'
  try clear c2
  try clear p2
  obtain ⟨x1_1,x5_1,rfl,rfl,HA,HK1,⟨m1,rfl⟩⟩ := hrel
  cases gk with
  | zero => exact absurd HA.out (by simp [laws_heldIntSS.l0])
  | succ k1 =>
   have H := HA.out
   clear HA
   simp only [laws_heldIntSS.l0] at H
   by_cases c3 : x5_1 < (l0.length : Int)
   rotate_left
   ·rw [if_neg c3] at H
    have c3b0 : decide (x5_1 < (l0.length : Int)) = false := decide_eq_false c3
    clear c3
    obtain rfl := Option.some.inj H
    go_wp2
    go_ret
    exact ⟨Z238,Z231⟩
   rw [if_pos c3] at H
   have c3b0 : decide (x5_1 < (l0.length : Int)) = true := decide_eq_true c3
   clear c3
   obtain ⟨c4,H⟩ := ifp H
   have c4b0 : decide (0 ≤ x5_1) = true := decide_eq_true c4
   clear c4
   obtain ⟨t382,A50,H⟩ := Option.bind_eq_some_iff.mp H
   have A5 := Aside0.mk A50
   clear A50
   by_cases c6 : t382 < 0
   ·rw [if_pos c6] at H
    have c6b0 : decide (t382 < 0) = true := decide_eq_true c6
    clear c6
    obtain rfl := Option.some.inj H
    have p381 : 0 ≤ (x5_1 : Int) := of_decide_eq_true Z330
    have q381 : x5_1 < (l0.length : Int) := of_decide_eq_true Z330
    obtain ⟨ad381,A381_0,c381_0,e381,hx381_0,hl381_0,hi381_0⟩ := at_L4 HR0.out x5_1 p381 q381
    cases e381
    have HR381_0 := Aside0.mk hi381_0
    have HC381_0 := Aside0.mk hl381_0
    clear hi381_0 hl381_0
    replace p381 := eq_true p381
    replace q381 := eq_true q381
    go_wp2_with (first | ((with_reducible refine gate_callee (f := 29) rfl ?_);refine goesL_ (some 17) rfl rfl Tryd.func29 Z253 rfl #[.slice A381_0 (rd_L4 l0 x5_1).length c381_0,.int .i64 x1_1] rfl Z173 ?_;(with_reducible refine (laws_heldIntS.calls k1 _ _ (rd_L4 l0 x5_1) x1_1 t382 _ ?side1 ?side2 A5.out).mono ?_);(case side1 => exact Z151);(case side2 => exact HC381_0.out);rintro e w' ⟨rfl,⟨nd,rfl⟩⟩;refine ⟨_,rfl,?_⟩))
    go_ret
    exact ⟨Z238,Z231⟩
   rw [if_neg c6] at H
   have c6b0 : decide (t382 < 0) = false := decide_eq_false c6
   clear c6
   have H' := Aside0.mk H
   clear H
   have p381 : 0 ≤ (x5_1 : Int) := of_decide_eq_true Z330
   have q381 : x5_1 < (l0.length : Int) := of_decide_eq_true Z330
   obtain ⟨ad381,A381_0,c381_0,e381,hx381_0,hl381_0,hi381_0⟩ := at_L4 HR0.out x5_1 p381 q381
   cases e381
   have HR381_0 := Aside0.mk hi381_0
   have HC381_0 := Aside0.mk hl381_0
   clear hi381_0 hl381_0
   replace p381 := eq_true p381
   replace q381 := eq_true q381
   go_wp2_with (first | ((with_reducible refine gate_callee (f := 29) rfl ?_);refine goesL_ (some 17) rfl rfl Tryd.func29 Z253 rfl #[.slice A381_0 (rd_L4 l0 x5_1).length c381_0,.int .i64 x1_1] rfl Z173 ?_;(with_reducible refine (laws_heldIntS.calls k1 _ _ (rd_L4 l0 x5_1) x1_1 t382 _ ?side1 ?side2 A5.out).mono ?_);(case side1 => exact Z151);(case side2 => exact HC381_0.out);rintro e w' ⟨rfl,⟨nd,rfl⟩⟩;refine ⟨_,rfl,?_⟩))
   go_roundg k1
   case measure => have := HK1.out;omega
   case rel => exact ⟨(t382),(wrap64 (x5_1 + 1)),Z238,Z238,H',⟨Z248⟩,Z231⟩

/-! ### laws_heldTable: function 9 -/
def laws_heldTable.f (k : Nat) (l0_0 : List ByteArray) (a0_1 : ByteArray) (l0_2 : List (List Int)) (l0_3 : List Int) (a1 : Int) : Option (Int) := (laws_heldStringS.f k l0_0 a1).bind fun t384 => (if t384 < 0 then (some (-1)) else ((laws_heldIntSS.f k l0_2 t384).bind fun t385 => (if t385 < 0 then (some (-1)) else ((laws_heldIntS.f k l0_3 t385).bind fun t386 => (if t386 < 0 then (some (-1)) else (some t386))))))
theorem laws_heldTable.mono : ∀ a0 a1 a2 a3 a4 k,LeO (laws_heldTable.f k a0 a1 a2 a3 a4) (laws_heldTable.f (k + 1) a0 a1 a2 a3 a4) := by
 intro a0 a1 a2 a3 a4 k
 unfold laws_heldTable.f
 repeat' first
   | (with_reducible exact laws_heldIntS.mono _ _ _)
   | (with_reducible exact laws_heldIntSS.mono _ _ _)
   | (with_reducible exact laws_heldStringS.mono _ _ _)
   | (with_reducible exact LeO.refl _)
   | (with_reducible exact LeO.none _)
   | (with_reducible refine LeO.ite ?_ ?_)
   | (with_reducible refine LeO.bind ?_ (fun _ => ?_))
   | exact laws_heldIntS.mono _ _ _
   | exact laws_heldIntSS.mono _ _ _
   | exact laws_heldStringS.mono _ _ _
   | exact LeO.none _
   | refine LeO.ite ?_ ?_
   | refine LeO.bind ?_ (fun _ => ?_)
set_option maxHeartbeats 8000000 in
set_option maxRecDepth 100000 in
theorem laws_heldTable.calls (k : Nat) (A0_0 : Option Addr) (c0_0 : Nat) (l0_0 : List ByteArray) (a0_1 : ByteArray) (A0_2 : Option Addr) (c0_2 : Nat) (l0_2 : List (List Int)) (A0_3 : Option Addr) (c0_3 : Nat) (l0_3 : List Int) (a1 : Int) (r : Int) (w : World) (hr0_0 : Kd.C Kd.string w A0_0 l0_0.length l0_0) (hc0_0 : l0_0.length ≤ c0_0) (hr0_2 : Kd.C (Kd.slice 3 (Kd.int .i64)) w A0_2 l0_2.length l0_2) (hc0_2 : l0_2.length ≤ c0_2) (hr0_3 : Kd.C (Kd.int .i64) w A0_3 l0_3.length l0_3) (hc0_3 : l0_3.length ≤ c0_3) (h : laws_heldTable.f k l0_0 a0_1 l0_2 l0_3 a1 = some r) :
  Calls Tryd.prog 9 #[.agg #[.slice A0_0 l0_0.length c0_0,.string a0_1,.slice A0_2 l0_2.length c0_2,.slice A0_3 l0_3.length c0_3],.int .i64 a1] w fun e w' => e = .returned (.int .i64 r) ∧ Below w.heap.size w w' := by
 have hu26 := Tryd.underlying26
 have HR0_0 := Aside0.mk hr0_0
 have HC0_0 := Aside0.mk hc0_0
 clear hr0_0 hc0_0
 have HR0_2 := Aside0.mk hr0_2
 have HC0_2 := Aside0.mk hc0_2
 clear hr0_2 hc0_2
 have HR0_3 := Aside0.mk hr0_3
 have HC0_3 := Aside0.mk hc0_3
 clear hr0_3 hc0_3
 have HB := Aside0.mk (Below.refl w.heap.size w)
 have H := h
 clear h
 unfold laws_heldTable.f at H
 obtain ⟨t384,A30,H⟩ := Option.bind_eq_some_iff.mp H
 have A3 := Aside0.mk A30
 clear A30
 by_cases c4 : t384 < 0
 ·rw [if_pos c4] at H
  have c4b0 : decide (t384 < 0) = true := decide_eq_true c4
  clear c4
  obtain rfl := Option.some.inj H
  go_enter Tryd.func9,Tryd.ntmps9
  go_wp2_with (first | ((with_reducible refine gate_dst (N := 2) rfl ?_);refine bE 2 #[.slice A0_0 l0_0.length c0_0,.string a0_1,.slice A0_2 l0_2.length c0_2,.slice A0_3 l0_3.length c0_3] 26 (h := ?_);intro gb383 hg wq1 hbox hb;have n_ := Z46;clear HB;obtain ⟨HB,BK383,GW383,GE383⟩ := n_;clear hb hbox hg;obtain ⟨hczq2_0,hczq2_1,hczq2_2,hczq2_3,hfzq2_0,hfzq2_1,hfzq2_2,hfzq2_3⟩ := cells4 BK383.out) | ((with_reducible refine gate_callee (f := 27) rfl ?_);refine goesL_ (some 8) rfl rfl Tryd.func27 Z253 rfl #[.slice A0_0 l0_0.length c0_0,.int .i64 a1] rfl Z173 ?_;(with_reducible refine (laws_heldStringS.calls k _ _ l0_0 a1 t384 _ ?side1 ?side2 A3.out).mono ?_);(case side1 => exact Z133);(case side2 => exact HC0_0.out);rintro e wq3 ⟨rfl,hb⟩;refine ⟨_,rfl,?_⟩;have n_ := Z58;clear BK383 HB;obtain ⟨BK383,HB⟩ := n_;(try clear hb);(try clear hb2);(try clear hk);(try clear hi)))
  go_ret
  exact ⟨Z218,Z297⟩
 rw [if_neg c4] at H
 have c4b0 : decide (t384 < 0) = false := decide_eq_false c4
 clear c4
 obtain ⟨t385,A80,H⟩ := Option.bind_eq_some_iff.mp H
 have A8 := Aside0.mk A80
 clear A80
 by_cases c9 : t385 < 0
 ·rw [if_pos c9] at H
  have c9b0 : decide (t385 < 0) = true := decide_eq_true c9
  clear c9
  obtain rfl := Option.some.inj H
  go_enter Tryd.func9,Tryd.ntmps9
  go_wp2_with (first | ((with_reducible refine gate_dst (N := 2) rfl ?_);refine bE 2 #[.slice A0_0 l0_0.length c0_0,.string a0_1,.slice A0_2 l0_2.length c0_2,.slice A0_3 l0_3.length c0_3] 26 (h := ?_);intro gb383 hg wq1 hbox hb;have n_ := Z46;clear HB;obtain ⟨HB,BK383,GW383,GE383⟩ := n_;clear hb hbox hg;obtain ⟨hczq2_0,hczq2_1,hczq2_2,hczq2_3,hfzq2_0,hfzq2_1,hfzq2_2,hfzq2_3⟩ := cells4 BK383.out) | ((with_reducible refine gate_callee (f := 27) rfl ?_);refine goesL_ (some 8) rfl rfl Tryd.func27 Z253 rfl #[.slice A0_0 l0_0.length c0_0,.int .i64 a1] rfl Z173 ?_;(with_reducible refine (laws_heldStringS.calls k _ _ l0_0 a1 t384 _ ?side1 ?side2 A3.out).mono ?_);(case side1 => exact Z133);(case side2 => exact HC0_0.out);rintro e wq3 ⟨rfl,hb⟩;refine ⟨_,rfl,?_⟩;have n_ := Z58;clear BK383 HB;obtain ⟨BK383,HB⟩ := n_;(try clear hb);(try clear hb2);(try clear hk);(try clear hi);obtain ⟨hczq4_0,hczq4_1,hczq4_2,hczq4_3,hfzq4_0,hfzq4_1,hfzq4_2,hfzq4_3⟩ := cells4 BK383.out) | ((with_reducible refine gate_callee (f := 28) rfl ?_);refine goesL_ (some 14) rfl rfl Tryd.func28 Z253 rfl #[.slice A0_2 l0_2.length c0_2,.int .i64 t384] rfl Z173 ?_;(with_reducible refine (laws_heldIntSS.calls k _ _ l0_2 t384 t385 _ ?side1 ?side2 A8.out).mono ?_);(case side1 => exact Z135);(case side2 => exact HC0_2.out);rintro e w' ⟨rfl,⟨nd,rfl⟩⟩;refine ⟨_,rfl,?_⟩))
  go_ret
  exact ⟨Z218,Z297⟩
 rw [if_neg c9] at H
 have c9b0 : decide (t385 < 0) = false := decide_eq_false c9
 clear c9
 obtain ⟨t386,A140,H⟩ := Option.bind_eq_some_iff.mp H
 have A14 := Aside0.mk A140
 clear A140
 by_cases c15 : t386 < 0
 ·rw [if_pos c15] at H
  have c15b0 : decide (t386 < 0) = true := decide_eq_true c15
  clear c15
  obtain rfl := Option.some.inj H
  go_enter Tryd.func9,Tryd.ntmps9
  go_wp2_with (first | ((with_reducible refine gate_dst (N := 2) rfl ?_);refine bE 2 #[.slice A0_0 l0_0.length c0_0,.string a0_1,.slice A0_2 l0_2.length c0_2,.slice A0_3 l0_3.length c0_3] 26 (h := ?_);intro gb383 hg wq1 hbox hb;have n_ := Z46;clear HB;obtain ⟨HB,BK383,GW383,GE383⟩ := n_;clear hb hbox hg;obtain ⟨hczq2_0,hczq2_1,hczq2_2,hczq2_3,hfzq2_0,hfzq2_1,hfzq2_2,hfzq2_3⟩ := cells4 BK383.out) | ((with_reducible refine gate_callee (f := 27) rfl ?_);refine goesL_ (some 8) rfl rfl Tryd.func27 Z253 rfl #[.slice A0_0 l0_0.length c0_0,.int .i64 a1] rfl Z173 ?_;(with_reducible refine (laws_heldStringS.calls k _ _ l0_0 a1 t384 _ ?side1 ?side2 A3.out).mono ?_);(case side1 => exact Z133);(case side2 => exact HC0_0.out);rintro e wq3 ⟨rfl,hb⟩;refine ⟨_,rfl,?_⟩;have n_ := Z58;clear BK383 HB;obtain ⟨BK383,HB⟩ := n_;(try clear hb);(try clear hb2);(try clear hk);(try clear hi);obtain ⟨hczq4_0,hczq4_1,hczq4_2,hczq4_3,hfzq4_0,hfzq4_1,hfzq4_2,hfzq4_3⟩ := cells4 BK383.out) | ((with_reducible refine gate_callee (f := 28) rfl ?_);refine goesL_ (some 14) rfl rfl Tryd.func28 Z253 rfl #[.slice A0_2 l0_2.length c0_2,.int .i64 t384] rfl Z173 ?_;(with_reducible refine (laws_heldIntSS.calls k _ _ l0_2 t384 t385 _ ?side1 ?side2 A8.out).mono ?_);(case side1 => exact Z135);(case side2 => exact HC0_2.out);rintro e w' ⟨rfl,⟨nd,rfl⟩⟩;refine ⟨_,rfl,?_⟩) | ((with_reducible refine gate_callee (f := 29) rfl ?_);refine goesL_ (some 20) rfl rfl Tryd.func29 Z253 rfl #[.slice A0_3 l0_3.length c0_3,.int .i64 t385] rfl Z173 ?_;(with_reducible refine (laws_heldIntS.calls k _ _ l0_3 t385 t386 _ ?side1 ?side2 A14.out).mono ?_);(case side1 => exact Z75);(case side2 => exact HC0_3.out);rintro e w' ⟨rfl,⟨nd,rfl⟩⟩;refine ⟨_,rfl,?_⟩))
  go_ret
  exact ⟨Z218,Z297⟩
 rw [if_neg c15] at H
 have c15b0 : decide (t386 < 0) = false := decide_eq_false c15
 clear c15
 obtain rfl := Option.some.inj H
 go_enter Tryd.func9,Tryd.ntmps9
 go_wp2_with (first | ((with_reducible refine gate_dst (N := 2) rfl ?_);refine bE 2 #[.slice A0_0 l0_0.length c0_0,.string a0_1,.slice A0_2 l0_2.length c0_2,.slice A0_3 l0_3.length c0_3] 26 (h := ?_);intro gb383 hg wq1 hbox hb;have n_ := Z46;clear HB;obtain ⟨HB,BK383,GW383,GE383⟩ := n_;clear hb hbox hg;obtain ⟨hczq2_0,hczq2_1,hczq2_2,hczq2_3,hfzq2_0,hfzq2_1,hfzq2_2,hfzq2_3⟩ := cells4 BK383.out) | ((with_reducible refine gate_callee (f := 27) rfl ?_);refine goesL_ (some 8) rfl rfl Tryd.func27 Z253 rfl #[.slice A0_0 l0_0.length c0_0,.int .i64 a1] rfl Z173 ?_;(with_reducible refine (laws_heldStringS.calls k _ _ l0_0 a1 t384 _ ?side1 ?side2 A3.out).mono ?_);(case side1 => exact Z133);(case side2 => exact HC0_0.out);rintro e wq3 ⟨rfl,hb⟩;refine ⟨_,rfl,?_⟩;have n_ := Z58;clear BK383 HB;obtain ⟨BK383,HB⟩ := n_;(try clear hb);(try clear hb2);(try clear hk);(try clear hi);obtain ⟨hczq4_0,hczq4_1,hczq4_2,hczq4_3,hfzq4_0,hfzq4_1,hfzq4_2,hfzq4_3⟩ := cells4 BK383.out) | ((with_reducible refine gate_callee (f := 28) rfl ?_);refine goesL_ (some 14) rfl rfl Tryd.func28 Z253 rfl #[.slice A0_2 l0_2.length c0_2,.int .i64 t384] rfl Z173 ?_;(with_reducible refine (laws_heldIntSS.calls k _ _ l0_2 t384 t385 _ ?side1 ?side2 A8.out).mono ?_);(case side1 => exact Z135);(case side2 => exact HC0_2.out);rintro e w' ⟨rfl,⟨nd,rfl⟩⟩;refine ⟨_,rfl,?_⟩) | ((with_reducible refine gate_callee (f := 29) rfl ?_);refine goesL_ (some 20) rfl rfl Tryd.func29 Z253 rfl #[.slice A0_3 l0_3.length c0_3,.int .i64 t385] rfl Z173 ?_;(with_reducible refine (laws_heldIntS.calls k _ _ l0_3 t385 t386 _ ?side1 ?side2 A14.out).mono ?_);(case side1 => exact Z75);(case side2 => exact HC0_3.out);rintro e w' ⟨rfl,⟨nd,rfl⟩⟩;refine ⟨_,rfl,?_⟩))
 go_ret
 exact ⟨Z218,Z297⟩

-- NOT PRINTED: function 3 (laws_FnExactReadTable)

end Go.Proofs.YtepnbcdbagjmbaaDoor.QFnExactReadTable
