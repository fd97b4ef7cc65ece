/- The machine side of FnExactCandsOf: what each Go function that it reaches comes to. Conditions: none. -/
import Derived.Test.YtiacoiiapmfaeaaQFnExactCandsOfx0
import Derived.Test.YtiacoiiapmfaeaaQFnExactCandsOfx1
import Derived.Test.YtiacoiiapmfaeaaQFnExactCandsOfx3
import Derived.Test.YtiacoiiapmfaeaaQFnExactCandsOfx5
import Derived.Test.YtiacoiiapmfaeaaQFnExactCandsOfx6
import Derived.Test.YtiacoiiapmfaeaaQFnExactCandsOfx7
namespace Go.Proofs.Ytiacoiiapmfaeaa.QFnExactCandsOf
open Go.RowKit Go.Proofs.YtiacoiiapmfaeaaW.PrintWords Go.Proofs.YtiacoiiapmfaeaaW.PrintLast Go.Proofs.YtiacoiiapmfaeaaW.PrintMore
attribute [local go_sem] max2_int min2_int max_two min_two max_three min_three max_four min_four   -- for this text's walks alone
set_option linter.unusedVariables false
set_option linter.unusedSimpArgs false

/-! ### laws_markSlotSS: function 33 -/
def laws_markSlotSS.row (xs : List (List S87)) (i : Int) : List S87 := xs.getD i.toNat []
def laws_markSlotSS.l0 : Nat → List (List S87) → Int → Int → Option (Int × List (List S87))
  | 0,_,_,_ => none
  | k + 1,x0,x1,x5 => if x5 < (x0.length : Int) then (if 0 ≤ x5 then ((laws_markSlotS.f k (laws_markSlotSS.row x0 x5) x1).bind fun t => laws_markSlotSS.l0 k (x0.set (x5 : Int).toNat t.2) t.1 (wrap64 (x5 + 1))) else (none)) else (some (x1,x0))
def laws_markSlotSS.f (k : Nat) (l0 : List (List S87)) (a1 : Int) : Option (Int × List (List S87)) := laws_markSlotSS.l0 k l0 a1 0
theorem laws_markSlotSS.mono_l : ∀ k,(∀ y0 y1 y2,LeO (laws_markSlotSS.l0 k y0 y1 y2) (laws_markSlotSS.l0 (k + 1) y0 y1 y2))
  | 0 => fun _ _ _ r h => by simp [laws_markSlotSS.l0] at h
  | k + 1 => by
    have ih0 := laws_markSlotSS.mono_l k
    intro y0 y1 y2
    unfold laws_markSlotSS.l0
    repeat' first
      | (with_reducible exact ih0 _ _ _)
      | (with_reducible exact LeO.refl _)
      | (with_reducible exact LeO.none _)
      | (with_reducible exact laws_markSlotS.mono _ _ _)
      | (with_reducible refine LeO.ite ?_ ?_)
      | (with_reducible refine LeO.bind ?_ (fun _ => ?_))
      | exact ih0 _ _ _
      | exact LeO.none _
      | exact laws_markSlotS.mono _ _ _
      | refine LeO.ite ?_ ?_
      | refine LeO.bind ?_ (fun _ => ?_)
theorem laws_markSlotSS.mono : ∀ a0 a1 k,LeO (laws_markSlotSS.f k a0 a1) (laws_markSlotSS.f (k + 1) a0 a1) := fun a0 a1 k => laws_markSlotSS.mono_l k a0 a1 0
/-- Element i,lent to one call that writes it. -/
theorem laws_markSlotSS.lend {W : World} {base : Nat} {ok : Nat → Prop} {g n cap : Nat} {xs : List (List S87)} (h : Kd.S (Kd.slice 87 k87) 83 W base ok (.slice (some ⟨g,0,none⟩) n cap) xs) (i : Int) (h0 : 0 ≤ i) (h1 : i < n) :
    ∃ (oki : Nat → Prop) (A : Option Addr) (c : Nat),W.cell? ⟨g,i.toNat,none⟩ = some (.slice A (laws_markSlotSS.row xs i).length c) ∧ Kd.R k87 87 W base oki (.slice A (laws_markSlotSS.row xs i).length c) (laws_markSlotSS.row xs i) ∧ (∀ k,oki k → ok k) ∧
      ∀ (w1 : World) (r : List S87) (okp : Nat → Prop),Kd.R k87 87 w1 base okp (.slice A (laws_markSlotSS.row xs i).length c) r → Kept W w1 (fun k_ => oki k_) → Kd.S (Kd.slice 87 k87) 83 w1 base ok (.slice (some ⟨g,0,none⟩) n cap) (xs.set i.toNat r) := by
  obtain ⟨oki,c,hcl,hM,hcc,hoki,hH⟩ := Kd.S_lend h [] i h0 h1
  obtain ⟨v,rfl,hR⟩ := hM
  obtain ⟨A,cc,rfl⟩ := Kd.R_slice hR
  refine ⟨oki,A,cc,?_,hR,fun k hk => (hoki k hk).1,fun w1 r okp h1 hk => ?_⟩
  · have := hcc 0 _ rfl
    simp only [Kd.slice,Nat.mul_one,Nat.add_zero] at this
    exact this
  · exact Kd.H_back (Kd.H_kept hH hk (fun k _ hn => hn)) ⟨_,rfl,Kd.R_reok rfl h1 (fun k e => hR.1 k e)⟩ (fun k hk => hk)
set_option maxHeartbeats 8000000 in
set_option maxRecDepth 100000 in
theorem laws_markSlotSS.calls (k : Nat) (P0_ : Nat → Prop) (u9000_ : Value) (l0 : List (List S87)) (a1 : Int) (r1 : Int) (r2 : List (List S87)) (w0 w : World) (hB : Below w0.heap.size w0 w) (ho0 : Kd.S (Kd.slice 87 k87) 83 w w0.heap.size P0_ u9000_ l0) (h : laws_markSlotSS.f k l0 a1 = some (r1,r2)) :
    Calls Try.prog 33 #[u9000_,.int .i64 a1] w fun e w' => e = .returned (.int .i64 r1) ∧ Kd.S (Kd.slice 87 k87) 83 w' w0.heap.size P0_ u9000_ r2 ∧ Below w0.heap.size w0 w' ∧ Kept w w' (fun k_ => P0_ k_) := by
  have HO0 := Aside0.mk ho0
  clear ho0
  have HK := Aside0.mk (Kept.refl w (fun k_ => P0_ k_))
  have HB := Aside0.mk hB
  clear hB
  have H : (laws_markSlotSS.l0 k l0 a1 0) = some (r1,r2) := h
  clear h
  have H' := Aside0.mk H
  clear H
  go_enter Try.func33,Try.ntmps33
  go_wp2
  go_loopg [1,5] k (fun kq v1 v5 w' => ∃ (x0_1 : List (List S87)) (x1_1 : Int) (x5_1 : Int),v1 = .int .i64 x1_1 ∧ v5 = .int .i64 x5_1 ∧ Aside0 (laws_markSlotSS.l0 kq x0_1 x1_1 x5_1 = some (r1,r2)) ∧ Aside0 (kq ≤ k) ∧ Aside0 (Kd.S (Kd.slice 87 k87) 83 w' w0.heap.size P0_ u9000_ x0_1) ∧ Aside0 (Kept w w' (fun k_ => P0_ k_)) ∧ Aside0 (Below w0.heap.size w0 w'))
  case atStart => exact ⟨(l0),(a1),(0),(by first | rfl | (simp;done) | (simp [*];done)),(by first | rfl | (simp;done) | (simp [*];done)),H',⟨Nat.le_refl _⟩,⟨by (with_reducible repeat (first | apply Kd.S_alloc | apply Kd.S_drewN | apply Kd.S_drew));exact HO0.out⟩,⟨by repeat (first | (with_reducible first | exact HK.out | apply Kept.alloc | apply Kept.drewN | apply Kept.drew) | exact HK.out)⟩,⟨by repeat (first | (with_reducible first | exact HB.out | apply below_alloc | apply pw_below_drewN | apply below_drew1) | exact HB.out)⟩⟩
  case round =>
    clear H'
    obtain ⟨x0_1,x1_1,x5_1,rfl,rfl,HA,HK1,HO_0,HK,HB⟩ := hrel
    cases gk with
    | zero => exact absurd HA.out (by simp [laws_markSlotSS.l0])
    | succ k1 =>
      have H := HA.out
      clear HA
      simp only [laws_markSlotSS.l0] at H
      by_cases c3 : x5_1 < (x0_1.length : Int)
      · rw [if_pos c3] at H
        have c3b0 : decide (x5_1 < (x0_1.length : Int)) = true := decide_eq_true c3
        by_cases c4 : 0 ≤ x5_1
        · rw [if_pos c4] at H
          have c4b0 : decide (0 ≤ x5_1) = true := decide_eq_true c4
          obtain ⟨⟨t1,t2⟩,A50,H⟩ := Option.bind_eq_some_iff.mp H
          try dsimp only at H
          have A5 := Aside0.mk A50
          clear A50
          have H' := Aside0.mk H
          clear H
          obtain ⟨go5,co5,eo5,_,_,_⟩ := Kd.S_form HO_0.out (by omega)
          subst eo5
          obtain ⟨oki,Ai,ci,hx5_0,hR,hoki,hback⟩ := laws_markSlotSS.lend HO_0.out x5_1 c4 c3
          have HRi := Aside0.mk hR
          have HBk := Aside0.mk hback
          have HOk := Aside0.mk hoki
          clear hR hback hoki
          have p5 := eq_true c4
          have q5 := eq_true c3
          clear c3 c4
          go_wp2_with (first | ((with_reducible refine gate_callee (f := 73) rfl ?_);refine goesL_ (some 17) rfl rfl Try.func73 (by kernel_rfl) rfl #[.slice Ai (laws_markSlotSS.row x0_1 x5_1).length ci,.int .i64 x1_1] rfl (by (try simp only [List.map_toArray,List.map_cons,List.map_nil]);first | done | rfl | (simp only [List.length_drop,List.length_take];rfl)) ?_;(with_reducible refine (laws_markSlotS.calls k1 (fun k_ => oki k_) (.slice Ai (laws_markSlotSS.row x0_1 x5_1).length ci) (laws_markSlotSS.row x0_1 x5_1) x1_1 t1 t2 w0 _ ?side1 ?side2 A5.out).mono ?_);(case side1 => exact HB.out);(case side2 => exact HRi.out);rintro e w17 ⟨rfl,hy0,hb,hkp⟩;refine ⟨_,rfl,?_⟩;have n0_ := Aside0.mk (HBk.out _ _ _ hy0 hkp);have n1_ := Aside0.mk (Kept.then_ HK.out hkp (fun k_ h_ => .inl (HOk.out k_ h_)));have n2_ := Aside0.mk hb;clear HO_0 HK HB HRi HBk hx5_0;have HO_0 := n0_;have HK := n1_;have HB := n2_;clear n0_ n1_ n2_ hy0 hkp hb))
          go_roundg k1
          case measure => have := HK1.out;omega
          case rel => exact ⟨_,t1,(wrap64 (x5_1 + 1)),(by first | rfl | (simp;done) | (simp [*];done)),(by first | rfl | (simp;done) | (simp [*];done)),H',⟨by have := HK1.out;omega⟩,⟨by (with_reducible repeat (first | apply Kd.S_alloc | apply Kd.S_drewN | apply Kd.S_drew));exact HO_0.out⟩,⟨by repeat (first | (with_reducible first | exact HK.out | apply Kept.alloc | apply Kept.drewN | apply Kept.drew) | exact HK.out)⟩,⟨by repeat (first | (with_reducible first | exact HB.out | apply below_alloc | apply pw_below_drewN | apply below_drew1) | exact HB.out)⟩⟩
        · rw [if_neg c4] at H
          exact absurd H (by simp)
      · rw [if_neg c3] at H
        have c3b0 : decide (x5_1 < (x0_1.length : Int)) = false := decide_eq_false c3
        clear c3
        simp only [Option.some.injEq,Prod.mk.injEq] at H
        obtain ⟨rfl,rfl⟩ := H
        obtain ⟨Ao9,co9,eo9⟩ := Kd.S_slice HO_0.out
        subst eo9
        go_wp2
        go_ret
        exact ⟨by first | rfl | (simp [errW_none,errW_some] <;> rfl) | (simp [*,errW_none,errW_some] <;> rfl),by (with_reducible repeat (first | apply Kd.S_alloc | apply Kd.S_drewN | apply Kd.S_drew));exact HO_0.out,by repeat (first | (with_reducible first | exact HB.out | apply below_alloc | apply pw_below_drewN | apply below_drew1) | exact HB.out),by repeat (first | (with_reducible first | exact HK.out | apply Kept.alloc | apply Kept.drewN | apply Kept.drew) | exact HK.out)⟩

/-! ### laws_markCandS: function 34 -/
def laws_markCandS.l0 : Nat → List (S91) → Int → Int → Option (Int × (List (S91)))
  | 0,_,_,_ => none
  | k + 1,x0,x1,x5 => if x5 < (x0.length : Int) then (if 0 ≤ x5 then ((some (x0.set (x5 : Int).toNat (⟨x1,(rd_T91 x0 x5).f1,(⟨(rd_T91 x0 x5).f2.f0,(rd_T91 x0 x5).f2.f1⟩ : S87),(⟨(rd_T91 x0 x5).f3.f0,(rd_T91 x0 x5).f3.f1⟩ : S87)⟩ : S91) : List (S91))).bind fun y233 => ((some (y233.set (x5 : Int).toNat (⟨(rd_T91 y233 x5).f0,wrap64 (x1 + 1),(⟨(rd_T91 y233 x5).f2.f0,(rd_T91 y233 x5).f2.f1⟩ : S87),(⟨(rd_T91 y233 x5).f3.f0,(rd_T91 y233 x5).f3.f1⟩ : S87)⟩ : S91) : List (S91))).bind fun y234 => ((some (y234.set (x5 : Int).toNat (⟨(rd_T91 y234 x5).f0,(rd_T91 y234 x5).f1,(⟨wrap64 ((wrap64 (x1 + 1)) + 1),(rd_T91 y234 x5).f2.f1⟩ : S87),(⟨(rd_T91 y234 x5).f3.f0,(rd_T91 y234 x5).f3.f1⟩ : S87)⟩ : S91) : List (S91))).bind fun y235 => ((some (y235.set (x5 : Int).toNat (⟨(rd_T91 y235 x5).f0,(rd_T91 y235 x5).f1,(⟨(rd_T91 y235 x5).f2.f0,wrap64 ((wrap64 ((wrap64 (x1 + 1)) + 1)) + 1)⟩ : S87),(⟨(rd_T91 y235 x5).f3.f0,(rd_T91 y235 x5).f3.f1⟩ : S87)⟩ : S91) : List (S91))).bind fun y236 => ((some (y236.set (x5 : Int).toNat (⟨(rd_T91 y236 x5).f0,(rd_T91 y236 x5).f1,(⟨(rd_T91 y236 x5).f2.f0,(rd_T91 y236 x5).f2.f1⟩ : S87),(⟨wrap64 ((wrap64 ((wrap64 ((wrap64 (x1 + 1)) + 1)) + 1)) + 1),(rd_T91 y236 x5).f3.f1⟩ : S87)⟩ : S91) : List (S91))).bind fun y237 => (laws_markCandS.l0 k (y237.set (x5 : Int).toNat (⟨(rd_T91 y237 x5).f0,(rd_T91 y237 x5).f1,(⟨(rd_T91 y237 x5).f2.f0,(rd_T91 y237 x5).f2.f1⟩ : S87),(⟨(rd_T91 y237 x5).f3.f0,wrap64 ((wrap64 ((wrap64 ((wrap64 ((wrap64 (x1 + 1)) + 1)) + 1)) + 1)) + 1)⟩ : S87)⟩ : S91)) (wrap64 ((wrap64 ((wrap64 ((wrap64 ((wrap64 ((wrap64 (x1 + 1)) + 1)) + 1)) + 1)) + 1)) + 1)) (wrap64 (x5 + 1)))))))) else (none)) else (some (x1,x0))
def laws_markCandS.f (k : Nat) (l0 : List (S91)) (a1 : Int) : Option (Int × (List (S91))) := laws_markCandS.l0 k l0 a1 0
theorem laws_markCandS.mono_l : ∀ k,(∀ y0 y1 y2,LeO (laws_markCandS.l0 k y0 y1 y2) (laws_markCandS.l0 (k + 1) y0 y1 y2))
  | 0 => fun _ _ _ r h => by simp [laws_markCandS.l0] at h
  | k + 1 => by
    have ih0 := laws_markCandS.mono_l k
    · intro y0 y1 y2
      unfold laws_markCandS.l0
      repeat' first
      | (with_reducible exact ih0 _ _ _)
      | (with_reducible exact LeO.refl _)
      | (with_reducible exact LeO.none _)
      | (with_reducible refine LeO.ite ?_ ?_)
      | (with_reducible refine LeO.bind ?_ (fun _ => ?_))
      | exact ih0 _ _ _
      | exact LeO.none _
      | refine LeO.ite ?_ ?_
      | refine LeO.bind ?_ (fun _ => ?_)
theorem laws_markCandS.mono : ∀ a0 a1 k,LeO (laws_markCandS.f k a0 a1) (laws_markCandS.f (k + 1) a0 a1) := by
  intro a0 a1 k
  have ih0 := laws_markCandS.mono_l k
  unfold laws_markCandS.f
  repeat' first
      | (with_reducible exact ih0 _ _ _)
      | (with_reducible exact LeO.refl _)
      | (with_reducible exact LeO.none _)
      | (with_reducible refine LeO.ite ?_ ?_)
      | (with_reducible refine LeO.bind ?_ (fun _ => ?_))
      | exact ih0 _ _ _
      | exact LeO.none _
      | refine LeO.ite ?_ ?_
      | refine LeO.bind ?_ (fun _ => ?_)
set_option maxHeartbeats 8000000 in
set_option maxRecDepth 100000 in
theorem laws_markCandS.calls (k : Nat) (P0_ : Nat → Prop) (u9000_ : Value) (l0 : List (S91)) (a1 : Int) (r1 : Int) (r2 : List (S91)) (w0 w : World) (hB : Below w0.heap.size w0 w) (ho0 : Kd.R k91 91 w w0.heap.size P0_ u9000_ l0) (h : laws_markCandS.f k l0 a1 = some (r1,r2)) :
    Calls Try.prog 34 #[u9000_,.int .i64 a1] w fun e w' => e = .returned (.int .i64 r1) ∧ Kd.R k91 91 w' w0.heap.size (fun k_ => (P0_ k_ ∨ w.heap.size ≤ k_)) u9000_ r2 ∧ Below w0.heap.size w0 w' ∧ Kept w w' (fun k_ => P0_ k_) := by
  have HO0 := Aside0.mk (show Kd.R k91 91 w w0.heap.size (fun k_ => (P0_ k_ ∨ w.heap.size ≤ k_)) u9000_ l0 from Kd.R_mono ho0 (fun k_ hk => (.inl hk)))
  have HK := Aside0.mk (Kept.refl w (fun k_ => P0_ k_))
  have HW0 := Aside0.mk hB.size
  have HB := Aside0.mk hB
  clear hB
  have H : (laws_markCandS.l0 k l0 a1 0) = some (r1,r2) := h
  clear h
  have H' := Aside0.mk H
  clear H
  go_enter Try.func34,Try.ntmps34
  go_wp2
  go_loopg [1,5] k (fun kq v1 v5 w' => ∃ (x0_1 : List (S91)) (x1_1 : Int) (x5_1 : Int),v1 = .int .i64 x1_1 ∧ v5 = .int .i64 x5_1 ∧ Aside0 (laws_markCandS.l0 kq x0_1 x1_1 x5_1 = some (r1,r2)) ∧ Aside0 (kq ≤ k) ∧ Aside0 (Kd.R k91 91 w' w0.heap.size (fun k_ => (P0_ k_ ∨ w.heap.size ≤ k_)) u9000_ x0_1) ∧ Aside0 (Kept w w' (fun k_ => P0_ k_)) ∧ Aside0 (Below w0.heap.size w0 w'))
  case atStart => exact ⟨(l0),(a1),(0),(by first | rfl | (simp;done) | (simp [*];done)),(by first | rfl | (simp;done) | (simp [*];done)),H',⟨Nat.le_refl _⟩,⟨by (with_reducible repeat (first | apply Kd.R_alloc | apply Kd.R_drewN | apply Kd.R_drew));exact HO0.out⟩,⟨by repeat (first | (with_reducible first | exact HK.out | apply Kept.alloc | apply Kept.drewN | apply Kept.drew) | exact HK.out)⟩,⟨by repeat (first | (with_reducible first | exact HB.out | apply below_alloc | apply pw_below_drewN | apply below_drew1) | exact HB.out)⟩⟩
  case round =>
    clear H'
    try clear p2
    obtain ⟨x0_1,x1_1,x5_1,rfl,rfl,HA,HK1,HO_0,HK,HB⟩ := hrel
    cases gk with
    | zero => exact absurd HA.out (by simp [laws_markCandS.l0])
    | succ k1 =>
      have H := HA.out
      clear HA
      simp only [laws_markCandS.l0] at H
      by_cases c3 : x5_1 < (x0_1.length : Int)
      · rw [if_pos c3] at H
        have c3b0 : decide (x5_1 < (x0_1.length : Int)) = true := decide_eq_true c3
        clear c3
        by_cases c4 : 0 ≤ x5_1
        · rw [if_pos c4] at H
          have c4b0 : decide (0 ≤ x5_1) = true := decide_eq_true c4
          clear c4
          obtain ⟨y233,hy233⟩ : ∃ y_ : List (S91),y_ = (x0_1.set (x5_1 : Int).toNat (⟨x1_1,(rd_T91 x0_1 x5_1).f1,(⟨(rd_T91 x0_1 x5_1).f2.f0,(rd_T91 x0_1 x5_1).f2.f1⟩ : S87),(⟨(rd_T91 x0_1 x5_1).f3.f0,(rd_T91 x0_1 x5_1).f3.f1⟩ : S87)⟩ : S91)) := ⟨_,rfl⟩
          replace H : ((some (y233.set (x5_1 : Int).toNat (⟨(rd_T91 y233 x5_1).f0,wrap64 (x1_1 + 1),(⟨(rd_T91 y233 x5_1).f2.f0,(rd_T91 y233 x5_1).f2.f1⟩ : S87),(⟨(rd_T91 y233 x5_1).f3.f0,(rd_T91 y233 x5_1).f3.f1⟩ : S87)⟩ : S91) : List (S91))).bind fun y234 => ((some (y234.set (x5_1 : Int).toNat (⟨(rd_T91 y234 x5_1).f0,(rd_T91 y234 x5_1).f1,(⟨wrap64 ((wrap64 (x1_1 + 1)) + 1),(rd_T91 y234 x5_1).f2.f1⟩ : S87),(⟨(rd_T91 y234 x5_1).f3.f0,(rd_T91 y234 x5_1).f3.f1⟩ : S87)⟩ : S91) : List (S91))).bind fun y235 => ((some (y235.set (x5_1 : Int).toNat (⟨(rd_T91 y235 x5_1).f0,(rd_T91 y235 x5_1).f1,(⟨(rd_T91 y235 x5_1).f2.f0,wrap64 ((wrap64 ((wrap64 (x1_1 + 1)) + 1)) + 1)⟩ : S87),(⟨(rd_T91 y235 x5_1).f3.f0,(rd_T91 y235 x5_1).f3.f1⟩ : S87)⟩ : S91) : List (S91))).bind fun y236 => ((some (y236.set (x5_1 : Int).toNat (⟨(rd_T91 y236 x5_1).f0,(rd_T91 y236 x5_1).f1,(⟨(rd_T91 y236 x5_1).f2.f0,(rd_T91 y236 x5_1).f2.f1⟩ : S87),(⟨wrap64 ((wrap64 ((wrap64 ((wrap64 (x1_1 + 1)) + 1)) + 1)) + 1),(rd_T91 y236 x5_1).f3.f1⟩ : S87)⟩ : S91) : List (S91))).bind fun y237 => (laws_markCandS.l0 k1 (y237.set (x5_1 : Int).toNat (⟨(rd_T91 y237 x5_1).f0,(rd_T91 y237 x5_1).f1,(⟨(rd_T91 y237 x5_1).f2.f0,(rd_T91 y237 x5_1).f2.f1⟩ : S87),(⟨(rd_T91 y237 x5_1).f3.f0,wrap64 ((wrap64 ((wrap64 ((wrap64 ((wrap64 (x1_1 + 1)) + 1)) + 1)) + 1)) + 1)⟩ : S87)⟩ : S91)) (wrap64 ((wrap64 ((wrap64 ((wrap64 ((wrap64 ((wrap64 (x1_1 + 1)) + 1)) + 1)) + 1)) + 1)) + 1)) (wrap64 (x5_1 + 1))))))) = some (r1,r2) := by first | (rw [hy233];with_reducible exact H) | (have H2_ := (Option.bind_some _ _).symm.trans H;rw [hy233];with_reducible exact H2_) | (have H2_ := (Option.bind_some _ _).symm.trans H;with_reducible exact H2_) | with_reducible exact H | (rw [hy233];exact H) | exact H
          have Ny233 := Aside0.mk hy233
          clear hy233
          obtain ⟨y234,hy234⟩ : ∃ y_ : List (S91),y_ = (y233.set (x5_1 : Int).toNat (⟨(rd_T91 y233 x5_1).f0,wrap64 (x1_1 + 1),(⟨(rd_T91 y233 x5_1).f2.f0,(rd_T91 y233 x5_1).f2.f1⟩ : S87),(⟨(rd_T91 y233 x5_1).f3.f0,(rd_T91 y233 x5_1).f3.f1⟩ : S87)⟩ : S91)) := ⟨_,rfl⟩
          replace H : ((some (y234.set (x5_1 : Int).toNat (⟨(rd_T91 y234 x5_1).f0,(rd_T91 y234 x5_1).f1,(⟨wrap64 ((wrap64 (x1_1 + 1)) + 1),(rd_T91 y234 x5_1).f2.f1⟩ : S87),(⟨(rd_T91 y234 x5_1).f3.f0,(rd_T91 y234 x5_1).f3.f1⟩ : S87)⟩ : S91) : List (S91))).bind fun y235 => ((some (y235.set (x5_1 : Int).toNat (⟨(rd_T91 y235 x5_1).f0,(rd_T91 y235 x5_1).f1,(⟨(rd_T91 y235 x5_1).f2.f0,wrap64 ((wrap64 ((wrap64 (x1_1 + 1)) + 1)) + 1)⟩ : S87),(⟨(rd_T91 y235 x5_1).f3.f0,(rd_T91 y235 x5_1).f3.f1⟩ : S87)⟩ : S91) : List (S91))).bind fun y236 => ((some (y236.set (x5_1 : Int).toNat (⟨(rd_T91 y236 x5_1).f0,(rd_T91 y236 x5_1).f1,(⟨(rd_T91 y236 x5_1).f2.f0,(rd_T91 y236 x5_1).f2.f1⟩ : S87),(⟨wrap64 ((wrap64 ((wrap64 ((wrap64 (x1_1 + 1)) + 1)) + 1)) + 1),(rd_T91 y236 x5_1).f3.f1⟩ : S87)⟩ : S91) : List (S91))).bind fun y237 => (laws_markCandS.l0 k1 (y237.set (x5_1 : Int).toNat (⟨(rd_T91 y237 x5_1).f0,(rd_T91 y237 x5_1).f1,(⟨(rd_T91 y237 x5_1).f2.f0,(rd_T91 y237 x5_1).f2.f1⟩ : S87),(⟨(rd_T91 y237 x5_1).f3.f0,wrap64 ((wrap64 ((wrap64 ((wrap64 ((wrap64 (x1_1 + 1)) + 1)) + 1)) + 1)) + 1)⟩ : S87)⟩ : S91)) (wrap64 ((wrap64 ((wrap64 ((wrap64 ((wrap64 ((wrap64 (x1_1 + 1)) + 1)) + 1)) + 1)) + 1)) + 1)) (wrap64 (x5_1 + 1)))))) = some (r1,r2) := by first | (rw [hy234];with_reducible exact H) | (have H2_ := (Option.bind_some _ _).symm.trans H;rw [hy234];with_reducible exact H2_) | (have H2_ := (Option.bind_some _ _).symm.trans H;with_reducible exact H2_) | with_reducible exact H | (rw [hy234];exact H) | exact H
          have Ny234 := Aside0.mk hy234
          clear hy234
          obtain ⟨y235,hy235⟩ : ∃ y_ : List (S91),y_ = (y234.set (x5_1 : Int).toNat (⟨(rd_T91 y234 x5_1).f0,(rd_T91 y234 x5_1).f1,(⟨wrap64 ((wrap64 (x1_1 + 1)) + 1),(rd_T91 y234 x5_1).f2.f1⟩ : S87),(⟨(rd_T91 y234 x5_1).f3.f0,(rd_T91 y234 x5_1).f3.f1⟩ : S87)⟩ : S91)) := ⟨_,rfl⟩
          replace H : ((some (y235.set (x5_1 : Int).toNat (⟨(rd_T91 y235 x5_1).f0,(rd_T91 y235 x5_1).f1,(⟨(rd_T91 y235 x5_1).f2.f0,wrap64 ((wrap64 ((wrap64 (x1_1 + 1)) + 1)) + 1)⟩ : S87),(⟨(rd_T91 y235 x5_1).f3.f0,(rd_T91 y235 x5_1).f3.f1⟩ : S87)⟩ : S91) : List (S91))).bind fun y236 => ((some (y236.set (x5_1 : Int).toNat (⟨(rd_T91 y236 x5_1).f0,(rd_T91 y236 x5_1).f1,(⟨(rd_T91 y236 x5_1).f2.f0,(rd_T91 y236 x5_1).f2.f1⟩ : S87),(⟨wrap64 ((wrap64 ((wrap64 ((wrap64 (x1_1 + 1)) + 1)) + 1)) + 1),(rd_T91 y236 x5_1).f3.f1⟩ : S87)⟩ : S91) : List (S91))).bind fun y237 => (laws_markCandS.l0 k1 (y237.set (x5_1 : Int).toNat (⟨(rd_T91 y237 x5_1).f0,(rd_T91 y237 x5_1).f1,(⟨(rd_T91 y237 x5_1).f2.f0,(rd_T91 y237 x5_1).f2.f1⟩ : S87),(⟨(rd_T91 y237 x5_1).f3.f0,wrap64 ((wrap64 ((wrap64 ((wrap64 ((wrap64 (x1_1 + 1)) + 1)) + 1)) + 1)) + 1)⟩ : S87)⟩ : S91)) (wrap64 ((wrap64 ((wrap64 ((wrap64 ((wrap64 ((wrap64 (x1_1 + 1)) + 1)) + 1)) + 1)) + 1)) + 1)) (wrap64 (x5_1 + 1))))) = some (r1,r2) := by first | (rw [hy235];with_reducible exact H) | (have H2_ := (Option.bind_some _ _).symm.trans H;rw [hy235];with_reducible exact H2_) | (have H2_ := (Option.bind_some _ _).symm.trans H;with_reducible exact H2_) | with_reducible exact H | (rw [hy235];exact H) | exact H
          have Ny235 := Aside0.mk hy235
          clear hy235
          obtain ⟨y236,hy236⟩ : ∃ y_ : List (S91),y_ = (y235.set (x5_1 : Int).toNat (⟨(rd_T91 y235 x5_1).f0,(rd_T91 y235 x5_1).f1,(⟨(rd_T91 y235 x5_1).f2.f0,wrap64 ((wrap64 ((wrap64 (x1_1 + 1)) + 1)) + 1)⟩ : S87),(⟨(rd_T91 y235 x5_1).f3.f0,(rd_T91 y235 x5_1).f3.f1⟩ : S87)⟩ : S91)) := ⟨_,rfl⟩
          replace H : ((some (y236.set (x5_1 : Int).toNat (⟨(rd_T91 y236 x5_1).f0,(rd_T91 y236 x5_1).f1,(⟨(rd_T91 y236 x5_1).f2.f0,(rd_T91 y236 x5_1).f2.f1⟩ : S87),(⟨wrap64 ((wrap64 ((wrap64 ((wrap64 (x1_1 + 1)) + 1)) + 1)) + 1),(rd_T91 y236 x5_1).f3.f1⟩ : S87)⟩ : S91) : List (S91))).bind fun y237 => (laws_markCandS.l0 k1 (y237.set (x5_1 : Int).toNat (⟨(rd_T91 y237 x5_1).f0,(rd_T91 y237 x5_1).f1,(⟨(rd_T91 y237 x5_1).f2.f0,(rd_T91 y237 x5_1).f2.f1⟩ : S87),(⟨(rd_T91 y237 x5_1).f3.f0,wrap64 ((wrap64 ((wrap64 ((wrap64 ((wrap64 (x1_1 + 1)) + 1)) + 1)) + 1)) + 1)⟩ : S87)⟩ : S91)) (wrap64 ((wrap64 ((wrap64 ((wrap64 ((wrap64 ((wrap64 (x1_1 + 1)) + 1)) + 1)) + 1)) + 1)) + 1)) (wrap64 (x5_1 + 1)))) = some (r1,r2) := by first | (rw [hy236];with_reducible exact H) | (have H2_ := (Option.bind_some _ _).symm.trans H;rw [hy236];with_reducible exact H2_) | (have H2_ := (Option.bind_some _ _).symm.trans H;with_reducible exact H2_) | with_reducible exact H | (rw [hy236];exact H) | exact H
          have Ny236 := Aside0.mk hy236
          clear hy236
          obtain ⟨y237,hy237⟩ : ∃ y_ : List (S91),y_ = (y236.set (x5_1 : Int).toNat (⟨(rd_T91 y236 x5_1).f0,(rd_T91 y236 x5_1).f1,(⟨(rd_T91 y236 x5_1).f2.f0,(rd_T91 y236 x5_1).f2.f1⟩ : S87),(⟨wrap64 ((wrap64 ((wrap64 ((wrap64 (x1_1 + 1)) + 1)) + 1)) + 1),(rd_T91 y236 x5_1).f3.f1⟩ : S87)⟩ : S91)) := ⟨_,rfl⟩
          replace H : (laws_markCandS.l0 k1 (y237.set (x5_1 : Int).toNat (⟨(rd_T91 y237 x5_1).f0,(rd_T91 y237 x5_1).f1,(⟨(rd_T91 y237 x5_1).f2.f0,(rd_T91 y237 x5_1).f2.f1⟩ : S87),(⟨(rd_T91 y237 x5_1).f3.f0,wrap64 ((wrap64 ((wrap64 ((wrap64 ((wrap64 (x1_1 + 1)) + 1)) + 1)) + 1)) + 1)⟩ : S87)⟩ : S91)) (wrap64 ((wrap64 ((wrap64 ((wrap64 ((wrap64 ((wrap64 (x1_1 + 1)) + 1)) + 1)) + 1)) + 1)) + 1)) (wrap64 (x5_1 + 1))) = some (r1,r2) := by first | (rw [hy237];with_reducible exact H) | (have H2_ := (Option.bind_some _ _).symm.trans H;rw [hy237];with_reducible exact H2_) | (have H2_ := (Option.bind_some _ _).symm.trans H;with_reducible exact H2_) | with_reducible exact H | (rw [hy237];exact H) | exact H
          have Ny237 := Aside0.mk hy237
          clear hy237
          obtain ⟨y238,hy238⟩ : ∃ y_ : List (S91),y_ = (y237.set (x5_1 : Int).toNat (⟨(rd_T91 y237 x5_1).f0,(rd_T91 y237 x5_1).f1,(⟨(rd_T91 y237 x5_1).f2.f0,(rd_T91 y237 x5_1).f2.f1⟩ : S87),(⟨(rd_T91 y237 x5_1).f3.f0,wrap64 ((wrap64 ((wrap64 ((wrap64 ((wrap64 (x1_1 + 1)) + 1)) + 1)) + 1)) + 1)⟩ : S87)⟩ : S91)) := ⟨_,rfl⟩
          replace H : (laws_markCandS.l0 k1 y238 (wrap64 ((wrap64 ((wrap64 ((wrap64 ((wrap64 ((wrap64 (x1_1 + 1)) + 1)) + 1)) + 1)) + 1)) + 1)) (wrap64 (x5_1 + 1))) = some (r1,r2) := by first | (rw [hy238];with_reducible exact H) | (have H2_ := (Option.bind_some _ _).symm.trans H;rw [hy238];with_reducible exact H2_) | (have H2_ := (Option.bind_some _ _).symm.trans H;with_reducible exact H2_) | with_reducible exact H | (rw [hy238];exact H) | exact H
          have Ny238 := Aside0.mk hy238
          clear hy238
          have H' := Aside0.mk H
          clear H
          obtain ⟨Ao11,co11,eo11⟩ := Kd.R_slice HO_0.out
          subst eo11
          have p5 : 0 ≤ (x5_1 : Int) := of_decide_eq_true (by first | (with_reducible assumption) | assumption)
          have q5 : (x5_1 : Int) < ((x0_1.length : Int) : Int) := of_decide_eq_true (by first | (with_reducible assumption) | assumption)
          obtain ⟨go5,co5,eo5,gb5,gl5,cl5,HG5⟩ := Kd.R_form HO_0.out (by omega)
          (first | cases eo5 | (injection eo5 with ea_ en_ ec_;(first | subst ea_ | (injection ea_ with ea_;subst ea_));subst ec_;clear en_))
          have GB5 := Aside0.mk gb5
          have GG5 := Aside0.mk HG5
          clear gb5 gl5 HG5
          have HMgo5 := Aside0.mk (show (P0_ go5 ∨ w.heap.size ≤ go5) from (HO_0.out.1 _ rfl))
          obtain ⟨ce5,hcl5,hM5,hcc5,hfr5⟩ := Kd.R_elem HO_0.out z91 (x5_1 : Int) p5 q5
          obtain rfl := k91_openM hM5
          have hx5_0 : wr.cell? ⟨go5,(x5_1 : Int).toNat * 6,none⟩ = some (.int .i64 ((rd_T91 x0_1 x5_1).f0)) := hcc5 0 _ rfl
          have hx5_1 : wr.cell? ⟨go5,(x5_1 : Int).toNat * 6 + 1,none⟩ = some (.int .i64 ((rd_T91 x0_1 x5_1).f1)) := hcc5 1 _ rfl
          have hx5_2 : wr.cell? ⟨go5,(x5_1 : Int).toNat * 6 + 2,none⟩ = some (.int .i64 ((rd_T91 x0_1 x5_1).f2.f0)) := hcc5 2 _ rfl
          have hx5_3 : wr.cell? ⟨go5,(x5_1 : Int).toNat * 6 + 3,none⟩ = some (.int .i64 ((rd_T91 x0_1 x5_1).f2.f1)) := hcc5 3 _ rfl
          have hx5_4 : wr.cell? ⟨go5,(x5_1 : Int).toNat * 6 + 4,none⟩ = some (.int .i64 ((rd_T91 x0_1 x5_1).f3.f0)) := hcc5 4 _ rfl
          have hx5_5 : wr.cell? ⟨go5,(x5_1 : Int).toNat * 6 + 5,none⟩ = some (.int .i64 ((rd_T91 x0_1 x5_1).f3.f1)) := hcc5 5 _ rfl
          have hf5_0 : wr.frozen? ⟨go5,(x5_1 : Int).toNat * 6,none⟩ = false := hfr5 0
          have hf5_1 : wr.frozen? ⟨go5,(x5_1 : Int).toNat * 6 + 1,none⟩ = false := hfr5 1
          have hf5_2 : wr.frozen? ⟨go5,(x5_1 : Int).toNat * 6 + 2,none⟩ = false := hfr5 2
          have hf5_3 : wr.frozen? ⟨go5,(x5_1 : Int).toNat * 6 + 3,none⟩ = false := hfr5 3
          have hf5_4 : wr.frozen? ⟨go5,(x5_1 : Int).toNat * 6 + 4,none⟩ = false := hfr5 4
          have hf5_5 : wr.frozen? ⟨go5,(x5_1 : Int).toNat * 6 + 5,none⟩ = false := hfr5 5
          (try clear hcl5);(try clear hcc5);(try clear hfr5);(try clear hM5)
          replace p5 := eq_true p5
          replace q5 := eq_true q5
          have HX12 := Aside0.mk (show Kd.R k91 91 wr w0.heap.size (fun k_ => (P0_ k_ ∨ w.heap.size ≤ k_)) (.slice (some ⟨go5,0,none⟩) x0_1.length co11) x0_1 from (by (with_reducible repeat (first | apply Kd.R_alloc | apply Kd.R_drewN | apply Kd.R_drew));exact HO_0.out))
          obtain ⟨ce12,hcl12,hM12,hcc12,hfr12⟩ := Kd.R_elem HX12.out z91 (x5_1 : Int) (of_decide_eq_true (by first | (with_reducible assumption) | assumption)) (by have h_ : (x5_1 : Int) < ((x0_1.length : Int) : Int) := of_decide_eq_true (by first | (with_reducible assumption) | assumption);first | exact h_ | (have e_ := (Kd.R_reads' HO_0.out).1;omega) | simpa using h_)
          obtain rfl := k91_openM hM12
          have HP12 := Kd.R_seg HX12.out (x5_1 : Int) (of_decide_eq_true (by first | (with_reducible assumption) | assumption)) (by have h_ : (x5_1 : Int) < ((x0_1.length : Int) : Int) := of_decide_eq_true (by first | (with_reducible assumption) | assumption);first | exact h_ | (have e_ := (Kd.R_reads' HO_0.out).1;omega) | simpa using h_) (seg := [.int .i64 x1_1]) (j := 0) hcl12 hcc12 (show 1 ≤ 6 from by decide) (x' := (⟨x1_1,(rd_T91 x0_1 x5_1).f1,(⟨(rd_T91 x0_1 x5_1).f2.f0,(rd_T91 x0_1 x5_1).f2.f1⟩ : S87),(⟨(rd_T91 x0_1 x5_1).f3.f0,(rd_T91 x0_1 x5_1).f3.f1⟩ : S87)⟩ : S91)) (k91_mkM _ _ _ (⟨x1_1,(rd_T91 x0_1 x5_1).f1,(⟨(rd_T91 x0_1 x5_1).f2.f0,(rd_T91 x0_1 x5_1).f2.f1⟩ : S87),(⟨(rd_T91 x0_1 x5_1).f3.f0,(rd_T91 x0_1 x5_1).f3.f1⟩ : S87)⟩ : S91) ) (fun _ hk => hk)
          have hx12_0 := hcc12 0 _ rfl
          (try simp only [show (k91).sz = 6 from rfl,Nat.mul_one,Nat.add_zero] at hx12_0)
          have hf12_0 := hfr12 0
          (try simp only [show (k91).sz = 6 from rfl,Nat.mul_one,Nat.add_zero] at hf12_0)
          (try clear hcl12);(try clear hcc12);(try clear hfr12);(try clear hM12)
          go_wp2_with (first | ((with_reducible refine gate_store (t := 3) (p := 16) rfl ?_);refine store_event (t := 3) (p := 16) (v := ?vo_w13) (w1 := (wr.setCell ⟨go5,(x5_1 : Int).toNat * 6,none⟩ (.int .i64 x1_1))) ?hg ?ho ?hn ?hr ?_;(case ho => rfl);(case hg => rfl);(case hn => rfl);(case hr => first | (go_simp;done) | (go_simp;rfl));intro w13 hw;have hg : wr.grownBy w13 (some go5) := (by rw [hw];exact HP12.2);have hp_ : Kd.R k91 91 w13 w0.heap.size (fun k_ => (P0_ k_ ∨ w.heap.size ≤ k_)) (.slice (some ⟨go5,0,none⟩) x0_1.length co11) y233 := (by rw [hw,Ny233.out];exact HP12.1);clear HP12;have n0_ := Aside0.mk (hp_);have n1_ := Aside0.mk ((by rw [hw];exact below_set (HB.out) GB5.out : Below w0.heap.size w0 w13));have n2_ := Aside0.mk (Kept.of_grown (S := (fun k_ => P0_ k_)) hg (by repeat (first | (with_reducible first | exact HK.out | apply Kept.alloc | apply Kept.drewN | apply Kept.drew) | exact HK.out)) (fun k_ e_ => (HO_0.out.1 k_ e_)));clear HO_0;clear HB;clear HK;have HO_0 := n0_;have HB := n1_;have HK := n2_;clear n0_ n1_ n2_;clear hg hw hp_;have p6 : 0 ≤ (x5_1 : Int) := of_decide_eq_true (by first | (with_reducible assumption) | assumption);have q6 : (x5_1 : Int) < ((x0_1.length : Int) : Int) := of_decide_eq_true (by first | (with_reducible assumption) | assumption);obtain ⟨ce6,hcl6,hM6,hcc6,hfr6⟩ := Kd.R_elem HO_0.out z91 (x5_1 : Int) p6 q6;obtain rfl := k91_openM hM6;have hx6_0 : w13.cell? ⟨go5,(x5_1 : Int).toNat * 6,none⟩ = some (.int .i64 ((rd_T91 y233 x5_1).f0)) := hcc6 0 _ rfl;have hx6_1 : w13.cell? ⟨go5,(x5_1 : Int).toNat * 6 + 1,none⟩ = some (.int .i64 ((rd_T91 y233 x5_1).f1)) := hcc6 1 _ rfl;have hx6_2 : w13.cell? ⟨go5,(x5_1 : Int).toNat * 6 + 2,none⟩ = some (.int .i64 ((rd_T91 y233 x5_1).f2.f0)) := hcc6 2 _ rfl;have hx6_3 : w13.cell? ⟨go5,(x5_1 : Int).toNat * 6 + 3,none⟩ = some (.int .i64 ((rd_T91 y233 x5_1).f2.f1)) := hcc6 3 _ rfl;have hx6_4 : w13.cell? ⟨go5,(x5_1 : Int).toNat * 6 + 4,none⟩ = some (.int .i64 ((rd_T91 y233 x5_1).f3.f0)) := hcc6 4 _ rfl;have hx6_5 : w13.cell? ⟨go5,(x5_1 : Int).toNat * 6 + 5,none⟩ = some (.int .i64 ((rd_T91 y233 x5_1).f3.f1)) := hcc6 5 _ rfl;have hf6_0 : w13.frozen? ⟨go5,(x5_1 : Int).toNat * 6,none⟩ = false := hfr6 0;have hf6_1 : w13.frozen? ⟨go5,(x5_1 : Int).toNat * 6 + 1,none⟩ = false := hfr6 1;have hf6_2 : w13.frozen? ⟨go5,(x5_1 : Int).toNat * 6 + 2,none⟩ = false := hfr6 2;have hf6_3 : w13.frozen? ⟨go5,(x5_1 : Int).toNat * 6 + 3,none⟩ = false := hfr6 3;have hf6_4 : w13.frozen? ⟨go5,(x5_1 : Int).toNat * 6 + 4,none⟩ = false := hfr6 4;have hf6_5 : w13.frozen? ⟨go5,(x5_1 : Int).toNat * 6 + 5,none⟩ = false := hfr6 5;(try clear hcl6);(try clear hcc6);(try clear hfr6);(try clear hM6);replace p6 := eq_true p6;replace q6 := eq_true q6;have HX14 := Aside0.mk (show Kd.R k91 91 w13 w0.heap.size (fun k_ => (P0_ k_ ∨ w.heap.size ≤ k_)) (.slice (some ⟨go5,0,none⟩) x0_1.length co11) y233 from (by (with_reducible repeat (first | apply Kd.R_alloc | apply Kd.R_drewN | apply Kd.R_drew));exact HO_0.out));obtain ⟨ce14,hcl14,hM14,hcc14,hfr14⟩ := Kd.R_elem HX14.out z91 (x5_1 : Int) (of_decide_eq_true (by first | (with_reducible assumption) | assumption)) (by have h_ : (x5_1 : Int) < ((x0_1.length : Int) : Int) := of_decide_eq_true (by first | (with_reducible assumption) | assumption);first | exact h_ | (have e_ := (Kd.R_reads' HO_0.out).1;omega) | simpa using h_);obtain rfl := k91_openM hM14;have HP14 := Kd.R_seg HX14.out (x5_1 : Int) (of_decide_eq_true (by first | (with_reducible assumption) | assumption)) (by have h_ : (x5_1 : Int) < ((x0_1.length : Int) : Int) := of_decide_eq_true (by first | (with_reducible assumption) | assumption);first | exact h_ | (have e_ := (Kd.R_reads' HO_0.out).1;omega) | simpa using h_) (seg := [.int .i64 (wrap64 (x1_1 + 1))]) (j := 1) hcl14 hcc14 (show 2 ≤ 6 from by decide) (x' := (⟨(rd_T91 y233 x5_1).f0,wrap64 (x1_1 + 1),(⟨(rd_T91 y233 x5_1).f2.f0,(rd_T91 y233 x5_1).f2.f1⟩ : S87),(⟨(rd_T91 y233 x5_1).f3.f0,(rd_T91 y233 x5_1).f3.f1⟩ : S87)⟩ : S91)) (k91_mkM _ _ _ (⟨(rd_T91 y233 x5_1).f0,wrap64 (x1_1 + 1),(⟨(rd_T91 y233 x5_1).f2.f0,(rd_T91 y233 x5_1).f2.f1⟩ : S87),(⟨(rd_T91 y233 x5_1).f3.f0,(rd_T91 y233 x5_1).f3.f1⟩ : S87)⟩ : S91) ) (fun _ hk => hk);have hx14_1 := hcc14 1 _ rfl;(try simp only [show (k91).sz = 6 from rfl,Nat.mul_one,Nat.add_zero] at hx14_1);have hf14_1 := hfr14 1;(try simp only [show (k91).sz = 6 from rfl,Nat.mul_one,Nat.add_zero] at hf14_1);(try clear hcl14);(try clear hcc14);(try clear hfr14);(try clear hM14)) | ((with_reducible refine gate_store (t := 3) (p := 23) rfl ?_);refine store_event (t := 3) (p := 23) (v := ?vo_w15) (w1 := (w13.setCell ⟨go5,(x5_1 : Int).toNat * 6 + 1,none⟩ (.int .i64 (wrap64 (x1_1 + 1))))) ?hg ?ho ?hn ?hr ?_;(case ho => rfl);(case hg => rfl);(case hn => rfl);(case hr => first | (go_simp;done) | (go_simp;rfl));intro w15 hw;have hg : w13.grownBy w15 (some go5) := (by rw [hw];exact HP14.2);have hp_ : Kd.R k91 91 w15 w0.heap.size (fun k_ => (P0_ k_ ∨ w.heap.size ≤ k_)) (.slice (some ⟨go5,0,none⟩) x0_1.length co11) y234 := (by rw [hw,Ny234.out];exact HP14.1);clear HP14;have n0_ := Aside0.mk (hp_);have n1_ := Aside0.mk ((by rw [hw];exact below_set (HB.out) GB5.out : Below w0.heap.size w0 w15));have n2_ := Aside0.mk (Kept.of_grown (S := (fun k_ => P0_ k_)) hg (by repeat (first | (with_reducible first | exact HK.out | apply Kept.alloc | apply Kept.drewN | apply Kept.drew) | exact HK.out)) (fun k_ e_ => (HO_0.out.1 k_ e_)));clear HO_0;clear HB;clear HK;have HO_0 := n0_;have HB := n1_;have HK := n2_;clear n0_ n1_ n2_;clear hg hw hp_;have p7 : 0 ≤ (x5_1 : Int) := of_decide_eq_true (by first | (with_reducible assumption) | assumption);have q7 : (x5_1 : Int) < ((x0_1.length : Int) : Int) := of_decide_eq_true (by first | (with_reducible assumption) | assumption);obtain ⟨ce7,hcl7,hM7,hcc7,hfr7⟩ := Kd.R_elem HO_0.out z91 (x5_1 : Int) p7 q7;obtain rfl := k91_openM hM7;have hx7_0 : w15.cell? ⟨go5,(x5_1 : Int).toNat * 6,none⟩ = some (.int .i64 ((rd_T91 y234 x5_1).f0)) := hcc7 0 _ rfl;have hx7_1 : w15.cell? ⟨go5,(x5_1 : Int).toNat * 6 + 1,none⟩ = some (.int .i64 ((rd_T91 y234 x5_1).f1)) := hcc7 1 _ rfl;have hx7_2 : w15.cell? ⟨go5,(x5_1 : Int).toNat * 6 + 2,none⟩ = some (.int .i64 ((rd_T91 y234 x5_1).f2.f0)) := hcc7 2 _ rfl;have hx7_3 : w15.cell? ⟨go5,(x5_1 : Int).toNat * 6 + 3,none⟩ = some (.int .i64 ((rd_T91 y234 x5_1).f2.f1)) := hcc7 3 _ rfl;have hx7_4 : w15.cell? ⟨go5,(x5_1 : Int).toNat * 6 + 4,none⟩ = some (.int .i64 ((rd_T91 y234 x5_1).f3.f0)) := hcc7 4 _ rfl;have hx7_5 : w15.cell? ⟨go5,(x5_1 : Int).toNat * 6 + 5,none⟩ = some (.int .i64 ((rd_T91 y234 x5_1).f3.f1)) := hcc7 5 _ rfl;have hf7_0 : w15.frozen? ⟨go5,(x5_1 : Int).toNat * 6,none⟩ = false := hfr7 0;have hf7_1 : w15.frozen? ⟨go5,(x5_1 : Int).toNat * 6 + 1,none⟩ = false := hfr7 1;have hf7_2 : w15.frozen? ⟨go5,(x5_1 : Int).toNat * 6 + 2,none⟩ = false := hfr7 2;have hf7_3 : w15.frozen? ⟨go5,(x5_1 : Int).toNat * 6 + 3,none⟩ = false := hfr7 3;have hf7_4 : w15.frozen? ⟨go5,(x5_1 : Int).toNat * 6 + 4,none⟩ = false := hfr7 4;have hf7_5 : w15.frozen? ⟨go5,(x5_1 : Int).toNat * 6 + 5,none⟩ = false := hfr7 5;(try clear hcl7);(try clear hcc7);(try clear hfr7);(try clear hM7);replace p7 := eq_true p7;replace q7 := eq_true q7;have HX16 := Aside0.mk (show Kd.R k91 91 w15 w0.heap.size (fun k_ => (P0_ k_ ∨ w.heap.size ≤ k_)) (.slice (some ⟨go5,0,none⟩) x0_1.length co11) y234 from (by (with_reducible repeat (first | apply Kd.R_alloc | apply Kd.R_drewN | apply Kd.R_drew));exact HO_0.out));obtain ⟨ce16,hcl16,hM16,hcc16,hfr16⟩ := Kd.R_elem HX16.out z91 (x5_1 : Int) (of_decide_eq_true (by first | (with_reducible assumption) | assumption)) (by have h_ : (x5_1 : Int) < ((x0_1.length : Int) : Int) := of_decide_eq_true (by first | (with_reducible assumption) | assumption);first | exact h_ | (have e_ := (Kd.R_reads' HO_0.out).1;omega) | simpa using h_);obtain rfl := k91_openM hM16;have HP16 := Kd.R_seg HX16.out (x5_1 : Int) (of_decide_eq_true (by first | (with_reducible assumption) | assumption)) (by have h_ : (x5_1 : Int) < ((x0_1.length : Int) : Int) := of_decide_eq_true (by first | (with_reducible assumption) | assumption);first | exact h_ | (have e_ := (Kd.R_reads' HO_0.out).1;omega) | simpa using h_) (seg := [.int .i64 (wrap64 ((wrap64 (x1_1 + 1)) + 1))]) (j := 2) hcl16 hcc16 (show 3 ≤ 6 from by decide) (x' := (⟨(rd_T91 y234 x5_1).f0,(rd_T91 y234 x5_1).f1,(⟨wrap64 ((wrap64 (x1_1 + 1)) + 1),(rd_T91 y234 x5_1).f2.f1⟩ : S87),(⟨(rd_T91 y234 x5_1).f3.f0,(rd_T91 y234 x5_1).f3.f1⟩ : S87)⟩ : S91)) (k91_mkM _ _ _ (⟨(rd_T91 y234 x5_1).f0,(rd_T91 y234 x5_1).f1,(⟨wrap64 ((wrap64 (x1_1 + 1)) + 1),(rd_T91 y234 x5_1).f2.f1⟩ : S87),(⟨(rd_T91 y234 x5_1).f3.f0,(rd_T91 y234 x5_1).f3.f1⟩ : S87)⟩ : S91) ) (fun _ hk => hk);have hx16_2 := hcc16 2 _ rfl;(try simp only [show (k91).sz = 6 from rfl,Nat.mul_one,Nat.add_zero] at hx16_2);have hf16_2 := hfr16 2;(try simp only [show (k91).sz = 6 from rfl,Nat.mul_one,Nat.add_zero] at hf16_2);(try clear hcl16);(try clear hcc16);(try clear hfr16);(try clear hM16)) | ((with_reducible refine gate_store (t := 3) (p := 31) rfl ?_);refine store_event (t := 3) (p := 31) (v := ?vo_w17) (w1 := (w15.setCell ⟨go5,(x5_1 : Int).toNat * 6 + 2,none⟩ (.int .i64 (wrap64 ((wrap64 (x1_1 + 1)) + 1))))) ?hg ?ho ?hn ?hr ?_;(case ho => rfl);(case hg => rfl);(case hn => rfl);(case hr => first | (go_simp;done) | (go_simp;rfl));intro w17 hw;have hg : w15.grownBy w17 (some go5) := (by rw [hw];exact HP16.2);have hp_ : Kd.R k91 91 w17 w0.heap.size (fun k_ => (P0_ k_ ∨ w.heap.size ≤ k_)) (.slice (some ⟨go5,0,none⟩) x0_1.length co11) y235 := (by rw [hw,Ny235.out];exact HP16.1);clear HP16;have n0_ := Aside0.mk (hp_);have n1_ := Aside0.mk ((by rw [hw];exact below_set (HB.out) GB5.out : Below w0.heap.size w0 w17));have n2_ := Aside0.mk (Kept.of_grown (S := (fun k_ => P0_ k_)) hg (by repeat (first | (with_reducible first | exact HK.out | apply Kept.alloc | apply Kept.drewN | apply Kept.drew) | exact HK.out)) (fun k_ e_ => (HO_0.out.1 k_ e_)));clear HO_0;clear HB;clear HK;have HO_0 := n0_;have HB := n1_;have HK := n2_;clear n0_ n1_ n2_;clear hg hw hp_;have p8 : 0 ≤ (x5_1 : Int) := of_decide_eq_true (by first | (with_reducible assumption) | assumption);have q8 : (x5_1 : Int) < ((x0_1.length : Int) : Int) := of_decide_eq_true (by first | (with_reducible assumption) | assumption);obtain ⟨ce8,hcl8,hM8,hcc8,hfr8⟩ := Kd.R_elem HO_0.out z91 (x5_1 : Int) p8 q8;obtain rfl := k91_openM hM8;have hx8_0 : w17.cell? ⟨go5,(x5_1 : Int).toNat * 6,none⟩ = some (.int .i64 ((rd_T91 y235 x5_1).f0)) := hcc8 0 _ rfl;have hx8_1 : w17.cell? ⟨go5,(x5_1 : Int).toNat * 6 + 1,none⟩ = some (.int .i64 ((rd_T91 y235 x5_1).f1)) := hcc8 1 _ rfl;have hx8_2 : w17.cell? ⟨go5,(x5_1 : Int).toNat * 6 + 2,none⟩ = some (.int .i64 ((rd_T91 y235 x5_1).f2.f0)) := hcc8 2 _ rfl;have hx8_3 : w17.cell? ⟨go5,(x5_1 : Int).toNat * 6 + 3,none⟩ = some (.int .i64 ((rd_T91 y235 x5_1).f2.f1)) := hcc8 3 _ rfl;have hx8_4 : w17.cell? ⟨go5,(x5_1 : Int).toNat * 6 + 4,none⟩ = some (.int .i64 ((rd_T91 y235 x5_1).f3.f0)) := hcc8 4 _ rfl;have hx8_5 : w17.cell? ⟨go5,(x5_1 : Int).toNat * 6 + 5,none⟩ = some (.int .i64 ((rd_T91 y235 x5_1).f3.f1)) := hcc8 5 _ rfl;have hf8_0 : w17.frozen? ⟨go5,(x5_1 : Int).toNat * 6,none⟩ = false := hfr8 0;have hf8_1 : w17.frozen? ⟨go5,(x5_1 : Int).toNat * 6 + 1,none⟩ = false := hfr8 1;have hf8_2 : w17.frozen? ⟨go5,(x5_1 : Int).toNat * 6 + 2,none⟩ = false := hfr8 2;have hf8_3 : w17.frozen? ⟨go5,(x5_1 : Int).toNat * 6 + 3,none⟩ = false := hfr8 3;have hf8_4 : w17.frozen? ⟨go5,(x5_1 : Int).toNat * 6 + 4,none⟩ = false := hfr8 4;have hf8_5 : w17.frozen? ⟨go5,(x5_1 : Int).toNat * 6 + 5,none⟩ = false := hfr8 5;(try clear hcl8);(try clear hcc8);(try clear hfr8);(try clear hM8);replace p8 := eq_true p8;replace q8 := eq_true q8;have HX18 := Aside0.mk (show Kd.R k91 91 w17 w0.heap.size (fun k_ => (P0_ k_ ∨ w.heap.size ≤ k_)) (.slice (some ⟨go5,0,none⟩) x0_1.length co11) y235 from (by (with_reducible repeat (first | apply Kd.R_alloc | apply Kd.R_drewN | apply Kd.R_drew));exact HO_0.out));obtain ⟨ce18,hcl18,hM18,hcc18,hfr18⟩ := Kd.R_elem HX18.out z91 (x5_1 : Int) (of_decide_eq_true (by first | (with_reducible assumption) | assumption)) (by have h_ : (x5_1 : Int) < ((x0_1.length : Int) : Int) := of_decide_eq_true (by first | (with_reducible assumption) | assumption);first | exact h_ | (have e_ := (Kd.R_reads' HO_0.out).1;omega) | simpa using h_);obtain rfl := k91_openM hM18;have HP18 := Kd.R_seg HX18.out (x5_1 : Int) (of_decide_eq_true (by first | (with_reducible assumption) | assumption)) (by have h_ : (x5_1 : Int) < ((x0_1.length : Int) : Int) := of_decide_eq_true (by first | (with_reducible assumption) | assumption);first | exact h_ | (have e_ := (Kd.R_reads' HO_0.out).1;omega) | simpa using h_) (seg := [.int .i64 (wrap64 ((wrap64 ((wrap64 (x1_1 + 1)) + 1)) + 1))]) (j := 3) hcl18 hcc18 (show 4 ≤ 6 from by decide) (x' := (⟨(rd_T91 y235 x5_1).f0,(rd_T91 y235 x5_1).f1,(⟨(rd_T91 y235 x5_1).f2.f0,wrap64 ((wrap64 ((wrap64 (x1_1 + 1)) + 1)) + 1)⟩ : S87),(⟨(rd_T91 y235 x5_1).f3.f0,(rd_T91 y235 x5_1).f3.f1⟩ : S87)⟩ : S91)) (k91_mkM _ _ _ (⟨(rd_T91 y235 x5_1).f0,(rd_T91 y235 x5_1).f1,(⟨(rd_T91 y235 x5_1).f2.f0,wrap64 ((wrap64 ((wrap64 (x1_1 + 1)) + 1)) + 1)⟩ : S87),(⟨(rd_T91 y235 x5_1).f3.f0,(rd_T91 y235 x5_1).f3.f1⟩ : S87)⟩ : S91) ) (fun _ hk => hk);have hx18_3 := hcc18 3 _ rfl;(try simp only [show (k91).sz = 6 from rfl,Nat.mul_one,Nat.add_zero] at hx18_3);have hf18_3 := hfr18 3;(try simp only [show (k91).sz = 6 from rfl,Nat.mul_one,Nat.add_zero] at hf18_3);(try clear hcl18);(try clear hcc18);(try clear hfr18);(try clear hM18)) | ((with_reducible refine gate_store (t := 3) (p := 39) rfl ?_);refine store_event (t := 3) (p := 39) (v := ?vo_w19) (w1 := (w17.setCell ⟨go5,(x5_1 : Int).toNat * 6 + 3,none⟩ (.int .i64 (wrap64 ((wrap64 ((wrap64 (x1_1 + 1)) + 1)) + 1))))) ?hg ?ho ?hn ?hr ?_;(case ho => rfl);(case hg => rfl);(case hn => rfl);(case hr => first | (go_simp;done) | (go_simp;rfl));intro w19 hw;have hg : w17.grownBy w19 (some go5) := (by rw [hw];exact HP18.2);have hp_ : Kd.R k91 91 w19 w0.heap.size (fun k_ => (P0_ k_ ∨ w.heap.size ≤ k_)) (.slice (some ⟨go5,0,none⟩) x0_1.length co11) y236 := (by rw [hw,Ny236.out];exact HP18.1);clear HP18;have n0_ := Aside0.mk (hp_);have n1_ := Aside0.mk ((by rw [hw];exact below_set (HB.out) GB5.out : Below w0.heap.size w0 w19));have n2_ := Aside0.mk (Kept.of_grown (S := (fun k_ => P0_ k_)) hg (by repeat (first | (with_reducible first | exact HK.out | apply Kept.alloc | apply Kept.drewN | apply Kept.drew) | exact HK.out)) (fun k_ e_ => (HO_0.out.1 k_ e_)));clear HO_0;clear HB;clear HK;have HO_0 := n0_;have HB := n1_;have HK := n2_;clear n0_ n1_ n2_;clear hg hw hp_;have p9 : 0 ≤ (x5_1 : Int) := of_decide_eq_true (by first | (with_reducible assumption) | assumption);have q9 : (x5_1 : Int) < ((x0_1.length : Int) : Int) := of_decide_eq_true (by first | (with_reducible assumption) | assumption);obtain ⟨ce9,hcl9,hM9,hcc9,hfr9⟩ := Kd.R_elem HO_0.out z91 (x5_1 : Int) p9 q9;obtain rfl := k91_openM hM9;have hx9_0 : w19.cell? ⟨go5,(x5_1 : Int).toNat * 6,none⟩ = some (.int .i64 ((rd_T91 y236 x5_1).f0)) := hcc9 0 _ rfl;have hx9_1 : w19.cell? ⟨go5,(x5_1 : Int).toNat * 6 + 1,none⟩ = some (.int .i64 ((rd_T91 y236 x5_1).f1)) := hcc9 1 _ rfl;have hx9_2 : w19.cell? ⟨go5,(x5_1 : Int).toNat * 6 + 2,none⟩ = some (.int .i64 ((rd_T91 y236 x5_1).f2.f0)) := hcc9 2 _ rfl;have hx9_3 : w19.cell? ⟨go5,(x5_1 : Int).toNat * 6 + 3,none⟩ = some (.int .i64 ((rd_T91 y236 x5_1).f2.f1)) := hcc9 3 _ rfl;have hx9_4 : w19.cell? ⟨go5,(x5_1 : Int).toNat * 6 + 4,none⟩ = some (.int .i64 ((rd_T91 y236 x5_1).f3.f0)) := hcc9 4 _ rfl;have hx9_5 : w19.cell? ⟨go5,(x5_1 : Int).toNat * 6 + 5,none⟩ = some (.int .i64 ((rd_T91 y236 x5_1).f3.f1)) := hcc9 5 _ rfl;have hf9_0 : w19.frozen? ⟨go5,(x5_1 : Int).toNat * 6,none⟩ = false := hfr9 0;have hf9_1 : w19.frozen? ⟨go5,(x5_1 : Int).toNat * 6 + 1,none⟩ = false := hfr9 1;have hf9_2 : w19.frozen? ⟨go5,(x5_1 : Int).toNat * 6 + 2,none⟩ = false := hfr9 2;have hf9_3 : w19.frozen? ⟨go5,(x5_1 : Int).toNat * 6 + 3,none⟩ = false := hfr9 3;have hf9_4 : w19.frozen? ⟨go5,(x5_1 : Int).toNat * 6 + 4,none⟩ = false := hfr9 4;have hf9_5 : w19.frozen? ⟨go5,(x5_1 : Int).toNat * 6 + 5,none⟩ = false := hfr9 5;(try clear hcl9);(try clear hcc9);(try clear hfr9);(try clear hM9);replace p9 := eq_true p9;replace q9 := eq_true q9;have HX20 := Aside0.mk (show Kd.R k91 91 w19 w0.heap.size (fun k_ => (P0_ k_ ∨ w.heap.size ≤ k_)) (.slice (some ⟨go5,0,none⟩) x0_1.length co11) y236 from (by (with_reducible repeat (first | apply Kd.R_alloc | apply Kd.R_drewN | apply Kd.R_drew));exact HO_0.out));obtain ⟨ce20,hcl20,hM20,hcc20,hfr20⟩ := Kd.R_elem HX20.out z91 (x5_1 : Int) (of_decide_eq_true (by first | (with_reducible assumption) | assumption)) (by have h_ : (x5_1 : Int) < ((x0_1.length : Int) : Int) := of_decide_eq_true (by first | (with_reducible assumption) | assumption);first | exact h_ | (have e_ := (Kd.R_reads' HO_0.out).1;omega) | simpa using h_);obtain rfl := k91_openM hM20;have HP20 := Kd.R_seg HX20.out (x5_1 : Int) (of_decide_eq_true (by first | (with_reducible assumption) | assumption)) (by have h_ : (x5_1 : Int) < ((x0_1.length : Int) : Int) := of_decide_eq_true (by first | (with_reducible assumption) | assumption);first | exact h_ | (have e_ := (Kd.R_reads' HO_0.out).1;omega) | simpa using h_) (seg := [.int .i64 (wrap64 ((wrap64 ((wrap64 ((wrap64 (x1_1 + 1)) + 1)) + 1)) + 1))]) (j := 4) hcl20 hcc20 (show 5 ≤ 6 from by decide) (x' := (⟨(rd_T91 y236 x5_1).f0,(rd_T91 y236 x5_1).f1,(⟨(rd_T91 y236 x5_1).f2.f0,(rd_T91 y236 x5_1).f2.f1⟩ : S87),(⟨wrap64 ((wrap64 ((wrap64 ((wrap64 (x1_1 + 1)) + 1)) + 1)) + 1),(rd_T91 y236 x5_1).f3.f1⟩ : S87)⟩ : S91)) (k91_mkM _ _ _ (⟨(rd_T91 y236 x5_1).f0,(rd_T91 y236 x5_1).f1,(⟨(rd_T91 y236 x5_1).f2.f0,(rd_T91 y236 x5_1).f2.f1⟩ : S87),(⟨wrap64 ((wrap64 ((wrap64 ((wrap64 (x1_1 + 1)) + 1)) + 1)) + 1),(rd_T91 y236 x5_1).f3.f1⟩ : S87)⟩ : S91) ) (fun _ hk => hk);have hx20_4 := hcc20 4 _ rfl;(try simp only [show (k91).sz = 6 from rfl,Nat.mul_one,Nat.add_zero] at hx20_4);have hf20_4 := hfr20 4;(try simp only [show (k91).sz = 6 from rfl,Nat.mul_one,Nat.add_zero] at hf20_4);(try clear hcl20);(try clear hcc20);(try clear hfr20);(try clear hM20)) | ((with_reducible refine gate_store (t := 3) (p := 47) rfl ?_);refine store_event (t := 3) (p := 47) (v := ?vo_w21) (w1 := (w19.setCell ⟨go5,(x5_1 : Int).toNat * 6 + 4,none⟩ (.int .i64 (wrap64 ((wrap64 ((wrap64 ((wrap64 (x1_1 + 1)) + 1)) + 1)) + 1))))) ?hg ?ho ?hn ?hr ?_;(case ho => rfl);(case hg => rfl);(case hn => rfl);(case hr => first | (go_simp;done) | (go_simp;rfl));intro w21 hw;have hg : w19.grownBy w21 (some go5) := (by rw [hw];exact HP20.2);have hp_ : Kd.R k91 91 w21 w0.heap.size (fun k_ => (P0_ k_ ∨ w.heap.size ≤ k_)) (.slice (some ⟨go5,0,none⟩) x0_1.length co11) y237 := (by rw [hw,Ny237.out];exact HP20.1);clear HP20;have n0_ := Aside0.mk (hp_);have n1_ := Aside0.mk ((by rw [hw];exact below_set (HB.out) GB5.out : Below w0.heap.size w0 w21));have n2_ := Aside0.mk (Kept.of_grown (S := (fun k_ => P0_ k_)) hg (by repeat (first | (with_reducible first | exact HK.out | apply Kept.alloc | apply Kept.drewN | apply Kept.drew) | exact HK.out)) (fun k_ e_ => (HO_0.out.1 k_ e_)));clear HO_0;clear HB;clear HK;have HO_0 := n0_;have HB := n1_;have HK := n2_;clear n0_ n1_ n2_;clear hg hw hp_;have p10 : 0 ≤ (x5_1 : Int) := of_decide_eq_true (by first | (with_reducible assumption) | assumption);have q10 : (x5_1 : Int) < ((x0_1.length : Int) : Int) := of_decide_eq_true (by first | (with_reducible assumption) | assumption);obtain ⟨ce10,hcl10,hM10,hcc10,hfr10⟩ := Kd.R_elem HO_0.out z91 (x5_1 : Int) p10 q10;obtain rfl := k91_openM hM10;have hx10_0 : w21.cell? ⟨go5,(x5_1 : Int).toNat * 6,none⟩ = some (.int .i64 ((rd_T91 y237 x5_1).f0)) := hcc10 0 _ rfl;have hx10_1 : w21.cell? ⟨go5,(x5_1 : Int).toNat * 6 + 1,none⟩ = some (.int .i64 ((rd_T91 y237 x5_1).f1)) := hcc10 1 _ rfl;have hx10_2 : w21.cell? ⟨go5,(x5_1 : Int).toNat * 6 + 2,none⟩ = some (.int .i64 ((rd_T91 y237 x5_1).f2.f0)) := hcc10 2 _ rfl;have hx10_3 : w21.cell? ⟨go5,(x5_1 : Int).toNat * 6 + 3,none⟩ = some (.int .i64 ((rd_T91 y237 x5_1).f2.f1)) := hcc10 3 _ rfl;have hx10_4 : w21.cell? ⟨go5,(x5_1 : Int).toNat * 6 + 4,none⟩ = some (.int .i64 ((rd_T91 y237 x5_1).f3.f0)) := hcc10 4 _ rfl;have hx10_5 : w21.cell? ⟨go5,(x5_1 : Int).toNat * 6 + 5,none⟩ = some (.int .i64 ((rd_T91 y237 x5_1).f3.f1)) := hcc10 5 _ rfl;have hf10_0 : w21.frozen? ⟨go5,(x5_1 : Int).toNat * 6,none⟩ = false := hfr10 0;have hf10_1 : w21.frozen? ⟨go5,(x5_1 : Int).toNat * 6 + 1,none⟩ = false := hfr10 1;have hf10_2 : w21.frozen? ⟨go5,(x5_1 : Int).toNat * 6 + 2,none⟩ = false := hfr10 2;have hf10_3 : w21.frozen? ⟨go5,(x5_1 : Int).toNat * 6 + 3,none⟩ = false := hfr10 3;have hf10_4 : w21.frozen? ⟨go5,(x5_1 : Int).toNat * 6 + 4,none⟩ = false := hfr10 4;have hf10_5 : w21.frozen? ⟨go5,(x5_1 : Int).toNat * 6 + 5,none⟩ = false := hfr10 5;(try clear hcl10);(try clear hcc10);(try clear hfr10);(try clear hM10);replace p10 := eq_true p10;replace q10 := eq_true q10;have HX22 := Aside0.mk (show Kd.R k91 91 w21 w0.heap.size (fun k_ => (P0_ k_ ∨ w.heap.size ≤ k_)) (.slice (some ⟨go5,0,none⟩) x0_1.length co11) y237 from (by (with_reducible repeat (first | apply Kd.R_alloc | apply Kd.R_drewN | apply Kd.R_drew));exact HO_0.out));obtain ⟨ce22,hcl22,hM22,hcc22,hfr22⟩ := Kd.R_elem HX22.out z91 (x5_1 : Int) (of_decide_eq_true (by first | (with_reducible assumption) | assumption)) (by have h_ : (x5_1 : Int) < ((x0_1.length : Int) : Int) := of_decide_eq_true (by first | (with_reducible assumption) | assumption);first | exact h_ | (have e_ := (Kd.R_reads' HO_0.out).1;omega) | simpa using h_);obtain rfl := k91_openM hM22;have HP22 := Kd.R_seg HX22.out (x5_1 : Int) (of_decide_eq_true (by first | (with_reducible assumption) | assumption)) (by have h_ : (x5_1 : Int) < ((x0_1.length : Int) : Int) := of_decide_eq_true (by first | (with_reducible assumption) | assumption);first | exact h_ | (have e_ := (Kd.R_reads' HO_0.out).1;omega) | simpa using h_) (seg := [.int .i64 (wrap64 ((wrap64 ((wrap64 ((wrap64 ((wrap64 (x1_1 + 1)) + 1)) + 1)) + 1)) + 1))]) (j := 5) hcl22 hcc22 (show 6 ≤ 6 from by decide) (x' := (⟨(rd_T91 y237 x5_1).f0,(rd_T91 y237 x5_1).f1,(⟨(rd_T91 y237 x5_1).f2.f0,(rd_T91 y237 x5_1).f2.f1⟩ : S87),(⟨(rd_T91 y237 x5_1).f3.f0,wrap64 ((wrap64 ((wrap64 ((wrap64 ((wrap64 (x1_1 + 1)) + 1)) + 1)) + 1)) + 1)⟩ : S87)⟩ : S91)) (k91_mkM _ _ _ (⟨(rd_T91 y237 x5_1).f0,(rd_T91 y237 x5_1).f1,(⟨(rd_T91 y237 x5_1).f2.f0,(rd_T91 y237 x5_1).f2.f1⟩ : S87),(⟨(rd_T91 y237 x5_1).f3.f0,wrap64 ((wrap64 ((wrap64 ((wrap64 ((wrap64 (x1_1 + 1)) + 1)) + 1)) + 1)) + 1)⟩ : S87)⟩ : S91) ) (fun _ hk => hk);have hx22_5 := hcc22 5 _ rfl;(try simp only [show (k91).sz = 6 from rfl,Nat.mul_one,Nat.add_zero] at hx22_5);have hf22_5 := hfr22 5;(try simp only [show (k91).sz = 6 from rfl,Nat.mul_one,Nat.add_zero] at hf22_5);(try clear hcl22);(try clear hcc22);(try clear hfr22);(try clear hM22)) | ((with_reducible refine gate_store (t := 3) (p := 55) rfl ?_);refine store_event (t := 3) (p := 55) (v := ?vo_w23) (w1 := (w21.setCell ⟨go5,(x5_1 : Int).toNat * 6 + 5,none⟩ (.int .i64 (wrap64 ((wrap64 ((wrap64 ((wrap64 ((wrap64 (x1_1 + 1)) + 1)) + 1)) + 1)) + 1))))) ?hg ?ho ?hn ?hr ?_;(case ho => rfl);(case hg => rfl);(case hn => rfl);(case hr => first | (go_simp;done) | (go_simp;rfl));intro w23 hw;have hg : w21.grownBy w23 (some go5) := (by rw [hw];exact HP22.2);have hp_ : Kd.R k91 91 w23 w0.heap.size (fun k_ => (P0_ k_ ∨ w.heap.size ≤ k_)) (.slice (some ⟨go5,0,none⟩) x0_1.length co11) y238 := (by rw [hw,Ny238.out];exact HP22.1);clear HP22;have n0_ := Aside0.mk (hp_);have n1_ := Aside0.mk ((by rw [hw];exact below_set (HB.out) GB5.out : Below w0.heap.size w0 w23));have n2_ := Aside0.mk (Kept.of_grown (S := (fun k_ => P0_ k_)) hg (by repeat (first | (with_reducible first | exact HK.out | apply Kept.alloc | apply Kept.drewN | apply Kept.drew) | exact HK.out)) (fun k_ e_ => (HO_0.out.1 k_ e_)));clear HO_0;clear HB;clear HK;have HO_0 := n0_;have HB := n1_;have HK := n2_;clear n0_ n1_ n2_;clear hg hw hp_))
          go_roundg k1
          case measure => have := HK1.out;omega
          case rel => exact ⟨(y238),(wrap64 ((wrap64 ((wrap64 ((wrap64 ((wrap64 ((wrap64 (x1_1 + 1)) + 1)) + 1)) + 1)) + 1)) + 1)),(wrap64 (x5_1 + 1)),(by first | rfl | (simp;done) | (simp [*];done)),(by first | rfl | (simp;done) | (simp [*];done)),H',⟨by have := HK1.out;omega⟩,⟨by (with_reducible repeat (first | apply Kd.R_alloc | apply Kd.R_drewN | apply Kd.R_drew));exact HO_0.out⟩,⟨by repeat (first | (with_reducible first | exact HK.out | apply Kept.alloc | apply Kept.drewN | apply Kept.drew) | exact HK.out)⟩,⟨by repeat (first | (with_reducible first | exact HB.out | apply below_alloc | apply pw_below_drewN | apply below_drew1) | exact HB.out)⟩⟩
        · rw [if_neg c4] at H
          exact absurd H (by simp)
      · rw [if_neg c3] at H
        have c3b0 : decide (x5_1 < (x0_1.length : Int)) = false := decide_eq_false c3
        clear c3
        simp only [Option.some.injEq,Prod.mk.injEq] at H
        obtain ⟨rfl,rfl⟩ := H
        obtain ⟨Ao24,co24,eo24⟩ := Kd.R_slice HO_0.out
        subst eo24
        go_wp2
        go_ret
        exact ⟨by first | rfl | (simp [errW_none,errW_some] <;> rfl) | (simp [*,errW_none,errW_some] <;> rfl),by (with_reducible repeat (first | apply Kd.R_alloc | apply Kd.R_drewN | apply Kd.R_drew));exact HO_0.out,by repeat (first | (with_reducible first | exact HB.out | apply below_alloc | apply pw_below_drewN | apply below_drew1) | exact HB.out),by repeat (first | (with_reducible first | exact HK.out | apply Kept.alloc | apply Kept.drewN | apply Kept.drew) | exact HK.out)⟩

/-! ### laws_heldCandS: function 35 -/
def laws_heldCandS.l0 : Nat → List (S91) → Int → Int → Option (Int)
  | 0,_,_,_ => none
  | k + 1,x0,x1,x5 => if x5 < (x0.length : Int) then (if 0 ≤ x5 then (if ((rd_T91 x0 x5).f0) = x1 then (if ((rd_T91 x0 x5).f1) = (wrap64 (x1 + 1)) then (if ((rd_T91 x0 x5).f2.f0) = (wrap64 ((wrap64 (x1 + 1)) + 1)) then (if ((rd_T91 x0 x5).f2.f1) = (wrap64 ((wrap64 ((wrap64 (x1 + 1)) + 1)) + 1)) then (if ((rd_T91 x0 x5).f3.f0) = (wrap64 ((wrap64 ((wrap64 ((wrap64 (x1 + 1)) + 1)) + 1)) + 1)) then (if ((rd_T91 x0 x5).f3.f1) = (wrap64 ((wrap64 ((wrap64 ((wrap64 ((wrap64 (x1 + 1)) + 1)) + 1)) + 1)) + 1)) then (laws_heldCandS.l0 k x0 (wrap64 ((wrap64 ((wrap64 ((wrap64 ((wrap64 ((wrap64 (x1 + 1)) + 1)) + 1)) + 1)) + 1)) + 1)) (wrap64 (x5 + 1))) else (some (-1))) else (some (-1))) else (some (-1))) else (some (-1))) else (some (-1))) else (some (-1))) else (none)) else (some x1)
def laws_heldCandS.f (k : Nat) (l0 : List (S91)) (a1 : Int) : Option (Int) := laws_heldCandS.l0 k l0 a1 0
theorem laws_heldCandS.mono_l : ∀ k,(∀ y0 y1 y2,LeO (laws_heldCandS.l0 k y0 y1 y2) (laws_heldCandS.l0 (k + 1) y0 y1 y2))
  | 0 => fun _ _ _ r h => by simp [laws_heldCandS.l0] at h
  | k + 1 => by
    have ih0 := laws_heldCandS.mono_l k
    · intro y0 y1 y2
      unfold laws_heldCandS.l0
      repeat' first
      | (with_reducible exact ih0 _ _ _)
      | (with_reducible exact LeO.refl _)
      | (with_reducible exact LeO.none _)
      | (with_reducible refine LeO.ite ?_ ?_)
      | (with_reducible refine LeO.bind ?_ (fun _ => ?_))
      | exact ih0 _ _ _
      | exact LeO.none _
      | refine LeO.ite ?_ ?_
      | refine LeO.bind ?_ (fun _ => ?_)
theorem laws_heldCandS.mono : ∀ a0 a1 k,LeO (laws_heldCandS.f k a0 a1) (laws_heldCandS.f (k + 1) a0 a1) := by
  intro a0 a1 k
  have ih0 := laws_heldCandS.mono_l k
  unfold laws_heldCandS.f
  repeat' first
      | (with_reducible exact ih0 _ _ _)
      | (with_reducible exact LeO.refl _)
      | (with_reducible exact LeO.none _)
      | (with_reducible refine LeO.ite ?_ ?_)
      | (with_reducible refine LeO.bind ?_ (fun _ => ?_))
      | exact ih0 _ _ _
      | exact LeO.none _
      | refine LeO.ite ?_ ?_
      | refine LeO.bind ?_ (fun _ => ?_)
set_option maxHeartbeats 8000000 in
set_option maxRecDepth 100000 in
theorem laws_heldCandS.calls (k : Nat) (A0 : Option Addr) (c0 : Nat) (l0 : List (S91)) (a1 : Int) (r : Int) (w : World) (hr0 : Kd.C k91 w A0 l0.length l0) (hc0 : l0.length ≤ c0) (h : laws_heldCandS.f k l0 a1 = some r) :
    Calls Try.prog 35 #[.slice A0 l0.length c0,.int .i64 a1] w fun e w' => e = .returned (.int .i64 r) ∧ Drawn0 w w' := by
  have HR0 := Aside0.mk hr0
  have HC0 := Aside0.mk hc0
  clear hr0 hc0
  have H : (laws_heldCandS.l0 k l0 a1 0) = some r := h
  clear h
  have H' := Aside0.mk H
  clear H
  go_enter Try.func35,Try.ntmps35
  go_wp2
  go_loopg [1,5] k (fun kq v1 v5 w' => ∃ (x1_1 : Int) (x5_1 : Int),v1 = .int .i64 x1_1 ∧ v5 = .int .i64 x5_1 ∧ Aside0 (laws_heldCandS.l0 kq l0 x1_1 x5_1 = some r) ∧ Aside0 (kq ≤ k) ∧ Drawn0 w w')
  case atStart => exact ⟨(a1),(0),(by first | rfl | (simp;done) | (simp [*];done)),(by first | rfl | (simp;done) | (simp [*];done)),H',⟨Nat.le_refl _⟩,by repeat (first | exact Drawn0.refl _ | apply Drawn0.step)⟩
  case round =>
    clear H'
    try clear p2
    obtain ⟨x1_1,x5_1,rfl,rfl,HA,HK1,⟨m1,rfl⟩⟩ := hrel
    cases gk with
    | zero => exact absurd HA.out (by simp [laws_heldCandS.l0])
    | succ k1 =>
      have H := HA.out
      clear HA
      simp only [laws_heldCandS.l0] at H
      by_cases c3 : x5_1 < (l0.length : Int)
      · rw [if_pos c3] at H
        have c3b0 : decide (x5_1 < (l0.length : Int)) = true := decide_eq_true c3
        clear c3
        by_cases c4 : 0 ≤ x5_1
        · rw [if_pos c4] at H
          have c4b0 : decide (0 ≤ x5_1) = true := decide_eq_true c4
          clear c4
          by_cases c5 : ((rd_T91 l0 x5_1).f0) = x1_1
          · rw [if_pos c5] at H
            have c5b0 : (((rd_T91 l0 x5_1).f0) == x1_1) = true := beq_iff_eq.mpr c5
            have c5b1 : (((rd_T91 l0 x5_1).f0) != x1_1) = false := bne_eq_false_iff_eq.mpr c5
            clear c5
            by_cases c6 : ((rd_T91 l0 x5_1).f1) = (wrap64 (x1_1 + 1))
            · rw [if_pos c6] at H
              have c6b0 : (((rd_T91 l0 x5_1).f1) == (wrap64 (x1_1 + 1))) = true := beq_iff_eq.mpr c6
              have c6b1 : (((rd_T91 l0 x5_1).f1) != (wrap64 (x1_1 + 1))) = false := bne_eq_false_iff_eq.mpr c6
              clear c6
              by_cases c7 : ((rd_T91 l0 x5_1).f2.f0) = (wrap64 ((wrap64 (x1_1 + 1)) + 1))
              · rw [if_pos c7] at H
                have c7b0 : (((rd_T91 l0 x5_1).f2.f0) == (wrap64 ((wrap64 (x1_1 + 1)) + 1))) = true := beq_iff_eq.mpr c7
                have c7b1 : (((rd_T91 l0 x5_1).f2.f0) != (wrap64 ((wrap64 (x1_1 + 1)) + 1))) = false := bne_eq_false_iff_eq.mpr c7
                clear c7
                by_cases c8 : ((rd_T91 l0 x5_1).f2.f1) = (wrap64 ((wrap64 ((wrap64 (x1_1 + 1)) + 1)) + 1))
                · rw [if_pos c8] at H
                  have c8b0 : (((rd_T91 l0 x5_1).f2.f1) == (wrap64 ((wrap64 ((wrap64 (x1_1 + 1)) + 1)) + 1))) = true := beq_iff_eq.mpr c8
                  have c8b1 : (((rd_T91 l0 x5_1).f2.f1) != (wrap64 ((wrap64 ((wrap64 (x1_1 + 1)) + 1)) + 1))) = false := bne_eq_false_iff_eq.mpr c8
                  clear c8
                  by_cases c9 : ((rd_T91 l0 x5_1).f3.f0) = (wrap64 ((wrap64 ((wrap64 ((wrap64 (x1_1 + 1)) + 1)) + 1)) + 1))
                  · rw [if_pos c9] at H
                    have c9b0 : (((rd_T91 l0 x5_1).f3.f0) == (wrap64 ((wrap64 ((wrap64 ((wrap64 (x1_1 + 1)) + 1)) + 1)) + 1))) = true := beq_iff_eq.mpr c9
                    have c9b1 : (((rd_T91 l0 x5_1).f3.f0) != (wrap64 ((wrap64 ((wrap64 ((wrap64 (x1_1 + 1)) + 1)) + 1)) + 1))) = false := bne_eq_false_iff_eq.mpr c9
                    clear c9
                    by_cases c10 : ((rd_T91 l0 x5_1).f3.f1) = (wrap64 ((wrap64 ((wrap64 ((wrap64 ((wrap64 (x1_1 + 1)) + 1)) + 1)) + 1)) + 1))
                    · rw [if_pos c10] at H
                      have c10b0 : (((rd_T91 l0 x5_1).f3.f1) == (wrap64 ((wrap64 ((wrap64 ((wrap64 ((wrap64 (x1_1 + 1)) + 1)) + 1)) + 1)) + 1))) = true := beq_iff_eq.mpr c10
                      have c10b1 : (((rd_T91 l0 x5_1).f3.f1) != (wrap64 ((wrap64 ((wrap64 ((wrap64 ((wrap64 (x1_1 + 1)) + 1)) + 1)) + 1)) + 1))) = false := bne_eq_false_iff_eq.mpr c10
                      clear c10
                      have H' := Aside0.mk H
                      clear H
                      have p239 : 0 ≤ (x5_1 : Int) := of_decide_eq_true (by first | (with_reducible assumption) | assumption)
                      have q239 : x5_1 < (l0.length : Int) := of_decide_eq_true (by first | (with_reducible assumption) | assumption)
                      obtain ⟨ad239,e239,hx239_0,hx239_1,hx239_2,hx239_3,hx239_4,hx239_5⟩ := at_T91 HR0.out x5_1 p239 q239
                      cases e239
                      replace p239 := eq_true p239
                      replace q239 := eq_true q239
                      have p240 : 0 ≤ (x5_1 : Int) := of_decide_eq_true (by first | (with_reducible assumption) | assumption)
                      have q240 : x5_1 < (l0.length : Int) := of_decide_eq_true (by first | (with_reducible assumption) | assumption)
                      obtain ⟨ad240,e240,hx240_0,hx240_1,hx240_2,hx240_3,hx240_4,hx240_5⟩ := at_T91 HR0.out x5_1 p240 q240
                      obtain rfl : ad239 = ad240 := (by injection e240)
                      replace p240 := eq_true p240
                      replace q240 := eq_true q240
                      have p241 : 0 ≤ (x5_1 : Int) := of_decide_eq_true (by first | (with_reducible assumption) | assumption)
                      have q241 : x5_1 < (l0.length : Int) := of_decide_eq_true (by first | (with_reducible assumption) | assumption)
                      obtain ⟨ad241,e241,hx241_0,hx241_1,hx241_2,hx241_3,hx241_4,hx241_5⟩ := at_T91 HR0.out x5_1 p241 q241
                      obtain rfl : ad239 = ad241 := (by injection e241)
                      replace p241 := eq_true p241
                      replace q241 := eq_true q241
                      have p242 : 0 ≤ (x5_1 : Int) := of_decide_eq_true (by first | (with_reducible assumption) | assumption)
                      have q242 : x5_1 < (l0.length : Int) := of_decide_eq_true (by first | (with_reducible assumption) | assumption)
                      obtain ⟨ad242,e242,hx242_0,hx242_1,hx242_2,hx242_3,hx242_4,hx242_5⟩ := at_T91 HR0.out x5_1 p242 q242
                      obtain rfl : ad239 = ad242 := (by injection e242)
                      replace p242 := eq_true p242
                      replace q242 := eq_true q242
                      have p243 : 0 ≤ (x5_1 : Int) := of_decide_eq_true (by first | (with_reducible assumption) | assumption)
                      have q243 : x5_1 < (l0.length : Int) := of_decide_eq_true (by first | (with_reducible assumption) | assumption)
                      obtain ⟨ad243,e243,hx243_0,hx243_1,hx243_2,hx243_3,hx243_4,hx243_5⟩ := at_T91 HR0.out x5_1 p243 q243
                      obtain rfl : ad239 = ad243 := (by injection e243)
                      replace p243 := eq_true p243
                      replace q243 := eq_true q243
                      have p244 : 0 ≤ (x5_1 : Int) := of_decide_eq_true (by first | (with_reducible assumption) | assumption)
                      have q244 : x5_1 < (l0.length : Int) := of_decide_eq_true (by first | (with_reducible assumption) | assumption)
                      obtain ⟨ad244,e244,hx244_0,hx244_1,hx244_2,hx244_3,hx244_4,hx244_5⟩ := at_T91 HR0.out x5_1 p244 q244
                      obtain rfl : ad239 = ad244 := (by injection e244)
                      replace p244 := eq_true p244
                      replace q244 := eq_true q244
                      go_wp2
                      go_roundg k1
                      case measure => have := HK1.out;omega
                      case rel => exact ⟨(wrap64 ((wrap64 ((wrap64 ((wrap64 ((wrap64 ((wrap64 (x1_1 + 1)) + 1)) + 1)) + 1)) + 1)) + 1)),(wrap64 (x5_1 + 1)),(by first | rfl | (simp;done) | (simp [*];done)),(by first | rfl | (simp;done) | (simp [*];done)),H',⟨by have := HK1.out;omega⟩,by repeat (first | exact Drawn0.refl _ | apply Drawn0.step)⟩
                    · rw [if_neg c10] at H
                      have c10b0 : (((rd_T91 l0 x5_1).f3.f1) == (wrap64 ((wrap64 ((wrap64 ((wrap64 ((wrap64 (x1_1 + 1)) + 1)) + 1)) + 1)) + 1))) = false := beq_eq_false_iff_ne.mpr c10
                      have c10b1 : (((rd_T91 l0 x5_1).f3.f1) != (wrap64 ((wrap64 ((wrap64 ((wrap64 ((wrap64 (x1_1 + 1)) + 1)) + 1)) + 1)) + 1))) = true := bne_iff_ne.mpr c10
                      obtain rfl := Option.some.inj H
                      have p239 : 0 ≤ (x5_1 : Int) := of_decide_eq_true (by first | (with_reducible assumption) | assumption)
                      have q239 : x5_1 < (l0.length : Int) := of_decide_eq_true (by first | (with_reducible assumption) | assumption)
                      obtain ⟨ad239,e239,hx239_0,hx239_1,hx239_2,hx239_3,hx239_4,hx239_5⟩ := at_T91 HR0.out x5_1 p239 q239
                      cases e239
                      replace p239 := eq_true p239
                      replace q239 := eq_true q239
                      have p240 : 0 ≤ (x5_1 : Int) := of_decide_eq_true (by first | (with_reducible assumption) | assumption)
                      have q240 : x5_1 < (l0.length : Int) := of_decide_eq_true (by first | (with_reducible assumption) | assumption)
                      obtain ⟨ad240,e240,hx240_0,hx240_1,hx240_2,hx240_3,hx240_4,hx240_5⟩ := at_T91 HR0.out x5_1 p240 q240
                      obtain rfl : ad239 = ad240 := (by injection e240)
                      replace p240 := eq_true p240
                      replace q240 := eq_true q240
                      have p241 : 0 ≤ (x5_1 : Int) := of_decide_eq_true (by first | (with_reducible assumption) | assumption)
                      have q241 : x5_1 < (l0.length : Int) := of_decide_eq_true (by first | (with_reducible assumption) | assumption)
                      obtain ⟨ad241,e241,hx241_0,hx241_1,hx241_2,hx241_3,hx241_4,hx241_5⟩ := at_T91 HR0.out x5_1 p241 q241
                      obtain rfl : ad239 = ad241 := (by injection e241)
                      replace p241 := eq_true p241
                      replace q241 := eq_true q241
                      have p242 : 0 ≤ (x5_1 : Int) := of_decide_eq_true (by first | (with_reducible assumption) | assumption)
                      have q242 : x5_1 < (l0.length : Int) := of_decide_eq_true (by first | (with_reducible assumption) | assumption)
                      obtain ⟨ad242,e242,hx242_0,hx242_1,hx242_2,hx242_3,hx242_4,hx242_5⟩ := at_T91 HR0.out x5_1 p242 q242
                      obtain rfl : ad239 = ad242 := (by injection e242)
                      replace p242 := eq_true p242
                      replace q242 := eq_true q242
                      have p243 : 0 ≤ (x5_1 : Int) := of_decide_eq_true (by first | (with_reducible assumption) | assumption)
                      have q243 : x5_1 < (l0.length : Int) := of_decide_eq_true (by first | (with_reducible assumption) | assumption)
                      obtain ⟨ad243,e243,hx243_0,hx243_1,hx243_2,hx243_3,hx243_4,hx243_5⟩ := at_T91 HR0.out x5_1 p243 q243
                      obtain rfl : ad239 = ad243 := (by injection e243)
                      replace p243 := eq_true p243
                      replace q243 := eq_true q243
                      have p244 : 0 ≤ (x5_1 : Int) := of_decide_eq_true (by first | (with_reducible assumption) | assumption)
                      have q244 : x5_1 < (l0.length : Int) := of_decide_eq_true (by first | (with_reducible assumption) | assumption)
                      obtain ⟨ad244,e244,hx244_0,hx244_1,hx244_2,hx244_3,hx244_4,hx244_5⟩ := at_T91 HR0.out x5_1 p244 q244
                      obtain rfl : ad239 = ad244 := (by injection e244)
                      replace p244 := eq_true p244
                      replace q244 := eq_true q244
                      go_wp2
                      go_ret
                      exact ⟨by first | rfl | (simp;done) | (simp [*];done),by repeat (first | exact Drawn0.refl _ | apply Drawn0.step)⟩
                  · rw [if_neg c9] at H
                    have c9b0 : (((rd_T91 l0 x5_1).f3.f0) == (wrap64 ((wrap64 ((wrap64 ((wrap64 (x1_1 + 1)) + 1)) + 1)) + 1))) = false := beq_eq_false_iff_ne.mpr c9
                    have c9b1 : (((rd_T91 l0 x5_1).f3.f0) != (wrap64 ((wrap64 ((wrap64 ((wrap64 (x1_1 + 1)) + 1)) + 1)) + 1))) = true := bne_iff_ne.mpr c9
                    obtain rfl := Option.some.inj H
                    have p239 : 0 ≤ (x5_1 : Int) := of_decide_eq_true (by first | (with_reducible assumption) | assumption)
                    have q239 : x5_1 < (l0.length : Int) := of_decide_eq_true (by first | (with_reducible assumption) | assumption)
                    obtain ⟨ad239,e239,hx239_0,hx239_1,hx239_2,hx239_3,hx239_4,hx239_5⟩ := at_T91 HR0.out x5_1 p239 q239
                    cases e239
                    replace p239 := eq_true p239
                    replace q239 := eq_true q239
                    have p240 : 0 ≤ (x5_1 : Int) := of_decide_eq_true (by first | (with_reducible assumption) | assumption)
                    have q240 : x5_1 < (l0.length : Int) := of_decide_eq_true (by first | (with_reducible assumption) | assumption)
                    obtain ⟨ad240,e240,hx240_0,hx240_1,hx240_2,hx240_3,hx240_4,hx240_5⟩ := at_T91 HR0.out x5_1 p240 q240
                    obtain rfl : ad239 = ad240 := (by injection e240)
                    replace p240 := eq_true p240
                    replace q240 := eq_true q240
                    have p241 : 0 ≤ (x5_1 : Int) := of_decide_eq_true (by first | (with_reducible assumption) | assumption)
                    have q241 : x5_1 < (l0.length : Int) := of_decide_eq_true (by first | (with_reducible assumption) | assumption)
                    obtain ⟨ad241,e241,hx241_0,hx241_1,hx241_2,hx241_3,hx241_4,hx241_5⟩ := at_T91 HR0.out x5_1 p241 q241
                    obtain rfl : ad239 = ad241 := (by injection e241)
                    replace p241 := eq_true p241
                    replace q241 := eq_true q241
                    have p242 : 0 ≤ (x5_1 : Int) := of_decide_eq_true (by first | (with_reducible assumption) | assumption)
                    have q242 : x5_1 < (l0.length : Int) := of_decide_eq_true (by first | (with_reducible assumption) | assumption)
                    obtain ⟨ad242,e242,hx242_0,hx242_1,hx242_2,hx242_3,hx242_4,hx242_5⟩ := at_T91 HR0.out x5_1 p242 q242
                    obtain rfl : ad239 = ad242 := (by injection e242)
                    replace p242 := eq_true p242
                    replace q242 := eq_true q242
                    have p243 : 0 ≤ (x5_1 : Int) := of_decide_eq_true (by first | (with_reducible assumption) | assumption)
                    have q243 : x5_1 < (l0.length : Int) := of_decide_eq_true (by first | (with_reducible assumption) | assumption)
                    obtain ⟨ad243,e243,hx243_0,hx243_1,hx243_2,hx243_3,hx243_4,hx243_5⟩ := at_T91 HR0.out x5_1 p243 q243
                    obtain rfl : ad239 = ad243 := (by injection e243)
                    replace p243 := eq_true p243
                    replace q243 := eq_true q243
                    go_wp2
                    go_ret
                    exact ⟨by first | rfl | (simp;done) | (simp [*];done),by repeat (first | exact Drawn0.refl _ | apply Drawn0.step)⟩
                · rw [if_neg c8] at H
                  have c8b0 : (((rd_T91 l0 x5_1).f2.f1) == (wrap64 ((wrap64 ((wrap64 (x1_1 + 1)) + 1)) + 1))) = false := beq_eq_false_iff_ne.mpr c8
                  have c8b1 : (((rd_T91 l0 x5_1).f2.f1) != (wrap64 ((wrap64 ((wrap64 (x1_1 + 1)) + 1)) + 1))) = true := bne_iff_ne.mpr c8
                  obtain rfl := Option.some.inj H
                  have p239 : 0 ≤ (x5_1 : Int) := of_decide_eq_true (by first | (with_reducible assumption) | assumption)
                  have q239 : x5_1 < (l0.length : Int) := of_decide_eq_true (by first | (with_reducible assumption) | assumption)
                  obtain ⟨ad239,e239,hx239_0,hx239_1,hx239_2,hx239_3,hx239_4,hx239_5⟩ := at_T91 HR0.out x5_1 p239 q239
                  cases e239
                  replace p239 := eq_true p239
                  replace q239 := eq_true q239
                  have p240 : 0 ≤ (x5_1 : Int) := of_decide_eq_true (by first | (with_reducible assumption) | assumption)
                  have q240 : x5_1 < (l0.length : Int) := of_decide_eq_true (by first | (with_reducible assumption) | assumption)
                  obtain ⟨ad240,e240,hx240_0,hx240_1,hx240_2,hx240_3,hx240_4,hx240_5⟩ := at_T91 HR0.out x5_1 p240 q240
                  obtain rfl : ad239 = ad240 := (by injection e240)
                  replace p240 := eq_true p240
                  replace q240 := eq_true q240
                  have p241 : 0 ≤ (x5_1 : Int) := of_decide_eq_true (by first | (with_reducible assumption) | assumption)
                  have q241 : x5_1 < (l0.length : Int) := of_decide_eq_true (by first | (with_reducible assumption) | assumption)
                  obtain ⟨ad241,e241,hx241_0,hx241_1,hx241_2,hx241_3,hx241_4,hx241_5⟩ := at_T91 HR0.out x5_1 p241 q241
                  obtain rfl : ad239 = ad241 := (by injection e241)
                  replace p241 := eq_true p241
                  replace q241 := eq_true q241
                  have p242 : 0 ≤ (x5_1 : Int) := of_decide_eq_true (by first | (with_reducible assumption) | assumption)
                  have q242 : x5_1 < (l0.length : Int) := of_decide_eq_true (by first | (with_reducible assumption) | assumption)
                  obtain ⟨ad242,e242,hx242_0,hx242_1,hx242_2,hx242_3,hx242_4,hx242_5⟩ := at_T91 HR0.out x5_1 p242 q242
                  obtain rfl : ad239 = ad242 := (by injection e242)
                  replace p242 := eq_true p242
                  replace q242 := eq_true q242
                  go_wp2
                  go_ret
                  exact ⟨by first | rfl | (simp;done) | (simp [*];done),by repeat (first | exact Drawn0.refl _ | apply Drawn0.step)⟩
              · rw [if_neg c7] at H
                have c7b0 : (((rd_T91 l0 x5_1).f2.f0) == (wrap64 ((wrap64 (x1_1 + 1)) + 1))) = false := beq_eq_false_iff_ne.mpr c7
                have c7b1 : (((rd_T91 l0 x5_1).f2.f0) != (wrap64 ((wrap64 (x1_1 + 1)) + 1))) = true := bne_iff_ne.mpr c7
                obtain rfl := Option.some.inj H
                have p239 : 0 ≤ (x5_1 : Int) := of_decide_eq_true (by first | (with_reducible assumption) | assumption)
                have q239 : x5_1 < (l0.length : Int) := of_decide_eq_true (by first | (with_reducible assumption) | assumption)
                obtain ⟨ad239,e239,hx239_0,hx239_1,hx239_2,hx239_3,hx239_4,hx239_5⟩ := at_T91 HR0.out x5_1 p239 q239
                cases e239
                replace p239 := eq_true p239
                replace q239 := eq_true q239
                have p240 : 0 ≤ (x5_1 : Int) := of_decide_eq_true (by first | (with_reducible assumption) | assumption)
                have q240 : x5_1 < (l0.length : Int) := of_decide_eq_true (by first | (with_reducible assumption) | assumption)
                obtain ⟨ad240,e240,hx240_0,hx240_1,hx240_2,hx240_3,hx240_4,hx240_5⟩ := at_T91 HR0.out x5_1 p240 q240
                obtain rfl : ad239 = ad240 := (by injection e240)
                replace p240 := eq_true p240
                replace q240 := eq_true q240
                have p241 : 0 ≤ (x5_1 : Int) := of_decide_eq_true (by first | (with_reducible assumption) | assumption)
                have q241 : x5_1 < (l0.length : Int) := of_decide_eq_true (by first | (with_reducible assumption) | assumption)
                obtain ⟨ad241,e241,hx241_0,hx241_1,hx241_2,hx241_3,hx241_4,hx241_5⟩ := at_T91 HR0.out x5_1 p241 q241
                obtain rfl : ad239 = ad241 := (by injection e241)
                replace p241 := eq_true p241
                replace q241 := eq_true q241
                go_wp2
                go_ret
                exact ⟨by first | rfl | (simp;done) | (simp [*];done),by repeat (first | exact Drawn0.refl _ | apply Drawn0.step)⟩
            · rw [if_neg c6] at H
              have c6b0 : (((rd_T91 l0 x5_1).f1) == (wrap64 (x1_1 + 1))) = false := beq_eq_false_iff_ne.mpr c6
              have c6b1 : (((rd_T91 l0 x5_1).f1) != (wrap64 (x1_1 + 1))) = true := bne_iff_ne.mpr c6
              obtain rfl := Option.some.inj H
              have p239 : 0 ≤ (x5_1 : Int) := of_decide_eq_true (by first | (with_reducible assumption) | assumption)
              have q239 : x5_1 < (l0.length : Int) := of_decide_eq_true (by first | (with_reducible assumption) | assumption)
              obtain ⟨ad239,e239,hx239_0,hx239_1,hx239_2,hx239_3,hx239_4,hx239_5⟩ := at_T91 HR0.out x5_1 p239 q239
              cases e239
              replace p239 := eq_true p239
              replace q239 := eq_true q239
              have p240 : 0 ≤ (x5_1 : Int) := of_decide_eq_true (by first | (with_reducible assumption) | assumption)
              have q240 : x5_1 < (l0.length : Int) := of_decide_eq_true (by first | (with_reducible assumption) | assumption)
              obtain ⟨ad240,e240,hx240_0,hx240_1,hx240_2,hx240_3,hx240_4,hx240_5⟩ := at_T91 HR0.out x5_1 p240 q240
              obtain rfl : ad239 = ad240 := (by injection e240)
              replace p240 := eq_true p240
              replace q240 := eq_true q240
              go_wp2
              go_ret
              exact ⟨by first | rfl | (simp;done) | (simp [*];done),by repeat (first | exact Drawn0.refl _ | apply Drawn0.step)⟩
          · rw [if_neg c5] at H
            have c5b0 : (((rd_T91 l0 x5_1).f0) == x1_1) = false := beq_eq_false_iff_ne.mpr c5
            have c5b1 : (((rd_T91 l0 x5_1).f0) != x1_1) = true := bne_iff_ne.mpr c5
            obtain rfl := Option.some.inj H
            have p239 : 0 ≤ (x5_1 : Int) := of_decide_eq_true (by first | (with_reducible assumption) | assumption)
            have q239 : x5_1 < (l0.length : Int) := of_decide_eq_true (by first | (with_reducible assumption) | assumption)
            obtain ⟨ad239,e239,hx239_0,hx239_1,hx239_2,hx239_3,hx239_4,hx239_5⟩ := at_T91 HR0.out x5_1 p239 q239
            cases e239
            replace p239 := eq_true p239
            replace q239 := eq_true q239
            go_wp2
            go_ret
            exact ⟨by first | rfl | (simp;done) | (simp [*];done),by repeat (first | exact Drawn0.refl _ | apply Drawn0.step)⟩
        · rw [if_neg c4] at H
          exact absurd H (by simp)
      · rw [if_neg c3] at H
        have c3b0 : decide (x5_1 < (l0.length : Int)) = false := decide_eq_false c3
        clear c3
        obtain rfl := Option.some.inj H
        go_wp2
        go_ret
        exact ⟨by first | rfl | (simp;done) | (simp [*];done),by repeat (first | exact Drawn0.refl _ | apply Drawn0.step)⟩

/-! ### laws_FnExactCandsOf: function 7 -/
def laws_FnExactCandsOf.j0 : Nat → List (List (S108)) → Int → List (S91) → List (S91) → Bool → Option (Bool)
  | 0,_,_,_,_,_ => none
  | k + 1,x0,x1,x6,x8,x46 => if x46 = true then (some false) else ((laws_markCandS.f k x8 1).bind fun bt266 => ((laws_heldCandS.f k bt266.2 1).bind fun t268 => (if t268 < 0 then (some false) else (if t268 = bt266.1 then ((laws_toSlotSS.f k x0).bind fun t269 => ((impl_CandsOf.f k t269 x1).bind fun t272 => ((laws_eqCandS.f k t272 x6).bind fun t275 => (if t275 = true then ((laws_heldCandS.f k bt266.2 1).bind fun t276 => (if t276 < 0 then (some false) else (if t276 = bt266.1 then (some true) else (some false)))) else (some false))))) else (some false)))))
def laws_FnExactCandsOf.f (k : Nat) (l0 : List (List (S108))) (a1 : Int) : Option (Bool) := (laws_szSlotSS.f k l0 1048576).bind fun t245 => (if t245 < 0 then (some true) else ((laws_toSlotSS.f k l0).bind fun t246 => ((spec_CandsOf.f k t246 a1).bind fun t249 => ((laws_toSlotSS.f k l0).bind fun t252 => ((impl_CandsOf.f k t252 a1).bind fun t255 => ((laws_eqCandS.f k t255 t249).bind fun t258 => (if t258 = true then ((laws_toSlotSS.f k l0).bind fun t259 => ((laws_eqSlotSS.f k t252 t259).bind fun t262 => (if t262 = true then ((laws_markSlotSS.f k t252 1).bind fun bt263 => (if bt263.1 < 0 then (laws_FnExactCandsOf.j0 k l0 a1 t249 t255 true) else ((laws_eqCandS.f k t255 t249).bind fun t265 => (laws_FnExactCandsOf.j0 k l0 a1 t249 t255 (!t265))))) else (some false)))) else (some false))))))))
theorem laws_FnExactCandsOf.mono_l : ∀ k,(∀ y0 y1 y2 y3 y4,LeO (laws_FnExactCandsOf.j0 k y0 y1 y2 y3 y4) (laws_FnExactCandsOf.j0 (k + 1) y0 y1 y2 y3 y4))
  | 0 => fun _ _ _ _ _ r h => by simp [laws_FnExactCandsOf.j0] at h
  | k + 1 => by
    have ih0 := laws_FnExactCandsOf.mono_l k
    · intro y0 y1 y2 y3 y4
      unfold laws_FnExactCandsOf.j0
      repeat' first
      | (with_reducible exact ih0 _ _ _ _ _)
      | (with_reducible exact impl_CandsOf.mono _ _ _)
      | (with_reducible exact laws_eqCandS.mono _ _ _)
      | (with_reducible exact laws_eqSlotSS.mono _ _ _)
      | (with_reducible exact laws_heldCandS.mono _ _ _)
      | (with_reducible exact laws_markCandS.mono _ _ _)
      | (with_reducible exact laws_markSlotSS.mono _ _ _)
      | (with_reducible exact laws_szSlotSS.mono _ _ _)
      | (with_reducible exact laws_toSlotSS.mono _ _)
      | (with_reducible exact spec_CandsOf.mono _ _ _)
      | (with_reducible exact LeO.refl _)
      | (with_reducible exact LeO.none _)
      | (with_reducible refine LeO.ite ?_ ?_)
      | (with_reducible refine LeO.bind ?_ (fun _ => ?_))
      | exact ih0 _ _ _ _ _
      | exact impl_CandsOf.mono _ _ _
      | exact laws_eqCandS.mono _ _ _
      | exact laws_eqSlotSS.mono _ _ _
      | exact laws_heldCandS.mono _ _ _
      | exact laws_markCandS.mono _ _ _
      | exact laws_markSlotSS.mono _ _ _
      | exact laws_szSlotSS.mono _ _ _
      | exact laws_toSlotSS.mono _ _
      | exact spec_CandsOf.mono _ _ _
      | exact LeO.none _
      | refine LeO.ite ?_ ?_
      | refine LeO.bind ?_ (fun _ => ?_)
theorem laws_FnExactCandsOf.mono : ∀ a0 a1 k,LeO (laws_FnExactCandsOf.f k a0 a1) (laws_FnExactCandsOf.f (k + 1) a0 a1) := by
  intro a0 a1 k
  have ih0 := laws_FnExactCandsOf.mono_l k
  unfold laws_FnExactCandsOf.f
  repeat' first
      | (with_reducible exact ih0 _ _ _ _ _)
      | (with_reducible exact impl_CandsOf.mono _ _ _)
      | (with_reducible exact laws_eqCandS.mono _ _ _)
      | (with_reducible exact laws_eqSlotSS.mono _ _ _)
      | (with_reducible exact laws_heldCandS.mono _ _ _)
      | (with_reducible exact laws_markCandS.mono _ _ _)
      | (with_reducible exact laws_markSlotSS.mono _ _ _)
      | (with_reducible exact laws_szSlotSS.mono _ _ _)
      | (with_reducible exact laws_toSlotSS.mono _ _)
      | (with_reducible exact spec_CandsOf.mono _ _ _)
      | (with_reducible exact LeO.refl _)
      | (with_reducible exact LeO.none _)
      | (with_reducible refine LeO.ite ?_ ?_)
      | (with_reducible refine LeO.bind ?_ (fun _ => ?_))
      | exact ih0 _ _ _ _ _
      | exact impl_CandsOf.mono _ _ _
      | exact laws_eqCandS.mono _ _ _
      | exact laws_eqSlotSS.mono _ _ _
      | exact laws_heldCandS.mono _ _ _
      | exact laws_markCandS.mono _ _ _
      | exact laws_markSlotSS.mono _ _ _
      | exact laws_szSlotSS.mono _ _ _
      | exact laws_toSlotSS.mono _ _
      | exact spec_CandsOf.mono _ _ _
      | exact LeO.none _
      | refine LeO.ite ?_ ?_
      | refine LeO.bind ?_ (fun _ => ?_)
theorem laws_FnExactCandsOf.j0_stop {k : Nat} {r : Bool} {y0 : List (List (S108))} {y1 : Int} {y6 : List (S91)} {y8 : List (S91)} (h : laws_FnExactCandsOf.j0 k y0 y1 y6 y8 true = some r) : r = false := by
  cases k with
  | zero => simp [laws_FnExactCandsOf.j0] at h
  | succ k =>
    simp only [laws_FnExactCandsOf.j0] at h
    rw [if_pos trivial] at h
    exact (Option.some.inj h).symm
set_option maxHeartbeats 8000000 in
set_option maxRecDepth 100000 in
theorem laws_FnExactCandsOf.calls (k : Nat) (A0 : Option Addr) (c0 : Nat) (l0 : List (List (S108))) (a1 : Int) (r : Bool) (w : World) (hr0 : Kd.C (Kd.slice 108 k108) w A0 l0.length l0) (hc0 : l0.length ≤ c0) (h : laws_FnExactCandsOf.f k l0 a1 = some r) (hr_ : r = true) :
    Calls Try.prog 7 #[.slice A0 l0.length c0,.int .i64 a1] w fun e w' => e = .returned (.bool r) ∧ Below w.heap.size w w' := by
  have HRT := Aside0.mk hr_
  clear hr_
  have HR0 := Aside0.mk hr0
  have HC0 := Aside0.mk hc0
  clear hr0 hc0
  have HB := Aside0.mk (Below.refl w.heap.size w)
  have H : ((laws_szSlotSS.f k l0 1048576).bind fun t245 => (if t245 < 0 then (some true) else ((laws_toSlotSS.f k l0).bind fun t246 => ((spec_CandsOf.f k t246 a1).bind fun t249 => ((laws_toSlotSS.f k l0).bind fun t252 => ((impl_CandsOf.f k t252 a1).bind fun t255 => ((laws_eqCandS.f k t255 t249).bind fun t258 => (if t258 = true then ((laws_toSlotSS.f k l0).bind fun t259 => ((laws_eqSlotSS.f k t252 t259).bind fun t262 => (if t262 = true then ((laws_markSlotSS.f k t252 1).bind fun bt263 => (if bt263.1 < 0 then (laws_FnExactCandsOf.j0 k l0 a1 t249 t255 true) else ((laws_eqCandS.f k t255 t249).bind fun t265 => (laws_FnExactCandsOf.j0 k l0 a1 t249 t255 (!t265))))) else (some false)))) else (some false))))))))) = some r := h
  clear h
  replace H := Option.bind_eq_some_iff.mp H
  obtain ⟨t245,A30,H⟩ := H
  replace H : (if t245 < 0 then (some true) else ((laws_toSlotSS.f k l0).bind fun t246 => ((spec_CandsOf.f k t246 a1).bind fun t249 => ((laws_toSlotSS.f k l0).bind fun t252 => ((impl_CandsOf.f k t252 a1).bind fun t255 => ((laws_eqCandS.f k t255 t249).bind fun t258 => (if t258 = true then ((laws_toSlotSS.f k l0).bind fun t259 => ((laws_eqSlotSS.f k t252 t259).bind fun t262 => (if t262 = true then ((laws_markSlotSS.f k t252 1).bind fun bt263 => (if bt263.1 < 0 then (laws_FnExactCandsOf.j0 k l0 a1 t249 t255 true) else ((laws_eqCandS.f k t255 t249).bind fun t265 => (laws_FnExactCandsOf.j0 k l0 a1 t249 t255 (!t265))))) else (some false)))) else (some false)))))))) = some r := H
  have A3 := Aside0.mk A30
  clear A30
  by_cases c4 : t245 < 0
  · rw [if_pos c4] at H
    have c4b0 : decide (t245 < 0) = true := decide_eq_true c4
    clear c4
    obtain rfl := Option.some.inj H
    go_enter Try.func7,Try.ntmps7
    go_wp2_with (first | ((with_reducible refine gate_callee (f := 27) rfl ?_);refine goesL_ (some 15) rfl rfl Try.func27 (by kernel_rfl) rfl #[.slice A0 l0.length c0,.int .i64 1048576] rfl (by (try simp only [List.map_toArray,List.map_cons,List.map_nil]);first | done | rfl | (simp only [List.length_drop,List.length_take];rfl)) ?_;(with_reducible refine (laws_szSlotSS.calls k _ _ l0 1048576 t245 _ ?side1 ?side2 A3.out).mono ?_);(case side1 => repeat (first | exact HR0.out | (with_reducible refine Kd.C_alloc ?_ _) | (with_reducible refine Kd.C_drewN ?_ _) | (with_reducible refine Kd.C_drew ?_)));(case side2 => exact HC0.out);rintro e w' ⟨rfl,⟨nd,rfl⟩⟩;refine ⟨_,rfl,?_⟩))
    go_ret
    exact ⟨by first | rfl | (simp [errW_none,errW_some] <;> rfl) | (simp [*,errW_none,errW_some] <;> rfl),by repeat (first | (with_reducible first | exact HB.out | apply below_alloc | apply pw_below_drewN | apply below_drew1) | exact HB.out)⟩
  · rw [if_neg c4] at H
    have c4b0 : decide (t245 < 0) = false := decide_eq_false c4
    clear c4
    replace H := Option.bind_eq_some_iff.mp H
    obtain ⟨t246,A50,H⟩ := H
    replace H : ((spec_CandsOf.f k t246 a1).bind fun t249 => ((laws_toSlotSS.f k l0).bind fun t252 => ((impl_CandsOf.f k t252 a1).bind fun t255 => ((laws_eqCandS.f k t255 t249).bind fun t258 => (if t258 = true then ((laws_toSlotSS.f k l0).bind fun t259 => ((laws_eqSlotSS.f k t252 t259).bind fun t262 => (if t262 = true then ((laws_markSlotSS.f k t252 1).bind fun bt263 => (if bt263.1 < 0 then (laws_FnExactCandsOf.j0 k l0 a1 t249 t255 true) else ((laws_eqCandS.f k t255 t249).bind fun t265 => (laws_FnExactCandsOf.j0 k l0 a1 t249 t255 (!t265))))) else (some false)))) else (some false)))))) = some r := H
    have A5 := Aside0.mk A50
    clear A50
    replace H := Option.bind_eq_some_iff.mp H
    obtain ⟨t249,A60,H⟩ := H
    replace H : ((laws_toSlotSS.f k l0).bind fun t252 => ((impl_CandsOf.f k t252 a1).bind fun t255 => ((laws_eqCandS.f k t255 t249).bind fun t258 => (if t258 = true then ((laws_toSlotSS.f k l0).bind fun t259 => ((laws_eqSlotSS.f k t252 t259).bind fun t262 => (if t262 = true then ((laws_markSlotSS.f k t252 1).bind fun bt263 => (if bt263.1 < 0 then (laws_FnExactCandsOf.j0 k l0 a1 t249 t255 true) else ((laws_eqCandS.f k t255 t249).bind fun t265 => (laws_FnExactCandsOf.j0 k l0 a1 t249 t255 (!t265))))) else (some false)))) else (some false))))) = some r := H
    have A6 := Aside0.mk A60
    clear A60
    replace H := Option.bind_eq_some_iff.mp H
    obtain ⟨t252,A70,H⟩ := H
    replace H : ((impl_CandsOf.f k t252 a1).bind fun t255 => ((laws_eqCandS.f k t255 t249).bind fun t258 => (if t258 = true then ((laws_toSlotSS.f k l0).bind fun t259 => ((laws_eqSlotSS.f k t252 t259).bind fun t262 => (if t262 = true then ((laws_markSlotSS.f k t252 1).bind fun bt263 => (if bt263.1 < 0 then (laws_FnExactCandsOf.j0 k l0 a1 t249 t255 true) else ((laws_eqCandS.f k t255 t249).bind fun t265 => (laws_FnExactCandsOf.j0 k l0 a1 t249 t255 (!t265))))) else (some false)))) else (some false)))) = some r := H
    have A7 := Aside0.mk A70
    clear A70
    replace H := Option.bind_eq_some_iff.mp H
    obtain ⟨t255,A80,H⟩ := H
    replace H : ((laws_eqCandS.f k t255 t249).bind fun t258 => (if t258 = true then ((laws_toSlotSS.f k l0).bind fun t259 => ((laws_eqSlotSS.f k t252 t259).bind fun t262 => (if t262 = true then ((laws_markSlotSS.f k t252 1).bind fun bt263 => (if bt263.1 < 0 then (laws_FnExactCandsOf.j0 k l0 a1 t249 t255 true) else ((laws_eqCandS.f k t255 t249).bind fun t265 => (laws_FnExactCandsOf.j0 k l0 a1 t249 t255 (!t265))))) else (some false)))) else (some false))) = some r := H
    have A8 := Aside0.mk A80
    clear A80
    replace H := Option.bind_eq_some_iff.mp H
    obtain ⟨t258,A90,H⟩ := H
    replace H : (if t258 = true then ((laws_toSlotSS.f k l0).bind fun t259 => ((laws_eqSlotSS.f k t252 t259).bind fun t262 => (if t262 = true then ((laws_markSlotSS.f k t252 1).bind fun bt263 => (if bt263.1 < 0 then (laws_FnExactCandsOf.j0 k l0 a1 t249 t255 true) else ((laws_eqCandS.f k t255 t249).bind fun t265 => (laws_FnExactCandsOf.j0 k l0 a1 t249 t255 (!t265))))) else (some false)))) else (some false)) = some r := H
    have A9 := Aside0.mk A90
    clear A90
    by_cases c10 : t258 = true
    · subst c10
      have H1 : ((laws_toSlotSS.f k l0).bind fun t259 => ((laws_eqSlotSS.f k t252 t259).bind fun t262 => (if t262 = true then ((laws_markSlotSS.f k t252 1).bind fun bt263 => (if bt263.1 < 0 then (laws_FnExactCandsOf.j0 k l0 a1 t249 t255 true) else ((laws_eqCandS.f k t255 t249).bind fun t265 => (laws_FnExactCandsOf.j0 k l0 a1 t249 t255 (!t265))))) else (some false)))) = some r := by rw [if_pos rfl] at H;exact H
      clear H
      have H := H1
      clear H1
      replace H := Option.bind_eq_some_iff.mp H
      obtain ⟨t259,A110,H⟩ := H
      replace H : ((laws_eqSlotSS.f k t252 t259).bind fun t262 => (if t262 = true then ((laws_markSlotSS.f k t252 1).bind fun bt263 => (if bt263.1 < 0 then (laws_FnExactCandsOf.j0 k l0 a1 t249 t255 true) else ((laws_eqCandS.f k t255 t249).bind fun t265 => (laws_FnExactCandsOf.j0 k l0 a1 t249 t255 (!t265))))) else (some false))) = some r := H
      have A11 := Aside0.mk A110
      clear A110
      replace H := Option.bind_eq_some_iff.mp H
      obtain ⟨t262,A120,H⟩ := H
      replace H : (if t262 = true then ((laws_markSlotSS.f k t252 1).bind fun bt263 => (if bt263.1 < 0 then (laws_FnExactCandsOf.j0 k l0 a1 t249 t255 true) else ((laws_eqCandS.f k t255 t249).bind fun t265 => (laws_FnExactCandsOf.j0 k l0 a1 t249 t255 (!t265))))) else (some false)) = some r := H
      have A12 := Aside0.mk A120
      clear A120
      by_cases c13 : t262 = true
      · subst c13
        have H1 : ((laws_markSlotSS.f k t252 1).bind fun bt263 => (if bt263.1 < 0 then (laws_FnExactCandsOf.j0 k l0 a1 t249 t255 true) else ((laws_eqCandS.f k t255 t249).bind fun t265 => (laws_FnExactCandsOf.j0 k l0 a1 t249 t255 (!t265))))) = some r := by rw [if_pos rfl] at H;exact H
        clear H
        have H := H1
        clear H1
        replace H := Option.bind_eq_some_iff.mp H
        obtain ⟨⟨t263,t264⟩,A140,H⟩ := H
        replace H : (if t263 < 0 then (laws_FnExactCandsOf.j0 k l0 a1 t249 t255 true) else ((laws_eqCandS.f k t255 t249).bind fun t265 => (laws_FnExactCandsOf.j0 k l0 a1 t249 t255 (!t265)))) = some r := H
        have A14 := Aside0.mk A140
        clear A140
        have HC15 := Aside0.mk H
        clear H
        go_enter Try.func7,Try.ntmps7
        go_upto_region 14 with (first | ((with_reducible refine gate_callee (f := 27) rfl ?_);refine goesL_ (some 15) rfl rfl Try.func27 (by kernel_rfl) rfl #[.slice A0 l0.length c0,.int .i64 1048576] rfl (by (try simp only [List.map_toArray,List.map_cons,List.map_nil]);first | done | rfl | (simp only [List.length_drop,List.length_take];rfl)) ?_;(with_reducible refine (laws_szSlotSS.calls k _ _ l0 1048576 t245 _ ?side1 ?side2 A3.out).mono ?_);(case side1 => repeat (first | exact HR0.out | (with_reducible refine Kd.C_alloc ?_ _) | (with_reducible refine Kd.C_drewN ?_ _) | (with_reducible refine Kd.C_drew ?_)));(case side2 => exact HC0.out);rintro e w' ⟨rfl,⟨nd,rfl⟩⟩;refine ⟨_,rfl,?_⟩) | ((with_reducible refine gate_callee (f := 29) rfl ?_);refine goesL_ (some 19) rfl rfl Try.func29 (by kernel_rfl) rfl #[.slice A0 l0.length c0] rfl (by (try simp only [List.map_toArray,List.map_cons,List.map_nil]);first | done | rfl | (simp only [List.length_drop,List.length_take];rfl)) ?_;(with_reducible refine (laws_toSlotSS.calls k _ _ l0 t246 _ ?side1 ?side2 A5.out).mono ?_);(case side1 => repeat (first | exact HR0.out | (with_reducible refine Kd.C_alloc ?_ _) | (with_reducible refine Kd.C_drewN ?_ _) | (with_reducible refine Kd.C_drew ?_)));(case side2 => exact HC0.out);rintro e w16 ⟨v247,rfl,ho0,hb⟩;refine ⟨_,rfl,?_⟩;have n0_ := Aside0.mk (Kd.S_lower ho0 (below_size (by repeat (first | (with_reducible first | exact HB.out | apply below_alloc | apply pw_below_drewN | apply below_drew1) | exact HB.out))));have n1_ := Aside0.mk (below_step (by repeat (first | (with_reducible first | exact HB.out | apply below_alloc | apply pw_below_drewN | apply below_drew1) | exact HB.out)) hb);clear HB;have HO248 := n0_;have HB := n1_;clear n0_ n1_;(try clear hb);(try clear hb2);(try clear hk);(try clear hi);(try clear ho0);obtain ⟨Ao17,co17,eo17⟩ := Kd.S_slice HO248.out;subst eo17) | ((with_reducible refine gate_callee (f := 28) rfl ?_);refine goesL_ (some 21) rfl rfl Try.func28 (by kernel_rfl) rfl #[.slice Ao17 t246.length co17,.int .i64 a1] rfl (by (try simp only [List.map_toArray,List.map_cons,List.map_nil]);first | done | rfl | (simp only [List.length_drop,List.length_take];rfl)) ?_;(with_reducible refine (spec_CandsOf.calls k _ _ t246 a1 t249 _ ?side1 ?side2 A6.out).mono ?_);(case side1 => repeat (first | exact (Kd.S_reads' HO248.out).2.2 | (with_reducible refine Kd.C_alloc ?_ _) | (with_reducible refine Kd.C_drewN ?_ _) | (with_reducible refine Kd.C_drew ?_)));(case side2 => exact (Kd.S_reads' HO248.out).2.1);rintro e w18 ⟨v250,rfl,ho0,hb⟩;refine ⟨_,rfl,?_⟩;have n0_ := Aside0.mk (Kd.S_below (by (with_reducible repeat (first | apply Kd.S_alloc | apply Kd.S_drewN | apply Kd.S_drew));exact HO248.out) hb);have n1_ := Aside0.mk (Kd.R_lower ho0 (below_size (by repeat (first | (with_reducible first | exact HB.out | apply below_alloc | apply pw_below_drewN | apply below_drew1) | exact HB.out))));have n2_ := Aside0.mk (below_step (by repeat (first | (with_reducible first | exact HB.out | apply below_alloc | apply pw_below_drewN | apply below_drew1) | exact HB.out)) hb);clear HO248;clear HB;have HO248 := n0_;have HO251 := n1_;have HB := n2_;clear n0_ n1_ n2_;(try clear hb);(try clear hb2);(try clear hk);(try clear hi);(try clear ho0)) | ((with_reducible refine gate_callee (f := 29) rfl ?_);refine goesL_ (some 23) rfl rfl Try.func29 (by kernel_rfl) rfl #[.slice A0 l0.length c0] rfl (by (try simp only [List.map_toArray,List.map_cons,List.map_nil]);first | done | rfl | (simp only [List.length_drop,List.length_take];rfl)) ?_;(with_reducible refine (laws_toSlotSS.calls k _ _ l0 t252 _ ?side1 ?side2 A7.out).mono ?_);(case side1 => repeat (first | exact (Kd.C_below HR0.out HB.out) | (with_reducible refine Kd.C_alloc ?_ _) | (with_reducible refine Kd.C_drewN ?_ _) | (with_reducible refine Kd.C_drew ?_)));(case side2 => exact HC0.out);rintro e w19 ⟨v253,rfl,ho0,hb⟩;refine ⟨_,rfl,?_⟩;have n0_ := Aside0.mk (Kd.S_elder' (by (with_reducible repeat (first | apply Kd.S_alloc | apply Kd.S_drewN | apply Kd.S_drew));exact HO248.out) (Kd.S_base ho0) hb);have n1_ := Aside0.mk (Kd.R_below (by (with_reducible repeat (first | apply Kd.R_alloc | apply Kd.R_drewN | apply Kd.R_drew));exact HO251.out) hb);have n2_ := Aside0.mk (Kd.S_lower (Kd.S_new' ho0 (Kd.S_lt (by (with_reducible repeat (first | apply Kd.S_alloc | apply Kd.S_drewN | apply Kd.S_drew));exact HO248.out))) (below_size (by repeat (first | (with_reducible first | exact HB.out | apply below_alloc | apply pw_below_drewN | apply below_drew1) | exact HB.out))));have n3_ := Aside0.mk (below_step (by repeat (first | (with_reducible first | exact HB.out | apply below_alloc | apply pw_below_drewN | apply below_drew1) | exact HB.out)) hb);clear HO248;clear HO251;clear HB;have HO248 := n0_;have HO251 := n1_;have HO254 := n2_;have HB := n3_;clear n0_ n1_ n2_ n3_;(try clear hb);(try clear hb2);(try clear hk);(try clear hi);(try clear ho0);obtain ⟨Ao20,co20,eo20⟩ := Kd.S_slice HO254.out;subst eo20) | ((with_reducible refine gate_callee (f := 30) rfl ?_);refine goesL_ (some 26) rfl rfl Try.func30 (by kernel_rfl) rfl #[.slice Ao20 t252.length co20,.int .i64 a1] rfl (by (try simp only [List.map_toArray,List.map_cons,List.map_nil]);first | done | rfl | (simp only [List.length_drop,List.length_take];rfl)) ?_;(with_reducible refine (impl_CandsOf.calls k _ _ t252 a1 t255 _ ?side1 ?side2 A8.out).mono ?_);(case side1 => repeat (first | exact (Kd.S_reads' HO254.out).2.2 | (with_reducible refine Kd.C_alloc ?_ _) | (with_reducible refine Kd.C_drewN ?_ _) | (with_reducible refine Kd.C_drew ?_)));(case side2 => exact (Kd.S_reads' HO254.out).2.1);rintro e w21 ⟨v256,rfl,ho0,hb⟩;refine ⟨_,rfl,?_⟩;have n0_ := Aside0.mk (Kd.S_below (by (with_reducible repeat (first | apply Kd.S_alloc | apply Kd.S_drewN | apply Kd.S_drew));exact HO248.out) hb);have n1_ := Aside0.mk (Kd.R_elder' (by (with_reducible repeat (first | apply Kd.R_alloc | apply Kd.R_drewN | apply Kd.R_drew));exact HO251.out) (Kd.R_base ho0) hb);have n2_ := Aside0.mk (Kd.S_below (by (with_reducible repeat (first | apply Kd.S_alloc | apply Kd.S_drewN | apply Kd.S_drew));exact HO254.out) hb);have n3_ := Aside0.mk (Kd.R_lower (Kd.R_new' ho0 (Kd.R_lt (by (with_reducible repeat (first | apply Kd.R_alloc | apply Kd.R_drewN | apply Kd.R_drew));exact HO251.out))) (below_size (by repeat (first | (with_reducible first | exact HB.out | apply below_alloc | apply pw_below_drewN | apply below_drew1) | exact HB.out))));have n4_ := Aside0.mk (below_step (by repeat (first | (with_reducible first | exact HB.out | apply below_alloc | apply pw_below_drewN | apply below_drew1) | exact HB.out)) hb);clear HO248;clear HO251;clear HO254;clear HB;have HO248 := n0_;have HO251 := n1_;have HO254 := n2_;have HO257 := n3_;have HB := n4_;clear n0_ n1_ n2_ n3_ n4_;(try clear hb);(try clear hb2);(try clear hk);(try clear hi);(try clear ho0);obtain ⟨Ao22,co22,eo22⟩ := Kd.R_slice HO257.out;subst eo22;obtain ⟨Ao23,co23,eo23⟩ := Kd.R_slice HO251.out;subst eo23) | ((with_reducible refine gate_callee (f := 31) rfl ?_);refine goesL_ (some 29) rfl rfl Try.func31 (by kernel_rfl) rfl #[.slice Ao22 t255.length co22,.slice Ao23 t249.length co23] rfl (by (try simp only [List.map_toArray,List.map_cons,List.map_nil]);first | done | rfl | (simp only [List.length_drop,List.length_take];rfl)) ?_;(with_reducible refine (laws_eqCandS.calls k _ _ t255 _ _ t249 true _ ?side1 ?side2 ?side3 ?side4 A9.out).mono ?_);(case side1 => repeat (first | exact (Kd.R_reads' HO257.out).2.2 | (with_reducible refine Kd.C_alloc ?_ _) | (with_reducible refine Kd.C_drewN ?_ _) | (with_reducible refine Kd.C_drew ?_)));(case side2 => exact (Kd.R_reads' HO257.out).2.1);(case side3 => repeat (first | exact (Kd.R_reads' HO251.out).2.2 | (with_reducible refine Kd.C_alloc ?_ _) | (with_reducible refine Kd.C_drewN ?_ _) | (with_reducible refine Kd.C_drew ?_)));(case side4 => exact (Kd.R_reads' HO251.out).2.1);rintro e w24 ⟨rfl,hb⟩;refine ⟨_,rfl,?_⟩;have n0_ := Aside0.mk (Kd.S_below (by (with_reducible repeat (first | apply Kd.S_alloc | apply Kd.S_drewN | apply Kd.S_drew));exact HO248.out) hb);have n1_ := Aside0.mk (Kd.R_below (by (with_reducible repeat (first | apply Kd.R_alloc | apply Kd.R_drewN | apply Kd.R_drew));exact HO251.out) hb);have n2_ := Aside0.mk (Kd.S_below (by (with_reducible repeat (first | apply Kd.S_alloc | apply Kd.S_drewN | apply Kd.S_drew));exact HO254.out) hb);have n3_ := Aside0.mk (Kd.R_below (by (with_reducible repeat (first | apply Kd.R_alloc | apply Kd.R_drewN | apply Kd.R_drew));exact HO257.out) hb);have n4_ := Aside0.mk (below_step (by repeat (first | (with_reducible first | exact HB.out | apply below_alloc | apply pw_below_drewN | apply below_drew1) | exact HB.out)) hb);clear HO248;clear HO251;clear HO254;clear HO257;clear HB;have HO248 := n0_;have HO251 := n1_;have HO254 := n2_;have HO257 := n3_;have HB := n4_;clear n0_ n1_ n2_ n3_ n4_;(try clear hb);(try clear hb2);(try clear hk);(try clear hi)) | ((with_reducible refine gate_callee (f := 29) rfl ?_);refine goesL_ (some 33) rfl rfl Try.func29 (by kernel_rfl) rfl #[.slice A0 l0.length c0] rfl (by (try simp only [List.map_toArray,List.map_cons,List.map_nil]);first | done | rfl | (simp only [List.length_drop,List.length_take];rfl)) ?_;(with_reducible refine (laws_toSlotSS.calls k _ _ l0 t259 _ ?side1 ?side2 A11.out).mono ?_);(case side1 => repeat (first | exact (Kd.C_below HR0.out HB.out) | (with_reducible refine Kd.C_alloc ?_ _) | (with_reducible refine Kd.C_drewN ?_ _) | (with_reducible refine Kd.C_drew ?_)));(case side2 => exact HC0.out);rintro e w25 ⟨v260,rfl,ho0,hb⟩;refine ⟨_,rfl,?_⟩;have n0_ := Aside0.mk (Kd.S_elder' (by (with_reducible repeat (first | apply Kd.S_alloc | apply Kd.S_drewN | apply Kd.S_drew));exact HO248.out) (Kd.S_base ho0) hb);have n1_ := Aside0.mk (Kd.R_below (by (with_reducible repeat (first | apply Kd.R_alloc | apply Kd.R_drewN | apply Kd.R_drew));exact HO251.out) hb);have n2_ := Aside0.mk (Kd.S_elder' (by (with_reducible repeat (first | apply Kd.S_alloc | apply Kd.S_drewN | apply Kd.S_drew));exact HO254.out) (Kd.S_base ho0) hb);have n3_ := Aside0.mk (Kd.R_below (by (with_reducible repeat (first | apply Kd.R_alloc | apply Kd.R_drewN | apply Kd.R_drew));exact HO257.out) hb);have n4_ := Aside0.mk (Kd.S_lower (Kd.S_new' (Kd.S_new' ho0 (Kd.S_lt (by (with_reducible repeat (first | apply Kd.S_alloc | apply Kd.S_drewN | apply Kd.S_drew));exact HO248.out))) (Kd.S_lt (by (with_reducible repeat (first | apply Kd.S_alloc | apply Kd.S_drewN | apply Kd.S_drew));exact HO254.out))) (below_size (by repeat (first | (with_reducible first | exact HB.out | apply below_alloc | apply pw_below_drewN | apply below_drew1) | exact HB.out))));have n5_ := Aside0.mk (below_step (by repeat (first | (with_reducible first | exact HB.out | apply below_alloc | apply pw_below_drewN | apply below_drew1) | exact HB.out)) hb);clear HO248;clear HO251;clear HO254;clear HO257;clear HB;have HO248 := n0_;have HO251 := n1_;have HO254 := n2_;have HO257 := n3_;have HO261 := n4_;have HB := n5_;clear n0_ n1_ n2_ n3_ n4_ n5_;(try clear hb);(try clear hb2);(try clear hk);(try clear hi);(try clear ho0);obtain ⟨Ao26,co26,eo26⟩ := Kd.S_slice HO261.out;subst eo26) | ((with_reducible refine gate_callee (f := 32) rfl ?_);refine goesL_ (some 34) rfl rfl Try.func32 (by kernel_rfl) rfl #[.slice Ao20 t252.length co20,.slice Ao26 t259.length co26] rfl (by (try simp only [List.map_toArray,List.map_cons,List.map_nil]);first | done | rfl | (simp only [List.length_drop,List.length_take];rfl)) ?_;(with_reducible refine (laws_eqSlotSS.calls k _ _ t252 _ _ t259 true _ ?side1 ?side2 ?side3 ?side4 A12.out).mono ?_);(case side1 => repeat (first | exact (Kd.S_reads' HO254.out).2.2 | (with_reducible refine Kd.C_alloc ?_ _) | (with_reducible refine Kd.C_drewN ?_ _) | (with_reducible refine Kd.C_drew ?_)));(case side2 => exact (Kd.S_reads' HO254.out).2.1);(case side3 => repeat (first | exact (Kd.S_reads' HO261.out).2.2 | (with_reducible refine Kd.C_alloc ?_ _) | (with_reducible refine Kd.C_drewN ?_ _) | (with_reducible refine Kd.C_drew ?_)));(case side4 => exact (Kd.S_reads' HO261.out).2.1);rintro e w27 ⟨rfl,hb⟩;refine ⟨_,rfl,?_⟩;have n0_ := Aside0.mk (Kd.S_below (by (with_reducible repeat (first | apply Kd.S_alloc | apply Kd.S_drewN | apply Kd.S_drew));exact HO248.out) hb);have n1_ := Aside0.mk (Kd.R_below (by (with_reducible repeat (first | apply Kd.R_alloc | apply Kd.R_drewN | apply Kd.R_drew));exact HO251.out) hb);have n2_ := Aside0.mk (Kd.S_below (by (with_reducible repeat (first | apply Kd.S_alloc | apply Kd.S_drewN | apply Kd.S_drew));exact HO254.out) hb);have n3_ := Aside0.mk (Kd.R_below (by (with_reducible repeat (first | apply Kd.R_alloc | apply Kd.R_drewN | apply Kd.R_drew));exact HO257.out) hb);have n4_ := Aside0.mk (Kd.S_below (by (with_reducible repeat (first | apply Kd.S_alloc | apply Kd.S_drewN | apply Kd.S_drew));exact HO261.out) hb);have n5_ := Aside0.mk (below_step (by repeat (first | (with_reducible first | exact HB.out | apply below_alloc | apply pw_below_drewN | apply below_drew1) | exact HB.out)) hb);clear HO248;clear HO251;clear HO254;clear HO257;clear HO261;clear HB;have HO248 := n0_;have HO251 := n1_;have HO254 := n2_;have HO257 := n3_;have HO261 := n4_;have HB := n5_;clear n0_ n1_ n2_ n3_ n4_ n5_;(try clear hb);(try clear hb2);(try clear hk);(try clear hi)) | ((with_reducible refine gate_callee (f := 33) rfl ?_);refine goesL_ (some 38) rfl rfl Try.func33 (by kernel_rfl) rfl #[.slice Ao20 t252.length co20,.int .i64 1] rfl (by (try simp only [List.map_toArray,List.map_cons,List.map_nil]);first | done | rfl | (simp only [List.length_drop,List.length_take];rfl)) ?_;(with_reducible refine (laws_markSlotSS.calls k (fun k_ => ((((True ∧ some k_ ≠ (.slice Ao17 t246.length co17 : Value).ownBlock) ∧ some k_ ≠ (.slice Ao26 t259.length co26 : Value).ownBlock) ∧ some k_ ≠ (.slice Ao23 t249.length co23 : Value).ownBlock) ∧ some k_ ≠ (.slice Ao22 t255.length co22 : Value).ownBlock)) (.slice Ao20 t252.length co20) t252 1 t263 t264 w _ ?side1 ?side2 A14.out).mono ?_);(case side1 => repeat (first | (with_reducible first | exact HB.out | apply below_alloc | apply pw_below_drewN | apply below_drew1) | exact HB.out));(case side2 => exact (Kd.S_apart' (Kd.S_apart' HO254.out (Kd.R_typed HO251.out) (by decide)) (Kd.R_typed HO257.out) (by decide)));rintro e w28 ⟨rfl,hy0,hb,hkp⟩;refine ⟨_,rfl,?_⟩;have n0_ := Aside0.mk (Kd.R_mono (ok' := fun k_ => some k_ ≠ (.slice Ao22 t255.length co22 : Value).ownBlock) (Kd.R_keptB ((Kd.R_mono (Kd.R_tight2 rfl HO251.out) (fun k_ hk => (⟨hk.2,fun hs_ => (hs_.1.2) hk.1⟩ : _ ∧ ¬ (((((True ∧ some k_ ≠ (.slice Ao17 t246.length co17 : Value).ownBlock) ∧ some k_ ≠ (.slice Ao26 t259.length co26 : Value).ownBlock) ∧ some k_ ≠ (.slice Ao23 t249.length co23 : Value).ownBlock) ∧ some k_ ≠ (.slice Ao22 t255.length co22 : Value).ownBlock)))))) hkp (fun k_ hk_ hs_ => (hk_.2) hs_)) (fun k_ hk_ => hk_.1.1.2));have n1_ := Aside0.mk (hy0);have n2_ := Aside0.mk (Kd.R_mono (ok' := fun k_ => some k_ ≠ (.slice Ao23 t249.length co23 : Value).ownBlock) (Kd.R_keptB ((Kd.R_mono (Kd.R_tight2 rfl HO257.out) (fun k_ hk => (⟨hk.2,fun hs_ => (hs_.2) hk.1⟩ : _ ∧ ¬ (((((True ∧ some k_ ≠ (.slice Ao17 t246.length co17 : Value).ownBlock) ∧ some k_ ≠ (.slice Ao26 t259.length co26 : Value).ownBlock) ∧ some k_ ≠ (.slice Ao23 t249.length co23 : Value).ownBlock) ∧ some k_ ≠ (.slice Ao22 t255.length co22 : Value).ownBlock)))))) hkp (fun k_ hk_ hs_ => (hk_.2) hs_)) (fun k_ hk_ => hk_.1.1.2));have n3_ := Aside0.mk (hb);clear HO251;clear HO254;clear HO257;clear HB;clear HO248;clear HO261;have HO251 := n0_;have HO254 := n1_;have HO257 := n2_;have HB := n3_;clear n0_ n1_ n2_ n3_;(try clear hb);(try clear hkp);(try clear hy0)))
        (try simp only [Act.put,List.setIfInBounds_toArray,List.set_cons_zero,List.set_cons_succ])
        go_cut [46] (fun v46 wc => ∃ (kq : Nat) (x46_14 : Bool),v46 = .bool x46_14 ∧ Aside0 (laws_FnExactCandsOf.j0 kq l0 a1 t249 t255 x46_14 = some r) ∧ Aside0 (kq ≤ k) ∧ Aside0 (Kd.R k91 91 wc w.heap.size (fun k_ => some k_ ≠ ((.slice Ao22 t255.length co22) : Value).ownBlock) (.slice Ao23 t249.length co23) t249) ∧ Aside0 (Kd.R k91 91 wc w.heap.size (fun k_ => some k_ ≠ ((.slice Ao23 t249.length co23) : Value).ownBlock) (.slice Ao22 t255.length co22) t255) ∧ Aside0 (Below w.heap.size w wc))
        case first =>
          have H := HC15.out
          clear HC15
          by_cases c29 : t263 < 0
          · rw [if_pos c29] at H
            have c29b0 : decide (t263 < 0) = true := decide_eq_true c29
            clear c29
            (first | rw [c29b0] | (simp only [i64_w,i32_w];rw [c29b0]) | skip)
            exact absurd ((laws_FnExactCandsOf.j0_stop H).symm.trans HRT.out) (by decide)
          · rw [if_neg c29] at H
            have c29b0 : decide (t263 < 0) = false := decide_eq_false c29
            clear c29
            (first | rw [c29b0] | (simp only [i64_w,i32_w];rw [c29b0]) | skip)
            replace H := Option.bind_eq_some_iff.mp H
            obtain ⟨t265,A300,H⟩ := H
            replace H : (laws_FnExactCandsOf.j0 k l0 a1 t249 t255 (!t265)) = some r := H
            have A30 := Aside0.mk A300
            clear A300
            have H' := Aside0.mk H
            clear H
            go_wp2_with (first | (go_at_call 31;(with_reducible refine (laws_eqCandS.calls k _ _ t255 _ _ t249 t265 _ ?side1 ?side2 ?side3 ?side4 A30.out).mono ?_);(case side1 => repeat (first | exact (Kd.R_reads' HO257.out).2.2 | (with_reducible refine Kd.C_alloc ?_ _) | (with_reducible refine Kd.C_drewN ?_ _) | (with_reducible refine Kd.C_drew ?_)));(case side2 => exact (Kd.R_reads' HO257.out).2.1);(case side3 => repeat (first | exact (Kd.R_reads' HO251.out).2.2 | (with_reducible refine Kd.C_alloc ?_ _) | (with_reducible refine Kd.C_drewN ?_ _) | (with_reducible refine Kd.C_drew ?_)));(case side4 => exact (Kd.R_reads' HO251.out).2.1);rintro e w31 ⟨rfl,hb⟩;have n0_ := Aside0.mk (Kd.R_below (by (with_reducible repeat (first | apply Kd.R_alloc | apply Kd.R_drewN | apply Kd.R_drew));exact HO251.out) hb);have n1_ := Aside0.mk (Kd.S_below (by (with_reducible repeat (first | apply Kd.S_alloc | apply Kd.S_drewN | apply Kd.S_drew));exact HO254.out) hb);have n2_ := Aside0.mk (Kd.R_below (by (with_reducible repeat (first | apply Kd.R_alloc | apply Kd.R_drewN | apply Kd.R_drew));exact HO257.out) hb);have n3_ := Aside0.mk (below_step (by repeat (first | (with_reducible first | exact HB.out | apply below_alloc | apply pw_below_drewN | apply below_drew1) | exact HB.out)) hb);clear HO251;clear HO254;clear HO257;clear HB;have HO251 := n0_;have HO254 := n1_;have HO257 := n2_;have HB := n3_;clear n0_ n1_ n2_ n3_;(try clear hb);(try clear hb2);(try clear hk);(try clear hi)))
            go_meet
            case rel => exact ⟨_,(!t265),(by first | rfl | (simp;done) | (simp [*];done)),H',⟨by first | omega | exact Nat.le_refl _⟩,⟨by (with_reducible repeat (first | apply Kd.R_alloc | apply Kd.R_drewN | apply Kd.R_drew));exact HO251.out⟩,⟨by (with_reducible repeat (first | apply Kd.R_alloc | apply Kd.R_drewN | apply Kd.R_drew));exact HO257.out⟩,⟨by repeat (first | (with_reducible first | exact HB.out | apply below_alloc | apply pw_below_drewN | apply below_drew1) | exact HB.out)⟩⟩
        case rest =>
          clear HC15
          try clear c1
          try clear c2
          try clear p2
          try clear c3
          try clear c4
          try clear c4b0
          try clear c7
          try clear c10
          try clear c13
          try clear c27
          try clear c28
          try clear c29
          try clear c29b0
          try clear c30
          try clear c31
          obtain ⟨kq,x46_14,rfl,HA,HJ14,HO_6,HO_8,HB⟩ := hcut
          cases kq with
          | zero => exact absurd HA.out (by simp [laws_FnExactCandsOf.j0])
          | succ kj14 =>
            have H := HA.out
            clear HA
            simp only [laws_FnExactCandsOf.j0] at H
            by_cases c32 : x46_14 = true
            · subst c32
              have H1 : (some false) = some r := by rw [if_pos rfl] at H;exact H
              clear H
              have H := H1
              clear H1
              exact absurd ((Option.some.inj H).trans HRT.out) (by decide)
            · replace c32 := Bool.eq_false_iff.mpr c32
              subst c32
              have H1 : ((laws_markCandS.f kj14 t255 1).bind fun bt266 => ((laws_heldCandS.f kj14 bt266.2 1).bind fun t268 => (if t268 < 0 then (some false) else (if t268 = bt266.1 then ((laws_toSlotSS.f kj14 l0).bind fun t269 => ((impl_CandsOf.f kj14 t269 a1).bind fun t272 => ((laws_eqCandS.f kj14 t272 t249).bind fun t275 => (if t275 = true then ((laws_heldCandS.f kj14 bt266.2 1).bind fun t276 => (if t276 < 0 then (some false) else (if t276 = bt266.1 then (some true) else (some false)))) else (some false))))) else (some false))))) = some r := by rw [if_neg (show ¬ (false = true) by decide)] at H;exact H
              clear H
              have H := H1
              clear H1
              replace H := Option.bind_eq_some_iff.mp H
              obtain ⟨⟨t266,t267⟩,A330,H⟩ := H
              replace H : ((laws_heldCandS.f kj14 t267 1).bind fun t268 => (if t268 < 0 then (some false) else (if t268 = t266 then ((laws_toSlotSS.f kj14 l0).bind fun t269 => ((impl_CandsOf.f kj14 t269 a1).bind fun t272 => ((laws_eqCandS.f kj14 t272 t249).bind fun t275 => (if t275 = true then ((laws_heldCandS.f kj14 t267 1).bind fun t276 => (if t276 < 0 then (some false) else (if t276 = t266 then (some true) else (some false)))) else (some false))))) else (some false)))) = some r := H
              have A33 := Aside0.mk A330
              clear A330
              replace H := Option.bind_eq_some_iff.mp H
              obtain ⟨t268,A340,H⟩ := H
              replace H : (if t268 < 0 then (some false) else (if t268 = t266 then ((laws_toSlotSS.f kj14 l0).bind fun t269 => ((impl_CandsOf.f kj14 t269 a1).bind fun t272 => ((laws_eqCandS.f kj14 t272 t249).bind fun t275 => (if t275 = true then ((laws_heldCandS.f kj14 t267 1).bind fun t276 => (if t276 < 0 then (some false) else (if t276 = t266 then (some true) else (some false)))) else (some false))))) else (some false))) = some r := H
              have A34 := Aside0.mk A340
              clear A340
              by_cases c35 : t268 < 0
              · rw [if_pos c35] at H
                have c35b0 : decide (t268 < 0) = true := decide_eq_true c35
                clear c35
                exact absurd ((Option.some.inj H).trans HRT.out) (by decide)
              · rw [if_neg c35] at H
                have c35b0 : decide (t268 < 0) = false := decide_eq_false c35
                clear c35
                by_cases c36 : t268 = t266
                · rw [if_pos c36] at H
                  have c36b0 : (t268 == t266) = true := beq_iff_eq.mpr c36
                  have c36b1 : (t268 != t266) = false := bne_eq_false_iff_eq.mpr c36
                  clear c36
                  replace H := Option.bind_eq_some_iff.mp H
                  obtain ⟨t269,A370,H⟩ := H
                  replace H : ((impl_CandsOf.f kj14 t269 a1).bind fun t272 => ((laws_eqCandS.f kj14 t272 t249).bind fun t275 => (if t275 = true then ((laws_heldCandS.f kj14 t267 1).bind fun t276 => (if t276 < 0 then (some false) else (if t276 = t266 then (some true) else (some false)))) else (some false)))) = some r := H
                  have A37 := Aside0.mk A370
                  clear A370
                  replace H := Option.bind_eq_some_iff.mp H
                  obtain ⟨t272,A380,H⟩ := H
                  replace H : ((laws_eqCandS.f kj14 t272 t249).bind fun t275 => (if t275 = true then ((laws_heldCandS.f kj14 t267 1).bind fun t276 => (if t276 < 0 then (some false) else (if t276 = t266 then (some true) else (some false)))) else (some false))) = some r := H
                  have A38 := Aside0.mk A380
                  clear A380
                  replace H := Option.bind_eq_some_iff.mp H
                  obtain ⟨t275,A390,H⟩ := H
                  replace H : (if t275 = true then ((laws_heldCandS.f kj14 t267 1).bind fun t276 => (if t276 < 0 then (some false) else (if t276 = t266 then (some true) else (some false)))) else (some false)) = some r := H
                  have A39 := Aside0.mk A390
                  clear A390
                  by_cases c40 : t275 = true
                  · subst c40
                    have H1 : ((laws_heldCandS.f kj14 t267 1).bind fun t276 => (if t276 < 0 then (some false) else (if t276 = t266 then (some true) else (some false)))) = some r := by rw [if_pos rfl] at H;exact H
                    clear H
                    have H := H1
                    clear H1
                    replace H := Option.bind_eq_some_iff.mp H
                    obtain ⟨t276,A410,H⟩ := H
                    replace H : (if t276 < 0 then (some false) else (if t276 = t266 then (some true) else (some false))) = some r := H
                    have A41 := Aside0.mk A410
                    clear A410
                    by_cases c42 : t276 < 0
                    · rw [if_pos c42] at H
                      have c42b0 : decide (t276 < 0) = true := decide_eq_true c42
                      clear c42
                      exact absurd ((Option.some.inj H).trans HRT.out) (by decide)
                    · rw [if_neg c42] at H
                      have c42b0 : decide (t276 < 0) = false := decide_eq_false c42
                      clear c42
                      by_cases c43 : t276 = t266
                      · rw [if_pos c43] at H
                        have c43b0 : (t276 == t266) = true := beq_iff_eq.mpr c43
                        have c43b1 : (t276 != t266) = false := bne_eq_false_iff_eq.mpr c43
                        clear c43
                        obtain rfl := Option.some.inj H
                        go_wp2_with (first | ((with_reducible refine gate_callee (f := 34) rfl ?_);refine goesL_ (some 49) rfl rfl Try.func34 (by kernel_rfl) rfl #[.slice Ao22 t255.length co22,.int .i64 1] rfl (by (try simp only [List.map_toArray,List.map_cons,List.map_nil]);first | done | rfl | (simp only [List.length_drop,List.length_take];rfl)) ?_;(with_reducible refine (laws_markCandS.calls kj14 (fun k_ => some k_ = (.slice Ao22 t255.length co22 : Value).ownBlock) (.slice Ao22 t255.length co22) t255 1 t266 t267 w _ ?side1 ?side2 A33.out).mono ?_);(case side1 => repeat (first | (with_reducible first | exact HB.out | apply below_alloc | apply pw_below_drewN | apply below_drew1) | exact HB.out));(case side2 => exact Kd.R_tight rfl HO_8.out);rintro e w44 ⟨rfl,hy0,hb,hkp⟩;refine ⟨_,rfl,?_⟩;have n0_ := Aside0.mk (Kd.R_mono (ok' := fun k_ => some k_ ≠ (.slice Ao22 t255.length co22 : Value).ownBlock) (Kd.R_keptB (HO_6.out) hkp (fun k_ hk_ hs_ => (hk_) hs_)) (fun k_ hk_ => hk_.1));have n1_ := Aside0.mk (Kd.R_reok rfl hy0 (fun k_ e_ => HO_8.out.1 k_ e_));have n2_ := Aside0.mk (hb);clear HO_6;clear HO_8;clear HB;have HO_6 := n0_;have HO_8 := n1_;have HB := n2_;clear n0_ n1_ n2_;(try clear hb);(try clear hkp);(try clear hy0)) | ((with_reducible refine gate_callee (f := 35) rfl ?_);refine goesL_ (some 52) rfl rfl Try.func35 (by kernel_rfl) rfl #[.slice Ao22 t267.length co22,.int .i64 1] rfl (by (try simp only [List.map_toArray,List.map_cons,List.map_nil]);first | done | (rw [show t267.length = t255.length from (Kd.R_reads' HO_8.out).1.symm] <;> rfl) | rfl | (simp only [List.length_drop,List.length_take];rfl)) ?_;(with_reducible refine (laws_heldCandS.calls kj14 _ _ t267 1 t268 _ ?side1 ?side2 A34.out).mono ?_);(case side1 => repeat (first | exact (Kd.R_reads' HO_8.out).2.2 | (with_reducible refine Kd.C_alloc ?_ _) | (with_reducible refine Kd.C_drewN ?_ _) | (with_reducible refine Kd.C_drew ?_)));(case side2 => rw [show t267.length = t255.length from (Kd.R_reads' HO_8.out).1.symm];exact (Kd.R_reads' HO_8.out).2.1);rintro e w' ⟨rfl,⟨nd,rfl⟩⟩;refine ⟨_,rfl,?_⟩) | ((with_reducible refine gate_callee (f := 29) rfl ?_);refine goesL_ (some 59) rfl rfl Try.func29 (by kernel_rfl) rfl #[.slice A0 l0.length c0] rfl (by (try simp only [List.map_toArray,List.map_cons,List.map_nil]);first | done | rfl | (simp only [List.length_drop,List.length_take];rfl)) ?_;(with_reducible refine (laws_toSlotSS.calls kj14 _ _ l0 t269 _ ?side1 ?side2 A37.out).mono ?_);(case side1 => repeat (first | exact (Kd.C_below HR0.out (by repeat (first | (with_reducible first | exact HB.out | apply below_alloc | apply pw_below_drewN | apply below_drew1) | exact HB.out))) | (with_reducible refine Kd.C_alloc ?_ _) | (with_reducible refine Kd.C_drewN ?_ _) | (with_reducible refine Kd.C_drew ?_)));(case side2 => exact HC0.out);rintro e w45 ⟨v270,rfl,ho0,hb⟩;refine ⟨_,rfl,?_⟩;have n0_ := Aside0.mk (Kd.R_below (by (with_reducible repeat (first | apply Kd.R_alloc | apply Kd.R_drewN | apply Kd.R_drew));exact HO_6.out) hb);have n1_ := Aside0.mk (Kd.R_below (by (with_reducible repeat (first | apply Kd.R_alloc | apply Kd.R_drewN | apply Kd.R_drew));exact HO_8.out) hb);have n2_ := Aside0.mk (Kd.S_lower ho0 (below_size (by repeat (first | (with_reducible first | exact HB.out | apply below_alloc | apply pw_below_drewN | apply below_drew1) | exact HB.out))));have n3_ := Aside0.mk (below_step (by repeat (first | (with_reducible first | exact HB.out | apply below_alloc | apply pw_below_drewN | apply below_drew1) | exact HB.out)) hb);clear HO_6;clear HO_8;clear HB;have HO_6 := n0_;have HO_8 := n1_;have HO271 := n2_;have HB := n3_;clear n0_ n1_ n2_ n3_;(try clear hb);(try clear hb2);(try clear hk);(try clear hi);(try clear ho0);obtain ⟨Ao46,co46,eo46⟩ := Kd.S_slice HO271.out;subst eo46) | ((with_reducible refine gate_callee (f := 30) rfl ?_);refine goesL_ (some 61) rfl rfl Try.func30 (by kernel_rfl) rfl #[.slice Ao46 t269.length co46,.int .i64 a1] rfl (by (try simp only [List.map_toArray,List.map_cons,List.map_nil]);first | done | rfl | (simp only [List.length_drop,List.length_take];rfl)) ?_;(with_reducible refine (impl_CandsOf.calls kj14 _ _ t269 a1 t272 _ ?side1 ?side2 A38.out).mono ?_);(case side1 => repeat (first | exact (Kd.S_reads' HO271.out).2.2 | (with_reducible refine Kd.C_alloc ?_ _) | (with_reducible refine Kd.C_drewN ?_ _) | (with_reducible refine Kd.C_drew ?_)));(case side2 => exact (Kd.S_reads' HO271.out).2.1);rintro e w47 ⟨v273,rfl,ho0,hb⟩;refine ⟨_,rfl,?_⟩;have n0_ := Aside0.mk (Kd.R_elder' (by (with_reducible repeat (first | apply Kd.R_alloc | apply Kd.R_drewN | apply Kd.R_drew));exact HO_6.out) (Kd.R_base ho0) hb);have n1_ := Aside0.mk (Kd.R_elder' (by (with_reducible repeat (first | apply Kd.R_alloc | apply Kd.R_drewN | apply Kd.R_drew));exact HO_8.out) (Kd.R_base ho0) hb);have n2_ := Aside0.mk (Kd.S_below (by (with_reducible repeat (first | apply Kd.S_alloc | apply Kd.S_drewN | apply Kd.S_drew));exact HO271.out) hb);have n3_ := Aside0.mk (Kd.R_lower (Kd.R_new' (Kd.R_new' ho0 (Kd.R_lt (by (with_reducible repeat (first | apply Kd.R_alloc | apply Kd.R_drewN | apply Kd.R_drew));exact HO_6.out))) (Kd.R_lt (by (with_reducible repeat (first | apply Kd.R_alloc | apply Kd.R_drewN | apply Kd.R_drew));exact HO_8.out))) (below_size (by repeat (first | (with_reducible first | exact HB.out | apply below_alloc | apply pw_below_drewN | apply below_drew1) | exact HB.out))));have n4_ := Aside0.mk (below_step (by repeat (first | (with_reducible first | exact HB.out | apply below_alloc | apply pw_below_drewN | apply below_drew1) | exact HB.out)) hb);clear HO_6;clear HO_8;clear HO271;clear HB;have HO_6 := n0_;have HO_8 := n1_;have HO271 := n2_;have HO274 := n3_;have HB := n4_;clear n0_ n1_ n2_ n3_ n4_;(try clear hb);(try clear hb2);(try clear hk);(try clear hi);(try clear ho0);obtain ⟨Ao48,co48,eo48⟩ := Kd.R_slice HO274.out;subst eo48) | ((with_reducible refine gate_callee (f := 31) rfl ?_);refine goesL_ (some 64) rfl rfl Try.func31 (by kernel_rfl) rfl #[.slice Ao48 t272.length co48,.slice Ao23 t249.length co23] rfl (by (try simp only [List.map_toArray,List.map_cons,List.map_nil]);first | done | rfl | (simp only [List.length_drop,List.length_take];rfl)) ?_;(with_reducible refine (laws_eqCandS.calls kj14 _ _ t272 _ _ t249 true _ ?side1 ?side2 ?side3 ?side4 A39.out).mono ?_);(case side1 => repeat (first | exact (Kd.R_reads' HO274.out).2.2 | (with_reducible refine Kd.C_alloc ?_ _) | (with_reducible refine Kd.C_drewN ?_ _) | (with_reducible refine Kd.C_drew ?_)));(case side2 => exact (Kd.R_reads' HO274.out).2.1);(case side3 => repeat (first | exact (Kd.R_reads' HO_6.out).2.2 | (with_reducible refine Kd.C_alloc ?_ _) | (with_reducible refine Kd.C_drewN ?_ _) | (with_reducible refine Kd.C_drew ?_)));(case side4 => exact (Kd.R_reads' HO_6.out).2.1);rintro e w49 ⟨rfl,hb⟩;refine ⟨_,rfl,?_⟩;have n0_ := Aside0.mk (Kd.R_below (by (with_reducible repeat (first | apply Kd.R_alloc | apply Kd.R_drewN | apply Kd.R_drew));exact HO_6.out) hb);have n1_ := Aside0.mk (Kd.R_below (by (with_reducible repeat (first | apply Kd.R_alloc | apply Kd.R_drewN | apply Kd.R_drew));exact HO_8.out) hb);have n2_ := Aside0.mk (Kd.S_below (by (with_reducible repeat (first | apply Kd.S_alloc | apply Kd.S_drewN | apply Kd.S_drew));exact HO271.out) hb);have n3_ := Aside0.mk (Kd.R_below (by (with_reducible repeat (first | apply Kd.R_alloc | apply Kd.R_drewN | apply Kd.R_drew));exact HO274.out) hb);have n4_ := Aside0.mk (below_step (by repeat (first | (with_reducible first | exact HB.out | apply below_alloc | apply pw_below_drewN | apply below_drew1) | exact HB.out)) hb);clear HO_6;clear HO_8;clear HO271;clear HO274;clear HB;have HO_6 := n0_;have HO_8 := n1_;have HO271 := n2_;have HO274 := n3_;have HB := n4_;clear n0_ n1_ n2_ n3_ n4_;(try clear hb);(try clear hb2);(try clear hk);(try clear hi)) | ((with_reducible refine gate_callee (f := 35) rfl ?_);refine goesL_ (some 68) rfl rfl Try.func35 (by kernel_rfl) rfl #[.slice Ao22 t267.length co22,.int .i64 1] rfl (by (try simp only [List.map_toArray,List.map_cons,List.map_nil]);first | done | (rw [show t267.length = t255.length from (Kd.R_reads' HO_8.out).1.symm] <;> rfl) | rfl | (simp only [List.length_drop,List.length_take];rfl)) ?_;(with_reducible refine (laws_heldCandS.calls kj14 _ _ t267 1 t276 _ ?side1 ?side2 A41.out).mono ?_);(case side1 => repeat (first | exact (Kd.R_reads' HO_8.out).2.2 | (with_reducible refine Kd.C_alloc ?_ _) | (with_reducible refine Kd.C_drewN ?_ _) | (with_reducible refine Kd.C_drew ?_)));(case side2 => rw [show t267.length = t255.length from (Kd.R_reads' HO_8.out).1.symm];exact (Kd.R_reads' HO_8.out).2.1);rintro e w' ⟨rfl,⟨nd,rfl⟩⟩;refine ⟨_,rfl,?_⟩))
                        go_ret
                        exact ⟨by first | rfl | (simp [errW_none,errW_some] <;> rfl) | (simp [*,errW_none,errW_some] <;> rfl),by repeat (first | (with_reducible first | exact HB.out | apply below_alloc | apply pw_below_drewN | apply below_drew1) | exact HB.out)⟩
                      · rw [if_neg c43] at H
                        have c43b0 : (t276 == t266) = false := beq_eq_false_iff_ne.mpr c43
                        have c43b1 : (t276 != t266) = true := bne_iff_ne.mpr c43
                        exact absurd ((Option.some.inj H).trans HRT.out) (by decide)
                  · replace c40 := Bool.eq_false_iff.mpr c40
                    subst c40
                    have H1 : (some false) = some r := by rw [if_neg (show ¬ (false = true) by decide)] at H;exact H
                    clear H
                    have H := H1
                    clear H1
                    exact absurd ((Option.some.inj H).trans HRT.out) (by decide)
                · rw [if_neg c36] at H
                  have c36b0 : (t268 == t266) = false := beq_eq_false_iff_ne.mpr c36
                  have c36b1 : (t268 != t266) = true := bne_iff_ne.mpr c36
                  exact absurd ((Option.some.inj H).trans HRT.out) (by decide)
      · replace c13 := Bool.eq_false_iff.mpr c13
        subst c13
        have H1 : (some false) = some r := by rw [if_neg (show ¬ (false = true) by decide)] at H;exact H
        clear H
        have H := H1
        clear H1
        exact absurd ((Option.some.inj H).trans HRT.out) (by decide)
    · replace c10 := Bool.eq_false_iff.mpr c10
      subst c10
      have H1 : (some false) = some r := by rw [if_neg (show ¬ (false = true) by decide)] at H;exact H
      clear H
      have H := H1
      clear H1
      exact absurd ((Option.some.inj H).trans HRT.out) (by decide)

end Go.Proofs.Ytiacoiiapmfaeaa.QFnExactCandsOf
