/- The machine side of FnExactColumn: what each Go function that it reaches comes to. Conditions: none. -/
import Derived.Test.YtiacoiiapmfaeaaQFnExactColumnx0
import Derived.Test.YtiacoiiapmfaeaaQFnExactColumnx1
import Derived.Test.YtiacoiiapmfaeaaQFnExactColumnx2
import Derived.Test.YtiacoiiapmfaeaaQFnExactColumnx3
namespace Go.Proofs.Ytiacoiiapmfaeaa.QFnExactColumn
open Go.RowKit Go.Proofs.YtiacoiiapmfaeaaW.PrintWords Go.Proofs.YtiacoiiapmfaeaaW.PrintLast Go.Proofs.YtiacoiiapmfaeaaW.PrintMore
attribute [local go_sem] max2_int min2_int max_two min_two max_three min_three max_four min_four   -- for this text's walks alone
set_option linter.unusedVariables false
set_option linter.unusedSimpArgs false

/-! ### laws_markTable: function 23 -/
def laws_markTable.f (k : Nat) (l0 : List ByteArray) (_a : ByteArray) (l2 : List (List Int)) (l3 : List Int) (a1 : Int) : Option (Int × List ByteArray × List (List Int) × List Int) := (laws_markStringS.f k l0 a1).bind fun t => (laws_markIntSS.f k l2 t.1).bind fun s => (laws_markIntS.f k l3 s.1).bind fun q => some (q.1,t.2,s.2,q.2)
theorem laws_markTable.mono : ∀ a0 a1 a2 a3 a4 k,LeO (laws_markTable.f k a0 a1 a2 a3 a4) (laws_markTable.f (k + 1) a0 a1 a2 a3 a4) := by
  intro a0 a1 a2 a3 a4 k
  unfold laws_markTable.f
  exact LeO.bind (laws_markStringS.mono _ _ _) (fun _ => LeO.bind (laws_markIntSS.mono _ _ _) (fun _ => LeO.bind (laws_markIntS.mono _ _ _) (fun _ => LeO.refl _)))
set_option maxHeartbeats 8000000 in
set_option maxRecDepth 100000 in
theorem laws_markTable.calls (k : Nat) (P0_ : Nat → Prop) (u0_ : Value) (l0 : List ByteArray) (a0_1 : ByteArray) (P2_ : Nat → Prop) (u2_ : Value) (l2 : List (List Int)) (P3_ : Nat → Prop) (u3_ : Value) (l3 : List Int) (a1 : Int) (r1 : Int) (r2 : List ByteArray) (r3 : List (List Int)) (r4 : List Int) (w0 w : World) (hB : Below w0.heap.size w0 w)
    (ho0 : Kd.R Kd.string 9 w w0.heap.size P0_ u0_ l0) (ho2 : Kd.S (Kd.slice 3 (Kd.int .i64)) 34 w w0.heap.size P2_ u2_ l2) (hap : ∀ k_,P2_ k_ → ¬ P3_ k_) (ho3 : Kd.R (Kd.int .i64) 3 w w0.heap.size P3_ u3_ l3) (_ : ∀ k_,P3_ k_ → ¬ P2_ k_) (h : laws_markTable.f k l0 a0_1 l2 l3 a1 = some (r1,r2,r3,r4)) :
    Calls Try.prog 23 #[.agg #[u0_,.string a0_1,u2_,u3_],.int .i64 a1] w fun e w' => e = .returned (.int .i64 r1) ∧ Kd.R Kd.string 9 w' w0.heap.size P0_ u0_ r2 ∧ Kd.S (Kd.slice 3 (Kd.int .i64)) 34 w' w0.heap.size P2_ u2_ r3 ∧ Kd.R (Kd.int .i64) 3 w' w0.heap.size P3_ u3_ r4 ∧ Below w0.heap.size w0 w' ∧ Kept w w' (fun k_ => P0_ k_ ∨ P2_ k_ ∨ P3_ k_) := by
  unfold laws_markTable.f at h
  obtain ⟨⟨t1,t2⟩,A1,h⟩ := Option.bind_eq_some_iff.mp h
  dsimp only at h
  obtain ⟨⟨s1,s2⟩,A2,h⟩ := Option.bind_eq_some_iff.mp h
  dsimp only at h
  obtain ⟨⟨q1,q2⟩,A3,h⟩ := Option.bind_eq_some_iff.mp h
  simp only [Option.some.injEq,Prod.mk.injEq] at h
  obtain ⟨rfl,rfl,rfl,rfl⟩ := h
  have A1 := Aside0.mk A1
  have A2 := Aside0.mk A2
  have A3 := Aside0.mk A3
  obtain ⟨Aa,ca,rfl⟩ := Kd.R_slice ho0
  obtain ⟨Ab,cb,rfl⟩ := Kd.S_slice ho2
  obtain ⟨Ac,cc,rfl⟩ := Kd.R_slice ho3
  have ta := Kd.R_tight rfl ho0
  have tb := Kd.S_bound ho2
  have tc := Kd.R_tight rfl ho3
  have ya := Kd.R_typed ho0
  have yc := Kd.R_typed ho3
  have la := Kd.R_lt ho0
  have lc := Kd.R_lt ho3
  have pa := ho0.1
  have pc := ho3.1
  clear ho0 ho2 ho3
  generalize hPA : (fun k_ => some k_ = (Value.slice Aa l0.length ca).ownBlock) = PA at ta
  generalize hPC : (fun k_ => some k_ = (Value.slice Ac l3.length cc).ownBlock) = PC at tc
  generalize hPB : (fun k_ => P2_ k_ ∧ w0.heap.size ≤ k_ ∧ k_ < w.heap.size ∧ ∃ q,q ∈ 34 :: (Kd.slice 3 (Kd.int .i64)).E ∧ ∃ cells,w.heap[k_]? = some (.cells cells q (0,0))) = PB at tb
  have eA : ∀ k_,PA k_ ↔ some k_ = (Value.slice Aa l0.length ca).ownBlock := fun k_ => by rw [← hPA]
  have eC : ∀ k_,PC k_ ↔ some k_ = (Value.slice Ac l3.length cc).ownBlock := fun k_ => by rw [← hPC]
  have bP : ∀ k_,PB k_ → P2_ k_ := fun k_ h_ => by rw [← hPB] at h_;exact h_.1
  have bL : ∀ k_,PB k_ → k_ < w.heap.size := fun k_ h_ => by rw [← hPB] at h_;exact h_.2.2.1
  have bT : ∀ k_,PB k_ → ∃ q,(q = 34 ∨ q = 3) ∧ ∃ cells,w.heap[k_]? = some (.cells cells q (0,0)) := fun k_ h_ => by
    rw [← hPB] at h_
    obtain ⟨_,_,_,q,hq,hc⟩ := h_
    refine ⟨q,?_,hc⟩
    simpa [Kd.slice,Kd.int,Kd.scalar] using hq
  have aL : ∀ k_,PA k_ → k_ < w.heap.size := fun k_ h_ => la k_ ((eA k_).1 h_).symm
  have cL : ∀ k_,PC k_ → k_ < w.heap.size := fun k_ h_ => lc k_ ((eC k_).1 h_).symm
  have nAB : ∀ k_,PA k_ → ¬ PB k_ := fun k_ h1 h2 => by
    obtain ⟨c1,e1⟩ := ya k_ ((eA k_).1 h1).symm
    obtain ⟨q,hq,c2,e2⟩ := bT k_ h2
    rw [e1] at e2
    injection e2 with e2
    injection e2 with _ e2 _
    rcases hq with rfl | rfl <;> exact absurd e2 (by decide)
  have nAC : ∀ k_,PA k_ → ¬ PC k_ := fun k_ h1 h2 => by
    obtain ⟨c1,e1⟩ := ya k_ ((eA k_).1 h1).symm
    obtain ⟨c2,e2⟩ := yc k_ ((eC k_).1 h2).symm
    rw [e1] at e2
    injection e2 with e2
    injection e2 with _ e2 _
    exact absurd e2 (by decide)
  have nBC : ∀ k_,PB k_ → ¬ PC k_ := fun k_ h1 h2 => hap k_ (bP k_ h1) (pc k_ ((eC k_).1 h2).symm)
  have aP : ∀ k_,PA k_ → P0_ k_ := fun k_ h_ => pa k_ ((eA k_).1 h_).symm
  have cP : ∀ k_,PC k_ → P3_ k_ := fun k_ h_ => pc k_ ((eC k_).1 h_).symm
  clear eA eC bT ya yc la lc hap hPA hPB hPC pa pc
  have HA := Aside0.mk ta
  have HBB := Aside0.mk tb
  have HC := Aside0.mk tc
  have HB := Aside0.mk hB
  have HK := Aside0.mk (Kept.refl w (fun k_ => P0_ k_ ∨ P2_ k_ ∨ P3_ k_))
  have N1 := Aside0.mk nAB
  have N2 := Aside0.mk nAC
  have N3 := Aside0.mk nBC
  have L1 := Aside0.mk aL
  have L2 := Aside0.mk bL
  have L3 := Aside0.mk cL
  have Q1 := Aside0.mk aP
  have Q2 := Aside0.mk bP
  have Q3 := Aside0.mk cP
  clear ta tb tc hB nAB nAC nBC aL bL cL aP bP cP
  go_enter Try.func23,Try.ntmps23
  go_wp2_with (first | ((with_reducible refine gate_dst (N := 2) rfl ?_);refine box_event ?hg (N := 2) ?hd (cs := #[.slice Aa l0.length ca,.string a0_1,.slice Ab l2.length cb,.slice Ac l3.length cc]) (t := 36) ?hr ?_;(case hd => rfl);(case hg => rfl);(case hr => first | (go_simp;done) | (go_simp;rfl));intro g hg w1 hbox hb;have n0_ := Aside0.mk (Kd.R_below HA.out hb);have n1_ := Aside0.mk (Kd.S_below HBB.out hb);have n2_ := Aside0.mk (Kd.R_below HC.out hb);have n3_ := Aside0.mk (below_step HB.out hb);have n4_ := Aside0.mk (Kept.below HK.out hb);have BK := Aside0.mk hbox;have GN := Aside0.mk (show ∀ k_,k_ < w.heap.size → k_ ≠ g from fun k_ h_ e_ => by rw [e_,hg] at h_;exact absurd h_ (Nat.lt_irrefl _));clear HA HBB HC HB HK hb hbox hg;have HA := n0_;have HBB := n1_;have HC := n2_;have HB := n3_;have HK := n4_;clear n0_ n1_ n2_ n3_ n4_;have hc0 : w1.cell? ⟨g,0,none⟩ = some (.slice Aa l0.length ca) := (blk_cell BK.out 0).trans rfl;have hc2 : w1.cell? ⟨g,2,none⟩ = some (.slice Ab l2.length cb) := (blk_cell BK.out 2).trans rfl;have hc3 : w1.cell? ⟨g,3,none⟩ = some (.slice Ac l3.length cc) := (blk_cell BK.out 3).trans rfl) | ((with_reducible refine gate_callee (f := 58) rfl ?_);refine goesL_ (some 8) rfl rfl Try.func58 (by kernel_rfl) rfl #[.slice Aa l0.length ca,.int .i64 a1] rfl (by (try simp only [List.map_toArray,List.map_cons,List.map_nil]);first | done | rfl) ?_;(with_reducible refine (laws_markStringS.calls k PA (.slice Aa l0.length ca) l0 a1 t1 t2 w0 _ ?side1 ?side2 A1.out).mono ?_);(case side1 => exact HB.out);(case side2 => exact HA.out);rintro e w2 ⟨rfl,hy0,hb,hkp⟩;refine ⟨_,rfl,?_⟩;have n0_ := Aside0.mk (Kd.R_reok rfl hy0 (fun k_ e_ => HA.out.1 k_ e_));have n1_ := Aside0.mk (Kd.S_kept HBB.out hkp (fun k_ h1_ h2_ => N1.out k_ h2_ h1_));have n2_ := Aside0.mk (Kd.R_kept HC.out hkp (fun k_ h1_ h2_ => N2.out k_ h2_ h1_));have n3_ := Aside0.mk hb;have n4_ := Aside0.mk (Kept.then_ HK.out hkp (fun k_ h_ => .inl (.inl (Q1.out k_ h_))));have n5_ := Aside0.mk (blk_kept BK.out hkp (fun h_ => GN.out _ (L1.out _ h_) rfl));clear HA HBB HC HB HK BK hc0 hc2 hc3;have HA := n0_;have HBB := n1_;have HC := n2_;have HB := n3_;have HK := n4_;have BK := n5_;clear n0_ n1_ n2_ n3_ n4_ n5_ hy0 hb hkp;have hc2 : w2.cell? ⟨g,2,none⟩ = some (.slice Ab l2.length cb) := (blk_cell BK.out 2).trans rfl;have hc3 : w2.cell? ⟨g,3,none⟩ = some (.slice Ac l3.length cc) := (blk_cell BK.out 3).trans rfl) | ((with_reducible refine gate_callee (f := 59) rfl ?_);refine goesL_ (some 12) rfl rfl Try.func59 (by kernel_rfl) rfl #[.slice Ab l2.length cb,.int .i64 t1] rfl (by (try simp only [List.map_toArray,List.map_cons,List.map_nil]);first | done | rfl) ?_;(with_reducible refine (laws_markIntSS.calls k PB (.slice Ab l2.length cb) l2 t1 s1 s2 w0 _ ?side1 ?side2 A2.out).mono ?_);(case side1 => exact HB.out);(case side2 => exact HBB.out);rintro e w3 ⟨rfl,hy0,hb,hkp⟩;refine ⟨_,rfl,?_⟩;have n0_ := Aside0.mk (Kd.R_kept HA.out hkp (fun k_ h1_ h2_ => N1.out k_ h1_ h2_));have n1_ := Aside0.mk hy0;have n2_ := Aside0.mk (Kd.R_kept HC.out hkp (fun k_ h1_ h2_ => N3.out k_ h2_ h1_));have n3_ := Aside0.mk hb;have n4_ := Aside0.mk (Kept.then_ HK.out hkp (fun k_ h_ => .inl (.inr (.inl (Q2.out k_ h_)))));have n5_ := Aside0.mk (blk_kept BK.out hkp (fun h_ => GN.out _ (L2.out _ h_) rfl));clear HA HBB HC HB HK BK hc2 hc3;have HA := n0_;have HBB := n1_;have HC := n2_;have HB := n3_;have HK := n4_;have BK := n5_;clear n0_ n1_ n2_ n3_ n4_ n5_ hy0 hb hkp;have hc3 : w3.cell? ⟨g,3,none⟩ = some (.slice Ac l3.length cc) := (blk_cell BK.out 3).trans rfl) | ((with_reducible refine gate_callee (f := 24) rfl ?_);refine goesL_ (some 16) rfl rfl Try.func24 (by kernel_rfl) rfl #[.slice Ac l3.length cc,.int .i64 s1] rfl (by (try simp only [List.map_toArray,List.map_cons,List.map_nil]);first | done | rfl) ?_;(with_reducible refine (laws_markIntS.calls k PC (.slice Ac l3.length cc) l3 s1 q1 q2 w0 _ ?side1 ?side2 A3.out).mono ?_);(case side1 => exact HB.out);(case side2 => exact HC.out);rintro e w4 ⟨rfl,hy0,hb,hkp⟩;refine ⟨_,rfl,?_⟩;have n0_ := Aside0.mk (Kd.R_kept HA.out hkp (fun k_ h1_ h2_ => N2.out k_ h1_ h2_));have n1_ := Aside0.mk (Kd.S_kept HBB.out hkp (fun k_ h1_ h2_ => N3.out k_ h1_ h2_));have n2_ := Aside0.mk (Kd.R_reok rfl hy0 (fun k_ e_ => HC.out.1 k_ e_));have n3_ := Aside0.mk hb;have n4_ := Aside0.mk (Kept.then_ HK.out hkp (fun k_ h_ => .inl (.inr (.inr (Q3.out k_ h_)))));clear HA HBB HC HB HK BK hc3;have HA := n0_;have HBB := n1_;have HC := n2_;have HB := n3_;have HK := n4_;clear n0_ n1_ n2_ n3_ n4_ hy0 hb hkp))
  go_ret
  exact ⟨rfl,Kd.R_mono HA.out Q1.out,Kd.S_mono HBB.out Q2.out,Kd.R_mono HC.out Q3.out,HB.out,HK.out⟩

/-! ### laws_heldIntS: function 25 -/
def laws_heldIntS.l0 : Nat → List Int → Int → Int → Option (Int)
  | 0,_,_,_ => none
  | k + 1,x0,x1,x5 => if x5 < (x0.length : Int) then (if 0 ≤ x5 then (if (rd x0 x5) = x1 then (laws_heldIntS.l0 k x0 (wrap64 (x1 + 1)) (wrap64 (x5 + 1))) else (some (-1))) else (none)) else (some x1)
def laws_heldIntS.f (k : Nat) (l0 : List Int) (a1 : Int) : Option (Int) := laws_heldIntS.l0 k l0 a1 0
theorem laws_heldIntS.mono_l : ∀ k,(∀ y0 y1 y2,LeO (laws_heldIntS.l0 k y0 y1 y2) (laws_heldIntS.l0 (k + 1) y0 y1 y2))
  | 0 => fun _ _ _ r h => by simp [laws_heldIntS.l0] at h
  | k + 1 => by
    have ih0 := laws_heldIntS.mono_l k
    · intro y0 y1 y2
      unfold laws_heldIntS.l0
      repeat' first
      | (with_reducible exact ih0 _ _ _)
      | (with_reducible exact LeO.refl _)
      | (with_reducible exact LeO.none _)
      | (with_reducible refine LeO.ite ?_ ?_)
      | (with_reducible refine LeO.bind ?_ (fun _ => ?_))
      | exact ih0 _ _ _
      | exact LeO.none _
      | refine LeO.ite ?_ ?_
      | refine LeO.bind ?_ (fun _ => ?_)
theorem laws_heldIntS.mono : ∀ a0 a1 k,LeO (laws_heldIntS.f k a0 a1) (laws_heldIntS.f (k + 1) a0 a1) := by
  intro a0 a1 k
  have ih0 := laws_heldIntS.mono_l k
  unfold laws_heldIntS.f
  repeat' first
      | (with_reducible exact ih0 _ _ _)
      | (with_reducible exact LeO.refl _)
      | (with_reducible exact LeO.none _)
      | (with_reducible refine LeO.ite ?_ ?_)
      | (with_reducible refine LeO.bind ?_ (fun _ => ?_))
      | exact ih0 _ _ _
      | exact LeO.none _
      | refine LeO.ite ?_ ?_
      | refine LeO.bind ?_ (fun _ => ?_)
set_option maxHeartbeats 8000000 in
set_option maxRecDepth 100000 in
theorem laws_heldIntS.calls (k : Nat) (A0 : Option Addr) (c0 : Nat) (l0 : List Int) (a1 : Int) (r : Int) (w : World) (hr0 : Kd.C (Kd.int .i64) w A0 l0.length l0) (hc0 : l0.length ≤ c0) (h : laws_heldIntS.f k l0 a1 = some r) :
    Calls Try.prog 25 #[.slice A0 l0.length c0,.int .i64 a1] w fun e w' => e = .returned (.int .i64 r) ∧ Drawn0 w w' := by
  have HR0 := Aside0.mk hr0
  have HC0 := Aside0.mk hc0
  clear hr0 hc0
  have H : (laws_heldIntS.l0 k l0 a1 0) = some r := h
  clear h
  have H' := Aside0.mk H
  clear H
  go_enter Try.func25,Try.ntmps25
  go_wp2
  go_loopg [1,5] k (fun kq v1 v5 w' => ∃ (x1_1 : Int) (x5_1 : Int),v1 = .int .i64 x1_1 ∧ v5 = .int .i64 x5_1 ∧ Aside0 (laws_heldIntS.l0 kq l0 x1_1 x5_1 = some r) ∧ Aside0 (kq ≤ k) ∧ Drawn0 w w')
  case atStart => exact ⟨(a1),(0),(by first | rfl | (simp;done) | (simp [*];done)),(by first | rfl | (simp;done) | (simp [*];done)),H',⟨Nat.le_refl _⟩,by repeat (first | exact Drawn0.refl _ | apply Drawn0.step)⟩
  case round =>
    clear H'
    try clear c2
    try clear p2
    obtain ⟨x1_1,x5_1,rfl,rfl,HA,HK1,⟨m1,rfl⟩⟩ := hrel
    cases gk with
    | zero => exact absurd HA.out (by simp [laws_heldIntS.l0])
    | succ k1 =>
      have H := HA.out
      clear HA
      simp only [laws_heldIntS.l0] at H
      by_cases c3 : x5_1 < (l0.length : Int)
      · rw [if_pos c3] at H
        have c3b0 : decide (x5_1 < (l0.length : Int)) = true := decide_eq_true c3
        clear c3
        by_cases c4 : 0 ≤ x5_1
        · rw [if_pos c4] at H
          have c4b0 : decide (0 ≤ x5_1) = true := decide_eq_true c4
          clear c4
          by_cases c5 : (rd l0 x5_1) = x1_1
          · rw [if_pos c5] at H
            have c5b0 : ((rd l0 x5_1) == x1_1) = true := beq_iff_eq.mpr c5
            have c5b1 : ((rd l0 x5_1) != x1_1) = false := bne_eq_false_iff_eq.mpr c5
            clear c5
            have H' := Aside0.mk H
            clear H
            have p183 : 0 ≤ (x5_1 : Int) := of_decide_eq_true (by first | (with_reducible assumption) | assumption)
            have q183 : x5_1 < (l0.length : Int) := of_decide_eq_true (by first | (with_reducible assumption) | assumption)
            obtain ⟨ad183,e183,hx183_0⟩ := Kd.at_int HR0.out x5_1 p183 q183
            cases e183
            replace p183 := eq_true p183
            replace q183 := eq_true q183
            go_wp2
            go_roundg k1
            case measure => have := HK1.out;omega
            case rel => exact ⟨(wrap64 (x1_1 + 1)),(wrap64 (x5_1 + 1)),(by first | rfl | (simp;done) | (simp [*];done)),(by first | rfl | (simp;done) | (simp [*];done)),H',⟨by have := HK1.out;omega⟩,by repeat (first | exact Drawn0.refl _ | apply Drawn0.step)⟩
          · rw [if_neg c5] at H
            have c5b0 : ((rd l0 x5_1) == x1_1) = false := beq_eq_false_iff_ne.mpr c5
            have c5b1 : ((rd l0 x5_1) != x1_1) = true := bne_iff_ne.mpr c5
            obtain rfl := Option.some.inj H
            have p183 : 0 ≤ (x5_1 : Int) := of_decide_eq_true (by first | (with_reducible assumption) | assumption)
            have q183 : x5_1 < (l0.length : Int) := of_decide_eq_true (by first | (with_reducible assumption) | assumption)
            obtain ⟨ad183,e183,hx183_0⟩ := Kd.at_int HR0.out x5_1 p183 q183
            cases e183
            replace p183 := eq_true p183
            replace q183 := eq_true q183
            go_wp2
            go_ret
            exact ⟨by first | rfl | (simp;done) | (simp [*];done),by repeat (first | exact Drawn0.refl _ | apply Drawn0.step)⟩
        · rw [if_neg c4] at H
          exact absurd H (by simp)
      · rw [if_neg c3] at H
        have c3b0 : decide (x5_1 < (l0.length : Int)) = false := decide_eq_false c3
        clear c3
        obtain rfl := Option.some.inj H
        go_wp2
        go_ret
        exact ⟨by first | rfl | (simp;done) | (simp [*];done),by repeat (first | exact Drawn0.refl _ | apply Drawn0.step)⟩

/-! ### laws_FnExactColumn: function 5 -/
theorem laws_FnExactColumn.cells4 {w : World} {g : Nat} {t : TypeId} {a0 a1 a2 a3 : Value} (h : w.heap[g]? = some (.cells #[a0,a1,a2,a3] t (0,0))) : w.cell? ⟨g,0,none⟩ = some a0 ∧ w.cell? ⟨g,1,none⟩ = some a1 ∧ w.cell? ⟨g,2,none⟩ = some a2 ∧ w.cell? ⟨g,3,none⟩ = some a3 ∧ w.frozen? ⟨g,0,none⟩ = false ∧ w.frozen? ⟨g,1,none⟩ = false ∧ w.frozen? ⟨g,2,none⟩ = false ∧ w.frozen? ⟨g,3,none⟩ = false := ⟨(blk_cell h 0).trans rfl,(blk_cell h 1).trans rfl,(blk_cell h 2).trans rfl,(blk_cell h 3).trans rfl,blk_frozen h 0,blk_frozen h 1,blk_frozen h 2,blk_frozen h 3⟩
def laws_FnExactColumn.j0 : Nat → Int → List Int → List Int → Bool → List ByteArray → ByteArray → List (List Int) → List Int → Option (Bool)
  | 0,_,_,_,_,_,_,_,_ => none
  | k + 1,x1,x6,x8,x46,x185000,x185001,x185002,x185003 => if x46 = true then (some false) else ((laws_markIntS.f k x8 1).bind fun bt230 => ((laws_heldIntS.f k bt230.2 1).bind fun t232 => (if t232 < 0 then (some false) else (if t232 = bt230.1 then ((laws_toTable.f k x185000 x185001 x185002 x185003).bind fun bt233 => ((impl_Column.f k bt233.1 bt233.2.1 bt233.2.2.1 bt233.2.2.2 x1).bind fun t243 => ((laws_eqIntS.f k t243 x6).bind fun t246 => (if t246 = true then ((laws_heldIntS.f k bt230.2 1).bind fun t247 => (if t247 < 0 then (some false) else (if t247 = bt230.1 then (some true) else (some false)))) else (some false))))) else (some false)))))
def laws_FnExactColumn.f (k : Nat) (l0_0 : List ByteArray) (a0_1 : ByteArray) (l0_2 : List (List Int)) (l0_3 : List Int) (a1 : Int) : Option (Bool) := (laws_szTable.f k l0_0 a0_1 l0_2 l0_3 1048576).bind fun t185 => (if t185 < 0 then (some true) else ((laws_toTable.f k l0_0 a0_1 l0_2 l0_3).bind fun bt186 => ((spec_Column.f k bt186.1 bt186.2.1 bt186.2.2.1 bt186.2.2.2 a1).bind fun t196 => ((laws_toTable.f k l0_0 a0_1 l0_2 l0_3).bind fun bt199 => ((impl_Column.f k bt199.1 bt199.2.1 bt199.2.2.1 bt199.2.2.2 a1).bind fun t210 => ((laws_eqIntS.f k t210 t196).bind fun t213 => (if t213 = true then ((laws_toTable.f k l0_0 a0_1 l0_2 l0_3).bind fun bt214 => ((laws_eqTable.f k bt199.1 bt199.2.1 bt199.2.2.1 bt199.2.2.2 bt214.1 bt214.2.1 bt214.2.2.1 bt214.2.2.2).bind fun t224 => (if t224 = true then ((laws_markTable.f k bt199.1 bt199.2.1 bt199.2.2.1 bt199.2.2.2 1).bind fun bt225 => (if bt225.1 < 0 then (laws_FnExactColumn.j0 k a1 t196 t210 true l0_0 a0_1 l0_2 l0_3) else ((laws_eqIntS.f k t210 t196).bind fun t229 => (laws_FnExactColumn.j0 k a1 t196 t210 (!t229) l0_0 a0_1 l0_2 l0_3)))) else (some false)))) else (some false))))))))
theorem laws_FnExactColumn.mono_l : ∀ k,(∀ y0 y1 y2 y3 y4 y5 y6 y7,LeO (laws_FnExactColumn.j0 k y0 y1 y2 y3 y4 y5 y6 y7) (laws_FnExactColumn.j0 (k + 1) y0 y1 y2 y3 y4 y5 y6 y7))
  | 0 => fun _ _ _ _ _ _ _ _ r h => by simp [laws_FnExactColumn.j0] at h
  | k + 1 => by
    have ih0 := laws_FnExactColumn.mono_l k
    · intro y0 y1 y2 y3 y4 y5 y6 y7
      unfold laws_FnExactColumn.j0
      repeat' first
      | (with_reducible exact ih0 _ _ _ _ _ _ _ _)
      | (with_reducible exact impl_Column.mono _ _ _ _ _ _)
      | (with_reducible exact laws_eqIntS.mono _ _ _)
      | (with_reducible exact laws_eqTable.mono _ _ _ _ _ _ _ _ _)
      | (with_reducible exact laws_heldIntS.mono _ _ _)
      | (with_reducible exact laws_markIntS.mono _ _ _)
      | (with_reducible exact laws_markTable.mono _ _ _ _ _ _)
      | (with_reducible exact laws_szTable.mono _ _ _ _ _ _)
      | (with_reducible exact laws_toTable.mono _ _ _ _ _)
      | (with_reducible exact spec_Column.mono _ _ _ _ _ _)
      | (with_reducible exact LeO.refl _)
      | (with_reducible exact LeO.none _)
      | (with_reducible refine LeO.ite ?_ ?_)
      | (with_reducible refine LeO.bind ?_ (fun _ => ?_))
      | exact ih0 _ _ _ _ _ _ _ _
      | exact impl_Column.mono _ _ _ _ _ _
      | exact laws_eqIntS.mono _ _ _
      | exact laws_eqTable.mono _ _ _ _ _ _ _ _ _
      | exact laws_heldIntS.mono _ _ _
      | exact laws_markIntS.mono _ _ _
      | exact laws_markTable.mono _ _ _ _ _ _
      | exact laws_szTable.mono _ _ _ _ _ _
      | exact laws_toTable.mono _ _ _ _ _
      | exact spec_Column.mono _ _ _ _ _ _
      | exact LeO.none _
      | refine LeO.ite ?_ ?_
      | refine LeO.bind ?_ (fun _ => ?_)
theorem laws_FnExactColumn.mono : ∀ a0 a1 a2 a3 a4 k,LeO (laws_FnExactColumn.f k a0 a1 a2 a3 a4) (laws_FnExactColumn.f (k + 1) a0 a1 a2 a3 a4) := by
  intro a0 a1 a2 a3 a4 k
  have ih0 := laws_FnExactColumn.mono_l k
  unfold laws_FnExactColumn.f
  repeat' first
      | (with_reducible exact ih0 _ _ _ _ _ _ _ _)
      | (with_reducible exact impl_Column.mono _ _ _ _ _ _)
      | (with_reducible exact laws_eqIntS.mono _ _ _)
      | (with_reducible exact laws_eqTable.mono _ _ _ _ _ _ _ _ _)
      | (with_reducible exact laws_heldIntS.mono _ _ _)
      | (with_reducible exact laws_markIntS.mono _ _ _)
      | (with_reducible exact laws_markTable.mono _ _ _ _ _ _)
      | (with_reducible exact laws_szTable.mono _ _ _ _ _ _)
      | (with_reducible exact laws_toTable.mono _ _ _ _ _)
      | (with_reducible exact spec_Column.mono _ _ _ _ _ _)
      | (with_reducible exact LeO.refl _)
      | (with_reducible exact LeO.none _)
      | (with_reducible refine LeO.ite ?_ ?_)
      | (with_reducible refine LeO.bind ?_ (fun _ => ?_))
      | exact ih0 _ _ _ _ _ _ _ _
      | exact impl_Column.mono _ _ _ _ _ _
      | exact laws_eqIntS.mono _ _ _
      | exact laws_eqTable.mono _ _ _ _ _ _ _ _ _
      | exact laws_heldIntS.mono _ _ _
      | exact laws_markIntS.mono _ _ _
      | exact laws_markTable.mono _ _ _ _ _ _
      | exact laws_szTable.mono _ _ _ _ _ _
      | exact laws_toTable.mono _ _ _ _ _
      | exact spec_Column.mono _ _ _ _ _ _
      | exact LeO.none _
      | refine LeO.ite ?_ ?_
      | refine LeO.bind ?_ (fun _ => ?_)
theorem laws_FnExactColumn.j0_stop {k : Nat} {r : Bool} {y1 : Int} {y6 : List Int} {y8 : List Int} {y185000 : List ByteArray} {y185001 : ByteArray} {y185002 : List (List Int)} {y185003 : List Int} (h : laws_FnExactColumn.j0 k y1 y6 y8 true y185000 y185001 y185002 y185003 = some r) : r = false := by
  cases k with
  | zero => simp [laws_FnExactColumn.j0] at h
  | succ k =>
    simp only [laws_FnExactColumn.j0] at h
    rw [if_pos trivial] at h
    exact (Option.some.inj h).symm
set_option maxHeartbeats 8000000 in
set_option maxRecDepth 100000 in
theorem laws_FnExactColumn.calls (k : Nat) (A0_0 : Option Addr) (c0_0 : Nat) (l0_0 : List ByteArray) (a0_1 : ByteArray) (A0_2 : Option Addr) (c0_2 : Nat) (l0_2 : List (List Int)) (A0_3 : Option Addr) (c0_3 : Nat) (l0_3 : List Int) (a1 : Int) (r : Bool) (w : World) (hr0_0 : Kd.C Kd.string w A0_0 l0_0.length l0_0) (hc0_0 : l0_0.length ≤ c0_0) (hr0_2 : Kd.C (Kd.slice 3 (Kd.int .i64)) w A0_2 l0_2.length l0_2) (hc0_2 : l0_2.length ≤ c0_2) (hr0_3 : Kd.C (Kd.int .i64) w A0_3 l0_3.length l0_3) (hc0_3 : l0_3.length ≤ c0_3) (h : laws_FnExactColumn.f k l0_0 a0_1 l0_2 l0_3 a1 = some r) (hr_ : r = true) :
    Calls Try.prog 5 #[.agg #[.slice A0_0 l0_0.length c0_0,.string a0_1,.slice A0_2 l0_2.length c0_2,.slice A0_3 l0_3.length c0_3],.int .i64 a1] w fun e w' => e = .returned (.bool r) ∧ Below w.heap.size w w' := by
  have HRT := Aside0.mk hr_
  clear hr_
  have hu42 := Try.underlying42
  have hu36 := Try.underlying36
  have HR0_0 := Aside0.mk hr0_0
  have HC0_0 := Aside0.mk hc0_0
  clear hr0_0 hc0_0
  have HR0_2 := Aside0.mk hr0_2
  have HC0_2 := Aside0.mk hc0_2
  clear hr0_2 hc0_2
  have HR0_3 := Aside0.mk hr0_3
  have HC0_3 := Aside0.mk hc0_3
  clear hr0_3 hc0_3
  have HB := Aside0.mk (Below.refl w.heap.size w)
  have H : ((laws_szTable.f k l0_0 a0_1 l0_2 l0_3 1048576).bind fun t185 => (if t185 < 0 then (some true) else ((laws_toTable.f k l0_0 a0_1 l0_2 l0_3).bind fun bt186 => ((spec_Column.f k bt186.1 bt186.2.1 bt186.2.2.1 bt186.2.2.2 a1).bind fun t196 => ((laws_toTable.f k l0_0 a0_1 l0_2 l0_3).bind fun bt199 => ((impl_Column.f k bt199.1 bt199.2.1 bt199.2.2.1 bt199.2.2.2 a1).bind fun t210 => ((laws_eqIntS.f k t210 t196).bind fun t213 => (if t213 = true then ((laws_toTable.f k l0_0 a0_1 l0_2 l0_3).bind fun bt214 => ((laws_eqTable.f k bt199.1 bt199.2.1 bt199.2.2.1 bt199.2.2.2 bt214.1 bt214.2.1 bt214.2.2.1 bt214.2.2.2).bind fun t224 => (if t224 = true then ((laws_markTable.f k bt199.1 bt199.2.1 bt199.2.2.1 bt199.2.2.2 1).bind fun bt225 => (if bt225.1 < 0 then (laws_FnExactColumn.j0 k a1 t196 t210 true l0_0 a0_1 l0_2 l0_3) else ((laws_eqIntS.f k t210 t196).bind fun t229 => (laws_FnExactColumn.j0 k a1 t196 t210 (!t229) l0_0 a0_1 l0_2 l0_3)))) else (some false)))) else (some false))))))))) = some r := h
  clear h
  replace H := Option.bind_eq_some_iff.mp H
  obtain ⟨t185,A30,H⟩ := H
  replace H : (if t185 < 0 then (some true) else ((laws_toTable.f k l0_0 a0_1 l0_2 l0_3).bind fun bt186 => ((spec_Column.f k bt186.1 bt186.2.1 bt186.2.2.1 bt186.2.2.2 a1).bind fun t196 => ((laws_toTable.f k l0_0 a0_1 l0_2 l0_3).bind fun bt199 => ((impl_Column.f k bt199.1 bt199.2.1 bt199.2.2.1 bt199.2.2.2 a1).bind fun t210 => ((laws_eqIntS.f k t210 t196).bind fun t213 => (if t213 = true then ((laws_toTable.f k l0_0 a0_1 l0_2 l0_3).bind fun bt214 => ((laws_eqTable.f k bt199.1 bt199.2.1 bt199.2.2.1 bt199.2.2.2 bt214.1 bt214.2.1 bt214.2.2.1 bt214.2.2.2).bind fun t224 => (if t224 = true then ((laws_markTable.f k bt199.1 bt199.2.1 bt199.2.2.1 bt199.2.2.2 1).bind fun bt225 => (if bt225.1 < 0 then (laws_FnExactColumn.j0 k a1 t196 t210 true l0_0 a0_1 l0_2 l0_3) else ((laws_eqIntS.f k t210 t196).bind fun t229 => (laws_FnExactColumn.j0 k a1 t196 t210 (!t229) l0_0 a0_1 l0_2 l0_3)))) else (some false)))) else (some false)))))))) = some r := H
  have A3 := Aside0.mk A30
  clear A30
  by_cases c4 : t185 < 0
  · rw [if_pos c4] at H
    have c4b0 : decide (t185 < 0) = true := decide_eq_true c4
    clear c4
    obtain rfl := Option.some.inj H
    go_enter Try.func5,Try.ntmps5
    go_wp2_with (first | ((with_reducible refine gate_dst (N := 2) rfl ?_);refine box_event ?hg (N := 2) ?hd (cs := #[.slice A0_0 l0_0.length c0_0,.string a0_1,.slice A0_2 l0_2.length c0_2,.slice A0_3 l0_3.length c0_3]) (t := 42) ?hr ?_;(case hd => rfl);(case hg => rfl);(case hr => first | (go_simp;done) | (go_simp;rfl));intro gb184 hg w5 hbox hb;have n0_ := Aside0.mk (below_step (by repeat (first | (with_reducible first | exact HB.out | apply below_alloc | apply pw_below_drewN | apply below_drew1) | exact HB.out)) hb);have n1_ := Aside0.mk (hbox);have n2_ := Aside0.mk ((by rw [hg];exact (below_size (by repeat (first | (with_reducible first | exact HB.out | apply below_alloc | apply pw_below_drewN | apply below_drew1) | exact HB.out))) : w.heap.size ≤ gb184));have n3_ := Aside0.mk ((by rw [hg];exact (below_size (by repeat (first | (with_reducible first | exact HB.out | apply below_alloc | apply pw_below_drewN | apply below_drew1) | exact HB.out))) : w.heap.size ≤ gb184));clear HB;have HB := n0_;have BK184 := n1_;have GW184 := n2_;have GE184 := n3_;clear n0_ n1_ n2_ n3_;clear hb hbox hg;obtain ⟨hcz6_0,hcz6_1,hcz6_2,hcz6_3,hfz6_0,hfz6_1,hfz6_2,hfz6_3⟩ := laws_FnExactColumn.cells4 BK184.out) | ((with_reducible refine gate_callee (f := 19) rfl ?_);refine goesL_ (some 15) rfl rfl Try.func19 (by kernel_rfl) rfl #[.agg #[.slice A0_0 l0_0.length c0_0,.string a0_1,.slice A0_2 l0_2.length c0_2,.slice A0_3 l0_3.length c0_3],.int .i64 1048576] rfl (by (try simp only [List.map_toArray,List.map_cons,List.map_nil]);first | done | rfl | (simp only [List.length_drop,List.length_take];rfl)) ?_;(with_reducible refine (laws_szTable.calls k _ _ l0_0 a0_1 _ _ l0_2 _ _ l0_3 1048576 t185 _ ?side1 ?side2 ?side3 ?side4 ?side5 ?side6 A3.out).mono ?_);(case side1 => repeat (first | exact (Kd.C_below HR0_0.out HB.out) | (with_reducible refine Kd.C_alloc ?_ _) | (with_reducible refine Kd.C_drewN ?_ _) | (with_reducible refine Kd.C_drew ?_)));(case side2 => exact HC0_0.out);(case side3 => repeat (first | exact (Kd.C_below HR0_2.out HB.out) | (with_reducible refine Kd.C_alloc ?_ _) | (with_reducible refine Kd.C_drewN ?_ _) | (with_reducible refine Kd.C_drew ?_)));(case side4 => exact HC0_2.out);(case side5 => repeat (first | exact (Kd.C_below HR0_3.out HB.out) | (with_reducible refine Kd.C_alloc ?_ _) | (with_reducible refine Kd.C_drewN ?_ _) | (with_reducible refine Kd.C_drew ?_)));(case side6 => exact HC0_3.out);rintro e w7 ⟨rfl,hb⟩;refine ⟨_,rfl,?_⟩;have n0_ := Aside0.mk (blk_below (g := gb184) (o := .cells #[.slice A0_0 l0_0.length c0_0,.string a0_1,.slice A0_2 l0_2.length c0_2,.slice A0_3 l0_3.length c0_3] 42 (0,0)) (by refine bP ?_;exact BK184.out) hb);have n1_ := Aside0.mk (below_step (by repeat (first | (with_reducible first | exact HB.out | apply below_alloc | apply pw_below_drewN | apply below_drew1 | refine below_set ?_ GE184.out) | exact HB.out)) hb);clear BK184;clear HB;have BK184 := n0_;have HB := n1_;clear n0_ n1_;(try clear hb);(try clear hb2);(try clear hk);(try clear hi)))
    go_ret
    exact ⟨by first | rfl | (simp [errW_none,errW_some] <;> rfl) | (simp [*,errW_none,errW_some] <;> rfl),by repeat (first | (with_reducible first | exact HB.out | apply below_alloc | apply pw_below_drewN | apply below_drew1 | refine below_set ?_ GE184.out) | exact HB.out)⟩
  · rw [if_neg c4] at H
    have c4b0 : decide (t185 < 0) = false := decide_eq_false c4
    clear c4
    replace H := Option.bind_eq_some_iff.mp H
    obtain ⟨⟨t186,t189,t190,t193⟩,A80,H⟩ := H
    replace H : ((spec_Column.f k t186 t189 t190 t193 a1).bind fun t196 => ((laws_toTable.f k l0_0 a0_1 l0_2 l0_3).bind fun bt199 => ((impl_Column.f k bt199.1 bt199.2.1 bt199.2.2.1 bt199.2.2.2 a1).bind fun t210 => ((laws_eqIntS.f k t210 t196).bind fun t213 => (if t213 = true then ((laws_toTable.f k l0_0 a0_1 l0_2 l0_3).bind fun bt214 => ((laws_eqTable.f k bt199.1 bt199.2.1 bt199.2.2.1 bt199.2.2.2 bt214.1 bt214.2.1 bt214.2.2.1 bt214.2.2.2).bind fun t224 => (if t224 = true then ((laws_markTable.f k bt199.1 bt199.2.1 bt199.2.2.1 bt199.2.2.2 1).bind fun bt225 => (if bt225.1 < 0 then (laws_FnExactColumn.j0 k a1 t196 t210 true l0_0 a0_1 l0_2 l0_3) else ((laws_eqIntS.f k t210 t196).bind fun t229 => (laws_FnExactColumn.j0 k a1 t196 t210 (!t229) l0_0 a0_1 l0_2 l0_3)))) else (some false)))) else (some false)))))) = some r := H
    have A8 := Aside0.mk A80
    clear A80
    replace H := Option.bind_eq_some_iff.mp H
    obtain ⟨t196,A90,H⟩ := H
    replace H : ((laws_toTable.f k l0_0 a0_1 l0_2 l0_3).bind fun bt199 => ((impl_Column.f k bt199.1 bt199.2.1 bt199.2.2.1 bt199.2.2.2 a1).bind fun t210 => ((laws_eqIntS.f k t210 t196).bind fun t213 => (if t213 = true then ((laws_toTable.f k l0_0 a0_1 l0_2 l0_3).bind fun bt214 => ((laws_eqTable.f k bt199.1 bt199.2.1 bt199.2.2.1 bt199.2.2.2 bt214.1 bt214.2.1 bt214.2.2.1 bt214.2.2.2).bind fun t224 => (if t224 = true then ((laws_markTable.f k bt199.1 bt199.2.1 bt199.2.2.1 bt199.2.2.2 1).bind fun bt225 => (if bt225.1 < 0 then (laws_FnExactColumn.j0 k a1 t196 t210 true l0_0 a0_1 l0_2 l0_3) else ((laws_eqIntS.f k t210 t196).bind fun t229 => (laws_FnExactColumn.j0 k a1 t196 t210 (!t229) l0_0 a0_1 l0_2 l0_3)))) else (some false)))) else (some false))))) = some r := H
    have A9 := Aside0.mk A90
    clear A90
    replace H := Option.bind_eq_some_iff.mp H
    obtain ⟨⟨t199,t202,t203,t206⟩,A100,H⟩ := H
    replace H : ((impl_Column.f k t199 t202 t203 t206 a1).bind fun t210 => ((laws_eqIntS.f k t210 t196).bind fun t213 => (if t213 = true then ((laws_toTable.f k l0_0 a0_1 l0_2 l0_3).bind fun bt214 => ((laws_eqTable.f k t199 t202 t203 t206 bt214.1 bt214.2.1 bt214.2.2.1 bt214.2.2.2).bind fun t224 => (if t224 = true then ((laws_markTable.f k t199 t202 t203 t206 1).bind fun bt225 => (if bt225.1 < 0 then (laws_FnExactColumn.j0 k a1 t196 t210 true l0_0 a0_1 l0_2 l0_3) else ((laws_eqIntS.f k t210 t196).bind fun t229 => (laws_FnExactColumn.j0 k a1 t196 t210 (!t229) l0_0 a0_1 l0_2 l0_3)))) else (some false)))) else (some false)))) = some r := H
    have A10 := Aside0.mk A100
    clear A100
    replace H := Option.bind_eq_some_iff.mp H
    obtain ⟨t210,A110,H⟩ := H
    replace H : ((laws_eqIntS.f k t210 t196).bind fun t213 => (if t213 = true then ((laws_toTable.f k l0_0 a0_1 l0_2 l0_3).bind fun bt214 => ((laws_eqTable.f k t199 t202 t203 t206 bt214.1 bt214.2.1 bt214.2.2.1 bt214.2.2.2).bind fun t224 => (if t224 = true then ((laws_markTable.f k t199 t202 t203 t206 1).bind fun bt225 => (if bt225.1 < 0 then (laws_FnExactColumn.j0 k a1 t196 t210 true l0_0 a0_1 l0_2 l0_3) else ((laws_eqIntS.f k t210 t196).bind fun t229 => (laws_FnExactColumn.j0 k a1 t196 t210 (!t229) l0_0 a0_1 l0_2 l0_3)))) else (some false)))) else (some false))) = some r := H
    have A11 := Aside0.mk A110
    clear A110
    replace H := Option.bind_eq_some_iff.mp H
    obtain ⟨t213,A120,H⟩ := H
    replace H : (if t213 = true then ((laws_toTable.f k l0_0 a0_1 l0_2 l0_3).bind fun bt214 => ((laws_eqTable.f k t199 t202 t203 t206 bt214.1 bt214.2.1 bt214.2.2.1 bt214.2.2.2).bind fun t224 => (if t224 = true then ((laws_markTable.f k t199 t202 t203 t206 1).bind fun bt225 => (if bt225.1 < 0 then (laws_FnExactColumn.j0 k a1 t196 t210 true l0_0 a0_1 l0_2 l0_3) else ((laws_eqIntS.f k t210 t196).bind fun t229 => (laws_FnExactColumn.j0 k a1 t196 t210 (!t229) l0_0 a0_1 l0_2 l0_3)))) else (some false)))) else (some false)) = some r := H
    have A12 := Aside0.mk A120
    clear A120
    by_cases c13 : t213 = true
    · subst c13
      have H1 : ((laws_toTable.f k l0_0 a0_1 l0_2 l0_3).bind fun bt214 => ((laws_eqTable.f k t199 t202 t203 t206 bt214.1 bt214.2.1 bt214.2.2.1 bt214.2.2.2).bind fun t224 => (if t224 = true then ((laws_markTable.f k t199 t202 t203 t206 1).bind fun bt225 => (if bt225.1 < 0 then (laws_FnExactColumn.j0 k a1 t196 t210 true l0_0 a0_1 l0_2 l0_3) else ((laws_eqIntS.f k t210 t196).bind fun t229 => (laws_FnExactColumn.j0 k a1 t196 t210 (!t229) l0_0 a0_1 l0_2 l0_3)))) else (some false)))) = some r := by rw [if_pos rfl] at H;exact H
      clear H
      have H := H1
      clear H1
      replace H := Option.bind_eq_some_iff.mp H
      obtain ⟨⟨t214,t217,t218,t221⟩,A140,H⟩ := H
      replace H : ((laws_eqTable.f k t199 t202 t203 t206 t214 t217 t218 t221).bind fun t224 => (if t224 = true then ((laws_markTable.f k t199 t202 t203 t206 1).bind fun bt225 => (if bt225.1 < 0 then (laws_FnExactColumn.j0 k a1 t196 t210 true l0_0 a0_1 l0_2 l0_3) else ((laws_eqIntS.f k t210 t196).bind fun t229 => (laws_FnExactColumn.j0 k a1 t196 t210 (!t229) l0_0 a0_1 l0_2 l0_3)))) else (some false))) = some r := H
      have A14 := Aside0.mk A140
      clear A140
      replace H := Option.bind_eq_some_iff.mp H
      obtain ⟨t224,A150,H⟩ := H
      replace H : (if t224 = true then ((laws_markTable.f k t199 t202 t203 t206 1).bind fun bt225 => (if bt225.1 < 0 then (laws_FnExactColumn.j0 k a1 t196 t210 true l0_0 a0_1 l0_2 l0_3) else ((laws_eqIntS.f k t210 t196).bind fun t229 => (laws_FnExactColumn.j0 k a1 t196 t210 (!t229) l0_0 a0_1 l0_2 l0_3)))) else (some false)) = some r := H
      have A15 := Aside0.mk A150
      clear A150
      by_cases c16 : t224 = true
      · subst c16
        have H1 : ((laws_markTable.f k t199 t202 t203 t206 1).bind fun bt225 => (if bt225.1 < 0 then (laws_FnExactColumn.j0 k a1 t196 t210 true l0_0 a0_1 l0_2 l0_3) else ((laws_eqIntS.f k t210 t196).bind fun t229 => (laws_FnExactColumn.j0 k a1 t196 t210 (!t229) l0_0 a0_1 l0_2 l0_3)))) = some r := by rw [if_pos rfl] at H;exact H
        clear H
        have H := H1
        clear H1
        replace H := Option.bind_eq_some_iff.mp H
        obtain ⟨⟨t225,t226,t227,t228⟩,A170,H⟩ := H
        replace H : (if t225 < 0 then (laws_FnExactColumn.j0 k a1 t196 t210 true l0_0 a0_1 l0_2 l0_3) else ((laws_eqIntS.f k t210 t196).bind fun t229 => (laws_FnExactColumn.j0 k a1 t196 t210 (!t229) l0_0 a0_1 l0_2 l0_3))) = some r := H
        have A17 := Aside0.mk A170
        clear A170
        have HC18 := Aside0.mk H
        clear H
        go_enter Try.func5,Try.ntmps5
        try go_wp2_with (first | ((with_reducible refine gate_dst (N := 2) rfl ?_);refine box_event ?hg (N := 2) ?hd (cs := #[.slice A0_0 l0_0.length c0_0,.string a0_1,.slice A0_2 l0_2.length c0_2,.slice A0_3 l0_3.length c0_3]) (t := 42) ?hr ?_;(case hd => rfl);(case hg => rfl);(case hr => first | (go_simp;done) | (go_simp;rfl));intro gb184 hg w19 hbox hb;have n0_ := Aside0.mk (below_step (by repeat (first | (with_reducible first | exact HB.out | apply below_alloc | apply pw_below_drewN | apply below_drew1) | exact HB.out)) hb);have n1_ := Aside0.mk (hbox);have n2_ := Aside0.mk ((by rw [hg];exact (below_size (by repeat (first | (with_reducible first | exact HB.out | apply below_alloc | apply pw_below_drewN | apply below_drew1) | exact HB.out))) : w.heap.size ≤ gb184));have n3_ := Aside0.mk ((by rw [hg];exact (below_size (by repeat (first | (with_reducible first | exact HB.out | apply below_alloc | apply pw_below_drewN | apply below_drew1) | exact HB.out))) : w.heap.size ≤ gb184));clear HB;have HB := n0_;have BK184 := n1_;have GW184 := n2_;have GE184 := n3_;clear n0_ n1_ n2_ n3_;clear hb hbox hg;obtain ⟨hcz20_0,hcz20_1,hcz20_2,hcz20_3,hfz20_0,hfz20_1,hfz20_2,hfz20_3⟩ := laws_FnExactColumn.cells4 BK184.out) | ((with_reducible refine gate_callee (f := 19) rfl ?_);refine goesL_ (some 15) rfl rfl Try.func19 (by kernel_rfl) rfl #[.agg #[.slice A0_0 l0_0.length c0_0,.string a0_1,.slice A0_2 l0_2.length c0_2,.slice A0_3 l0_3.length c0_3],.int .i64 1048576] rfl (by (try simp only [List.map_toArray,List.map_cons,List.map_nil]);first | done | rfl | (simp only [List.length_drop,List.length_take];rfl)) ?_;(with_reducible refine (laws_szTable.calls k _ _ l0_0 a0_1 _ _ l0_2 _ _ l0_3 1048576 t185 _ ?side1 ?side2 ?side3 ?side4 ?side5 ?side6 A3.out).mono ?_);(case side1 => repeat (first | exact (Kd.C_below HR0_0.out HB.out) | (with_reducible refine Kd.C_alloc ?_ _) | (with_reducible refine Kd.C_drewN ?_ _) | (with_reducible refine Kd.C_drew ?_)));(case side2 => exact HC0_0.out);(case side3 => repeat (first | exact (Kd.C_below HR0_2.out HB.out) | (with_reducible refine Kd.C_alloc ?_ _) | (with_reducible refine Kd.C_drewN ?_ _) | (with_reducible refine Kd.C_drew ?_)));(case side4 => exact HC0_2.out);(case side5 => repeat (first | exact (Kd.C_below HR0_3.out HB.out) | (with_reducible refine Kd.C_alloc ?_ _) | (with_reducible refine Kd.C_drewN ?_ _) | (with_reducible refine Kd.C_drew ?_)));(case side6 => exact HC0_3.out);rintro e w21 ⟨rfl,hb⟩;refine ⟨_,rfl,?_⟩;have n0_ := Aside0.mk (blk_below (g := gb184) (o := .cells #[.slice A0_0 l0_0.length c0_0,.string a0_1,.slice A0_2 l0_2.length c0_2,.slice A0_3 l0_3.length c0_3] 42 (0,0)) (by refine bP ?_;exact BK184.out) hb);have n1_ := Aside0.mk (below_step (by repeat (first | (with_reducible first | exact HB.out | apply below_alloc | apply pw_below_drewN | apply below_drew1 | refine below_set ?_ GE184.out) | exact HB.out)) hb);clear BK184;clear HB;have BK184 := n0_;have HB := n1_;clear n0_ n1_;(try clear hb);(try clear hb2);(try clear hk);(try clear hi);obtain ⟨hcz22_0,hcz22_1,hcz22_2,hcz22_3,hfz22_0,hfz22_1,hfz22_2,hfz22_3⟩ := laws_FnExactColumn.cells4 BK184.out) | ((with_reducible refine gate_callee (f := 20) rfl ?_);refine goesL_ (some 19) rfl rfl Try.func20 (by kernel_rfl) rfl #[.agg #[.slice A0_0 l0_0.length c0_0,.string a0_1,.slice A0_2 l0_2.length c0_2,.slice A0_3 l0_3.length c0_3]] rfl (by (try simp only [List.map_toArray,List.map_cons,List.map_nil]);first | done | rfl | (simp only [List.length_drop,List.length_take];rfl)) ?_;(with_reducible refine (laws_toTable.calls k _ _ l0_0 a0_1 _ _ l0_2 _ _ l0_3 t186 t189 t190 t193 _ ?side1 ?side2 ?side3 ?side4 ?side5 ?side6 A8.out).mono ?_);(case side1 => repeat (first | exact (Kd.C_below HR0_0.out HB.out) | (with_reducible refine Kd.C_alloc ?_ _) | (with_reducible refine Kd.C_drewN ?_ _) | (with_reducible refine Kd.C_drew ?_)));(case side2 => exact HC0_0.out);(case side3 => repeat (first | exact (Kd.C_below HR0_2.out HB.out) | (with_reducible refine Kd.C_alloc ?_ _) | (with_reducible refine Kd.C_drewN ?_ _) | (with_reducible refine Kd.C_drew ?_)));(case side4 => exact HC0_2.out);(case side5 => repeat (first | exact (Kd.C_below HR0_3.out HB.out) | (with_reducible refine Kd.C_alloc ?_ _) | (with_reducible refine Kd.C_drewN ?_ _) | (with_reducible refine Kd.C_drew ?_)));(case side6 => exact HC0_3.out);rintro e w23 ⟨v187,v191,v194,rfl,ho0,ho1,ho2,hb⟩;refine ⟨_,rfl,?_⟩;have n0_ := Aside0.mk (Kd.R_lower ho0 (below_size (by repeat (first | (with_reducible first | exact HB.out | apply below_alloc | apply pw_below_drewN | apply below_drew1 | refine below_set ?_ GE184.out) | exact HB.out))));have n1_ := Aside0.mk (Kd.S_lower ho1 (below_size (by repeat (first | (with_reducible first | exact HB.out | apply below_alloc | apply pw_below_drewN | apply below_drew1 | refine below_set ?_ GE184.out) | exact HB.out))));have n2_ := Aside0.mk (Kd.R_lower ho2 (below_size (by repeat (first | (with_reducible first | exact HB.out | apply below_alloc | apply pw_below_drewN | apply below_drew1 | refine below_set ?_ GE184.out) | exact HB.out))));have n3_ := Aside0.mk (blk_below (g := gb184) (o := .cells #[.slice A0_0 l0_0.length c0_0,.string a0_1,.slice A0_2 l0_2.length c0_2,.slice A0_3 l0_3.length c0_3] 42 (0,0)) (by refine bP ?_;exact BK184.out) hb);have n4_ := Aside0.mk (below_step (by repeat (first | (with_reducible first | exact HB.out | apply below_alloc | apply pw_below_drewN | apply below_drew1 | refine below_set ?_ GE184.out) | exact HB.out)) hb);clear BK184;clear HB;have HO188 := n0_;have HO192 := n1_;have HO195 := n2_;have BK184 := n3_;have HB := n4_;clear n0_ n1_ n2_ n3_ n4_;(try clear hb);(try clear hb2);(try clear hk);(try clear hi);(try clear ho0);(try clear ho1);(try clear ho2);obtain ⟨Ao24,co24,eo24⟩ := Kd.R_slice HO188.out;subst eo24;obtain ⟨Ao25,co25,eo25⟩ := Kd.S_slice HO192.out;subst eo25;obtain ⟨Ao26,co26,eo26⟩ := Kd.R_slice HO195.out;subst eo26) | ((with_reducible refine gate_callee (f := 17) rfl ?_);refine goesL_ (some 21) rfl rfl Try.func17 (by kernel_rfl) rfl #[.agg #[.slice Ao24 t186.length co24,.string t189,.slice Ao25 t190.length co25,.slice Ao26 t193.length co26],.int .i64 a1] rfl (by (try simp only [List.map_toArray,List.map_cons,List.map_nil]);first | done | rfl | (simp only [List.length_drop,List.length_take];rfl)) ?_;(with_reducible refine (spec_Column.calls k _ _ t186 t189 _ _ t190 _ _ t193 a1 t196 _ ?side1 ?side2 ?side3 ?side4 ?side5 ?side6 A9.out).mono ?_);(case side1 => repeat (first | exact (Kd.R_reads' HO188.out).2.2 | (with_reducible refine Kd.C_alloc ?_ _) | (with_reducible refine Kd.C_drewN ?_ _) | (with_reducible refine Kd.C_drew ?_)));(case side2 => exact (Kd.R_reads' HO188.out).2.1);(case side3 => repeat (first | exact (Kd.S_reads' HO192.out).2.2 | (with_reducible refine Kd.C_alloc ?_ _) | (with_reducible refine Kd.C_drewN ?_ _) | (with_reducible refine Kd.C_drew ?_)));(case side4 => exact (Kd.S_reads' HO192.out).2.1);(case side5 => repeat (first | exact (Kd.R_reads' HO195.out).2.2 | (with_reducible refine Kd.C_alloc ?_ _) | (with_reducible refine Kd.C_drewN ?_ _) | (with_reducible refine Kd.C_drew ?_)));(case side6 => exact (Kd.R_reads' HO195.out).2.1);rintro e w27 ⟨v197,rfl,ho0,hb⟩;refine ⟨_,rfl,?_⟩;have n0_ := Aside0.mk (Kd.R_below (by (with_reducible repeat (first | apply Kd.R_alloc | apply Kd.R_drewN | apply Kd.R_drew));exact HO188.out) hb);have n1_ := Aside0.mk (Kd.S_elder' (by (with_reducible repeat (first | apply Kd.S_alloc | apply Kd.S_drewN | apply Kd.S_drew));exact HO192.out) (Kd.R_base ho0) hb);have n2_ := Aside0.mk (Kd.R_elder' (by (with_reducible repeat (first | apply Kd.R_alloc | apply Kd.R_drewN | apply Kd.R_drew));exact HO195.out) (Kd.R_base ho0) hb);have n3_ := Aside0.mk (Kd.R_lower (Kd.R_new' ho0 (Kd.R_lt (by (with_reducible repeat (first | apply Kd.R_alloc | apply Kd.R_drewN | apply Kd.R_drew));exact HO195.out))) (below_size (by repeat (first | (with_reducible first | exact HB.out | apply below_alloc | apply pw_below_drewN | apply below_drew1 | refine below_set ?_ GE184.out) | exact HB.out))));have n4_ := Aside0.mk (blk_below (g := gb184) (o := .cells #[.slice A0_0 l0_0.length c0_0,.string a0_1,.slice A0_2 l0_2.length c0_2,.slice A0_3 l0_3.length c0_3] 42 (0,0)) (by refine bP ?_;exact BK184.out) hb);have n5_ := Aside0.mk (below_step (by repeat (first | (with_reducible first | exact HB.out | apply below_alloc | apply pw_below_drewN | apply below_drew1 | refine below_set ?_ GE184.out) | exact HB.out)) hb);clear HO188;clear HO192;clear HO195;clear BK184;clear HB;have HO188 := n0_;have HO192 := n1_;have HO195 := n2_;have HO198 := n3_;have BK184 := n4_;have HB := n5_;clear n0_ n1_ n2_ n3_ n4_ n5_;(try clear hb);(try clear hb2);(try clear hk);(try clear hi);(try clear ho0);obtain ⟨hcz28_0,hcz28_1,hcz28_2,hcz28_3,hfz28_0,hfz28_1,hfz28_2,hfz28_3⟩ := laws_FnExactColumn.cells4 BK184.out) | ((with_reducible refine gate_callee (f := 20) rfl ?_);refine goesL_ (some 23) rfl rfl Try.func20 (by kernel_rfl) rfl #[.agg #[.slice A0_0 l0_0.length c0_0,.string a0_1,.slice A0_2 l0_2.length c0_2,.slice A0_3 l0_3.length c0_3]] rfl (by (try simp only [List.map_toArray,List.map_cons,List.map_nil]);first | done | rfl | (simp only [List.length_drop,List.length_take];rfl)) ?_;(with_reducible refine (laws_toTable.calls k _ _ l0_0 a0_1 _ _ l0_2 _ _ l0_3 t199 t202 t203 t206 _ ?side1 ?side2 ?side3 ?side4 ?side5 ?side6 A10.out).mono ?_);(case side1 => repeat (first | exact (Kd.C_below HR0_0.out HB.out) | (with_reducible refine Kd.C_alloc ?_ _) | (with_reducible refine Kd.C_drewN ?_ _) | (with_reducible refine Kd.C_drew ?_)));(case side2 => exact HC0_0.out);(case side3 => repeat (first | exact (Kd.C_below HR0_2.out HB.out) | (with_reducible refine Kd.C_alloc ?_ _) | (with_reducible refine Kd.C_drewN ?_ _) | (with_reducible refine Kd.C_drew ?_)));(case side4 => exact HC0_2.out);(case side5 => repeat (first | exact (Kd.C_below HR0_3.out HB.out) | (with_reducible refine Kd.C_alloc ?_ _) | (with_reducible refine Kd.C_drewN ?_ _) | (with_reducible refine Kd.C_drew ?_)));(case side6 => exact HC0_3.out);rintro e w29 ⟨v200,v204,v207,rfl,ho0,ho1,ho2,hb⟩;refine ⟨_,rfl,?_⟩;have n0_ := Aside0.mk (Kd.R_elder' (by (with_reducible repeat (first | apply Kd.R_alloc | apply Kd.R_drewN | apply Kd.R_drew));exact HO188.out) (Kd.R_base ho0) hb);have n1_ := Aside0.mk (Kd.S_mono (Kd.S_told (Kd.S_told (Kd.S_old (by (with_reducible repeat (first | apply Kd.S_alloc | apply Kd.S_drewN | apply Kd.S_drew));exact HO192.out) hb) (Kd.S_base ho1)) (Kd.R_base ho2)) (fun _ h_ => h_.1));have n2_ := Aside0.mk (Kd.R_elder' (by (with_reducible repeat (first | apply Kd.R_alloc | apply Kd.R_drewN | apply Kd.R_drew));exact HO195.out) (Kd.R_base ho2) hb);have n3_ := Aside0.mk (Kd.R_elder' (by (with_reducible repeat (first | apply Kd.R_alloc | apply Kd.R_drewN | apply Kd.R_drew));exact HO198.out) (Kd.R_base ho2) hb);have n4_ := Aside0.mk (Kd.R_lower (Kd.R_new' ho0 (Kd.R_lt (by (with_reducible repeat (first | apply Kd.R_alloc | apply Kd.R_drewN | apply Kd.R_drew));exact HO188.out))) (below_size (by repeat (first | (with_reducible first | exact HB.out | apply below_alloc | apply pw_below_drewN | apply below_drew1 | refine below_set ?_ GE184.out) | exact HB.out))));have n5_ := Aside0.mk (Kd.S_lower (Kd.S_new' (Kd.S_new' (Kd.S_new' ho1 (Kd.S_lt (by (with_reducible repeat (first | apply Kd.S_alloc | apply Kd.S_drewN | apply Kd.S_drew));exact HO192.out))) (Kd.R_lt (by (with_reducible repeat (first | apply Kd.R_alloc | apply Kd.R_drewN | apply Kd.R_drew));exact HO195.out))) (Kd.R_lt (by (with_reducible repeat (first | apply Kd.R_alloc | apply Kd.R_drewN | apply Kd.R_drew));exact HO198.out))) (below_size (by repeat (first | (with_reducible first | exact HB.out | apply below_alloc | apply pw_below_drewN | apply below_drew1 | refine below_set ?_ GE184.out) | exact HB.out))));have n6_ := Aside0.mk (Kd.R_lower (Kd.R_new' (Kd.R_new' ho2 (Kd.R_lt (by (with_reducible repeat (first | apply Kd.R_alloc | apply Kd.R_drewN | apply Kd.R_drew));exact HO195.out))) (Kd.R_lt (by (with_reducible repeat (first | apply Kd.R_alloc | apply Kd.R_drewN | apply Kd.R_drew));exact HO198.out))) (below_size (by repeat (first | (with_reducible first | exact HB.out | apply below_alloc | apply pw_below_drewN | apply below_drew1 | refine below_set ?_ GE184.out) | exact HB.out))));have n7_ := Aside0.mk (blk_below (g := gb184) (o := .cells #[.slice A0_0 l0_0.length c0_0,.string a0_1,.slice A0_2 l0_2.length c0_2,.slice A0_3 l0_3.length c0_3] 42 (0,0)) (by refine bP ?_;exact BK184.out) hb);have n8_ := Aside0.mk (below_step (by repeat (first | (with_reducible first | exact HB.out | apply below_alloc | apply pw_below_drewN | apply below_drew1 | refine below_set ?_ GE184.out) | exact HB.out)) hb);clear HO188;clear HO192;clear HO195;clear HO198;clear BK184;clear HB;have HO188 := n0_;have HO192 := n1_;have HO195 := n2_;have HO198 := n3_;have HO201 := n4_;have HO205 := n5_;have HO208 := n6_;have BK184 := n7_;have HB := n8_;clear n0_ n1_ n2_ n3_ n4_ n5_ n6_ n7_ n8_;(try clear hb);(try clear hb2);(try clear hk);(try clear hi);(try clear ho0);(try clear ho1);(try clear ho2)) | ((with_reducible refine gate_dst (N := 7) rfl ?_);refine box_event ?hg (N := 7) ?hd (cs := #[.slice none 0 0,.string (⟨#[]⟩ : ByteArray),.slice none 0 0,.slice none 0 0]) (t := 36) ?hr ?_;(case hd => rfl);(case hg => rfl);(case hr => first | (go_simp;done) | (go_simp;rfl));intro gb209 hg w30 hbox hb;have n0_ := Aside0.mk (Kd.R_below (by (with_reducible repeat (first | apply Kd.R_alloc | apply Kd.R_drewN | apply Kd.R_drew));exact HO188.out) hb);have n1_ := Aside0.mk (Kd.S_below (by (with_reducible repeat (first | apply Kd.S_alloc | apply Kd.S_drewN | apply Kd.S_drew));exact HO192.out) hb);have n2_ := Aside0.mk (Kd.R_below (by (with_reducible repeat (first | apply Kd.R_alloc | apply Kd.R_drewN | apply Kd.R_drew));exact HO195.out) hb);have n3_ := Aside0.mk (Kd.R_below (by (with_reducible repeat (first | apply Kd.R_alloc | apply Kd.R_drewN | apply Kd.R_drew));exact HO198.out) hb);have n4_ := Aside0.mk (Kd.R_below (by (with_reducible repeat (first | apply Kd.R_alloc | apply Kd.R_drewN | apply Kd.R_drew));exact HO201.out) hb);have n5_ := Aside0.mk (Kd.S_below (by (with_reducible repeat (first | apply Kd.S_alloc | apply Kd.S_drewN | apply Kd.S_drew));exact HO205.out) hb);have n6_ := Aside0.mk (Kd.R_below (by (with_reducible repeat (first | apply Kd.R_alloc | apply Kd.R_drewN | apply Kd.R_drew));exact HO208.out) hb);have n7_ := Aside0.mk (blk_below (g := gb184) (o := .cells #[.slice A0_0 l0_0.length c0_0,.string a0_1,.slice A0_2 l0_2.length c0_2,.slice A0_3 l0_3.length c0_3] 42 (0,0)) (by refine bP ?_;exact BK184.out) hb);have n8_ := Aside0.mk (below_step (by repeat (first | (with_reducible first | exact HB.out | apply below_alloc | apply pw_below_drewN | apply below_drew1 | refine below_set ?_ GE184.out) | exact HB.out)) hb);have n9_ := Aside0.mk (hbox);have n10_ := Aside0.mk ((by rw [hg];exact (below_size (by repeat (first | (with_reducible first | exact HB.out | apply below_alloc | apply pw_below_drewN | apply below_drew1 | refine below_set ?_ GE184.out) | exact HB.out))) : w.heap.size ≤ gb209));have n11_ := Aside0.mk ((by rw [hg];exact (below_size (by repeat (first | (with_reducible first | exact HB.out | apply below_alloc | apply pw_below_drewN | apply below_drew1 | refine below_set ?_ GE184.out) | exact HB.out))) : w.heap.size ≤ gb209));have n12_ := Aside0.mk ((by rw [hg];exact Nat.ne_of_lt (blk_lt (g := gb184) (o := .cells #[.slice A0_0 l0_0.length c0_0,.string a0_1,.slice A0_2 l0_2.length c0_2,.slice A0_3 l0_3.length c0_3] 42 (0,0)) (by refine bP ?_;exact BK184.out)) : gb184 ≠ gb209));have n13_ := Aside0.mk ((by rw [hg];exact Nat.ne_of_gt (blk_lt (g := gb184) (o := .cells #[.slice A0_0 l0_0.length c0_0,.string a0_1,.slice A0_2 l0_2.length c0_2,.slice A0_3 l0_3.length c0_3] 42 (0,0)) (by refine bP ?_;exact BK184.out)) : gb209 ≠ gb184));clear HO188;clear HO192;clear HO195;clear HO198;clear HO201;clear HO205;clear HO208;clear BK184;clear HB;have HO188 := n0_;have HO192 := n1_;have HO195 := n2_;have HO198 := n3_;have HO201 := n4_;have HO205 := n5_;have HO208 := n6_;have BK184 := n7_;have HB := n8_;have BK209 := n9_;have GW209 := n10_;have GE209 := n11_;have NB184_209 := n12_;have NB209_184 := n13_;clear n0_ n1_ n2_ n3_ n4_ n5_ n6_ n7_ n8_ n9_ n10_ n11_ n12_ n13_;clear hb hbox hg;obtain ⟨Ao31,co31,eo31⟩ := Kd.R_slice HO201.out;subst eo31;have hnb32 := NB209_184.out;have hnc32 := NB184_209.out;obtain ⟨hcz33_0,hcz33_1,hcz33_2,hcz33_3,hfz33_0,hfz33_1,hfz33_2,hfz33_3⟩ := laws_FnExactColumn.cells4 BK209.out;obtain ⟨Ao34,co34,eo34⟩ := Kd.S_slice HO205.out;subst eo34;obtain ⟨Ao35,co35,eo35⟩ := Kd.R_slice HO208.out;subst eo35) | ((with_reducible refine gate_callee (f := 15) rfl ?_);refine goesL_ (some 26) rfl rfl Try.func15 (by kernel_rfl) rfl #[.agg #[.slice Ao31 t199.length co31,.string t202,.slice Ao34 t203.length co34,.slice Ao35 t206.length co35],.int .i64 a1] rfl (by (try simp only [List.map_toArray,List.map_cons,List.map_nil]);first | done | rfl | (simp only [List.length_drop,List.length_take];rfl)) ?_;(with_reducible refine (impl_Column.calls k _ _ t199 t202 _ _ t203 _ _ t206 a1 t210 _ ?side1 ?side2 ?side3 ?side4 ?side5 ?side6 A11.out).mono ?_);(case side1 => refine (Kd.R_reads' (e := 9) (base := w.heap.size) (ok := fun k_ => (True ∧ some k_ ≠ (.slice Ao24 t186.length co24 : Value).ownBlock)) (n := t199.length) (c := co31) ?_).2.2;exact (by (with_reducible repeat (first | apply Kd.R_alloc | apply Kd.R_drewN | apply Kd.R_drew));exact (Kd.R_mono (Kd.R_far (p := ⟨gb209,3,none⟩) (Kd.R_far (p := ⟨gb209,2,none⟩) (Kd.R_far (p := ⟨gb209,1,none⟩) (Kd.R_far (p := ⟨gb209,0,none⟩) (Kd.R_types HO201.out BK209.out (by decide)) (fun _ hk => hk.2) (.slice Ao31 t199.length co31)) (fun _ hk => hk.2) (.string t202)) (fun _ hk => hk.2) (.slice Ao34 t203.length co34)) (fun _ hk => hk.2) (.slice Ao35 t206.length co35)) (fun _ h_ => h_.1))));(case side2 => exact (Kd.R_reads' HO201.out).2.1);(case side3 => refine (Kd.S_reads' (e := 34) (base := w.heap.size) (ok := fun k_ => (((some k_ ≠ (.slice Ao35 t206.length co35 : Value).ownBlock ∧ some k_ ≠ (.slice Ao25 t190.length co25 : Value).ownBlock) ∧ some k_ ≠ (.slice Ao26 t193.length co26 : Value).ownBlock) ∧ some k_ ≠ (v197 : Value).ownBlock)) (n := t203.length) (c := co34) ?_).2.2;exact (by (with_reducible repeat (first | apply Kd.S_alloc | apply Kd.S_drewN | apply Kd.S_drew));exact (Kd.S_mono (Kd.S_far (p := ⟨gb209,3,none⟩) (Kd.S_far (p := ⟨gb209,2,none⟩) (Kd.S_far (p := ⟨gb209,1,none⟩) (Kd.S_far (p := ⟨gb209,0,none⟩) (Kd.S_types HO205.out BK209.out (by decide)) (fun _ hk => hk.2) (.slice Ao31 t199.length co31)) (fun _ hk => hk.2) (.string t202)) (fun _ hk => hk.2) (.slice Ao34 t203.length co34)) (fun _ hk => hk.2) (.slice Ao35 t206.length co35)) (fun _ h_ => h_.1))));(case side4 => exact (Kd.S_reads' HO205.out).2.1);(case side5 => refine (Kd.R_reads' (e := 3) (base := w.heap.size) (ok := fun k_ => ((True ∧ some k_ ≠ (.slice Ao26 t193.length co26 : Value).ownBlock) ∧ some k_ ≠ (v197 : Value).ownBlock)) (n := t206.length) (c := co35) ?_).2.2;exact (by (with_reducible repeat (first | apply Kd.R_alloc | apply Kd.R_drewN | apply Kd.R_drew));exact (Kd.R_mono (Kd.R_far (p := ⟨gb209,3,none⟩) (Kd.R_far (p := ⟨gb209,2,none⟩) (Kd.R_far (p := ⟨gb209,1,none⟩) (Kd.R_far (p := ⟨gb209,0,none⟩) (Kd.R_types HO208.out BK209.out (by decide)) (fun _ hk => hk.2) (.slice Ao31 t199.length co31)) (fun _ hk => hk.2) (.string t202)) (fun _ hk => hk.2) (.slice Ao34 t203.length co34)) (fun _ hk => hk.2) (.slice Ao35 t206.length co35)) (fun _ h_ => h_.1))));(case side6 => exact (Kd.R_reads' HO208.out).2.1);rintro e w36 ⟨v211,rfl,ho0,hb⟩;refine ⟨_,rfl,?_⟩;have n0_ := Aside0.mk (Kd.R_below (by (with_reducible repeat (first | apply Kd.R_alloc | apply Kd.R_drewN | apply Kd.R_drew));exact (Kd.R_mono (Kd.R_far (p := ⟨gb209,3,none⟩) (Kd.R_far (p := ⟨gb209,2,none⟩) (Kd.R_far (p := ⟨gb209,1,none⟩) (Kd.R_far (p := ⟨gb209,0,none⟩) (Kd.R_types HO188.out BK209.out (by decide)) (fun _ hk => hk.2) (.slice Ao31 t199.length co31)) (fun _ hk => hk.2) (.string t202)) (fun _ hk => hk.2) (.slice Ao34 t203.length co34)) (fun _ hk => hk.2) (.slice Ao35 t206.length co35)) (fun _ h_ => h_.1))) hb);have n1_ := Aside0.mk (Kd.S_elder' (by (with_reducible repeat (first | apply Kd.S_alloc | apply Kd.S_drewN | apply Kd.S_drew));exact (Kd.S_mono (Kd.S_far (p := ⟨gb209,3,none⟩) (Kd.S_far (p := ⟨gb209,2,none⟩) (Kd.S_far (p := ⟨gb209,1,none⟩) (Kd.S_far (p := ⟨gb209,0,none⟩) (Kd.S_types HO192.out BK209.out (by decide)) (fun _ hk => hk.2) (.slice Ao31 t199.length co31)) (fun _ hk => hk.2) (.string t202)) (fun _ hk => hk.2) (.slice Ao34 t203.length co34)) (fun _ hk => hk.2) (.slice Ao35 t206.length co35)) (fun _ h_ => h_.1))) (Kd.R_base ho0) hb);have n2_ := Aside0.mk (Kd.R_elder' (by (with_reducible repeat (first | apply Kd.R_alloc | apply Kd.R_drewN | apply Kd.R_drew));exact (Kd.R_mono (Kd.R_far (p := ⟨gb209,3,none⟩) (Kd.R_far (p := ⟨gb209,2,none⟩) (Kd.R_far (p := ⟨gb209,1,none⟩) (Kd.R_far (p := ⟨gb209,0,none⟩) (Kd.R_types HO195.out BK209.out (by decide)) (fun _ hk => hk.2) (.slice Ao31 t199.length co31)) (fun _ hk => hk.2) (.string t202)) (fun _ hk => hk.2) (.slice Ao34 t203.length co34)) (fun _ hk => hk.2) (.slice Ao35 t206.length co35)) (fun _ h_ => h_.1))) (Kd.R_base ho0) hb);have n3_ := Aside0.mk (Kd.R_elder' (by (with_reducible repeat (first | apply Kd.R_alloc | apply Kd.R_drewN | apply Kd.R_drew));exact (Kd.R_mono (Kd.R_far (p := ⟨gb209,3,none⟩) (Kd.R_far (p := ⟨gb209,2,none⟩) (Kd.R_far (p := ⟨gb209,1,none⟩) (Kd.R_far (p := ⟨gb209,0,none⟩) (Kd.R_types HO198.out BK209.out (by decide)) (fun _ hk => hk.2) (.slice Ao31 t199.length co31)) (fun _ hk => hk.2) (.string t202)) (fun _ hk => hk.2) (.slice Ao34 t203.length co34)) (fun _ hk => hk.2) (.slice Ao35 t206.length co35)) (fun _ h_ => h_.1))) (Kd.R_base ho0) hb);have n4_ := Aside0.mk (Kd.R_below (by (with_reducible repeat (first | apply Kd.R_alloc | apply Kd.R_drewN | apply Kd.R_drew));exact (Kd.R_mono (Kd.R_far (p := ⟨gb209,3,none⟩) (Kd.R_far (p := ⟨gb209,2,none⟩) (Kd.R_far (p := ⟨gb209,1,none⟩) (Kd.R_far (p := ⟨gb209,0,none⟩) (Kd.R_types HO201.out BK209.out (by decide)) (fun _ hk => hk.2) (.slice Ao31 t199.length co31)) (fun _ hk => hk.2) (.string t202)) (fun _ hk => hk.2) (.slice Ao34 t203.length co34)) (fun _ hk => hk.2) (.slice Ao35 t206.length co35)) (fun _ h_ => h_.1))) hb);have n5_ := Aside0.mk (Kd.S_elder' (by (with_reducible repeat (first | apply Kd.S_alloc | apply Kd.S_drewN | apply Kd.S_drew));exact (Kd.S_mono (Kd.S_far (p := ⟨gb209,3,none⟩) (Kd.S_far (p := ⟨gb209,2,none⟩) (Kd.S_far (p := ⟨gb209,1,none⟩) (Kd.S_far (p := ⟨gb209,0,none⟩) (Kd.S_types HO205.out BK209.out (by decide)) (fun _ hk => hk.2) (.slice Ao31 t199.length co31)) (fun _ hk => hk.2) (.string t202)) (fun _ hk => hk.2) (.slice Ao34 t203.length co34)) (fun _ hk => hk.2) (.slice Ao35 t206.length co35)) (fun _ h_ => h_.1))) (Kd.R_base ho0) hb);have n6_ := Aside0.mk (Kd.R_elder' (by (with_reducible repeat (first | apply Kd.R_alloc | apply Kd.R_drewN | apply Kd.R_drew));exact (Kd.R_mono (Kd.R_far (p := ⟨gb209,3,none⟩) (Kd.R_far (p := ⟨gb209,2,none⟩) (Kd.R_far (p := ⟨gb209,1,none⟩) (Kd.R_far (p := ⟨gb209,0,none⟩) (Kd.R_types HO208.out BK209.out (by decide)) (fun _ hk => hk.2) (.slice Ao31 t199.length co31)) (fun _ hk => hk.2) (.string t202)) (fun _ hk => hk.2) (.slice Ao34 t203.length co34)) (fun _ hk => hk.2) (.slice Ao35 t206.length co35)) (fun _ h_ => h_.1))) (Kd.R_base ho0) hb);have n7_ := Aside0.mk (Kd.R_lower (Kd.R_new' (Kd.R_new' (Kd.R_new' ho0 (Kd.R_lt (by (with_reducible repeat (first | apply Kd.R_alloc | apply Kd.R_drewN | apply Kd.R_drew));exact (Kd.R_mono (Kd.R_far (p := ⟨gb209,3,none⟩) (Kd.R_far (p := ⟨gb209,2,none⟩) (Kd.R_far (p := ⟨gb209,1,none⟩) (Kd.R_far (p := ⟨gb209,0,none⟩) (Kd.R_types HO195.out BK209.out (by decide)) (fun _ hk => hk.2) (.slice Ao31 t199.length co31)) (fun _ hk => hk.2) (.string t202)) (fun _ hk => hk.2) (.slice Ao34 t203.length co34)) (fun _ hk => hk.2) (.slice Ao35 t206.length co35)) (fun _ h_ => h_.1))))) (Kd.R_lt (by (with_reducible repeat (first | apply Kd.R_alloc | apply Kd.R_drewN | apply Kd.R_drew));exact (Kd.R_mono (Kd.R_far (p := ⟨gb209,3,none⟩) (Kd.R_far (p := ⟨gb209,2,none⟩) (Kd.R_far (p := ⟨gb209,1,none⟩) (Kd.R_far (p := ⟨gb209,0,none⟩) (Kd.R_types HO198.out BK209.out (by decide)) (fun _ hk => hk.2) (.slice Ao31 t199.length co31)) (fun _ hk => hk.2) (.string t202)) (fun _ hk => hk.2) (.slice Ao34 t203.length co34)) (fun _ hk => hk.2) (.slice Ao35 t206.length co35)) (fun _ h_ => h_.1))))) (Kd.R_lt (by (with_reducible repeat (first | apply Kd.R_alloc | apply Kd.R_drewN | apply Kd.R_drew));exact (Kd.R_mono (Kd.R_far (p := ⟨gb209,3,none⟩) (Kd.R_far (p := ⟨gb209,2,none⟩) (Kd.R_far (p := ⟨gb209,1,none⟩) (Kd.R_far (p := ⟨gb209,0,none⟩) (Kd.R_types HO208.out BK209.out (by decide)) (fun _ hk => hk.2) (.slice Ao31 t199.length co31)) (fun _ hk => hk.2) (.string t202)) (fun _ hk => hk.2) (.slice Ao34 t203.length co34)) (fun _ hk => hk.2) (.slice Ao35 t206.length co35)) (fun _ h_ => h_.1))))) (below_size (by repeat (first | (with_reducible first | exact HB.out | apply below_alloc | apply pw_below_drewN | apply below_drew1 | refine below_set ?_ GE184.out | refine below_set ?_ GE209.out) | exact HB.out))));have n8_ := Aside0.mk (blk_below (g := gb184) (o := .cells #[.slice A0_0 l0_0.length c0_0,.string a0_1,.slice A0_2 l0_2.length c0_2,.slice A0_3 l0_3.length c0_3] 42 (0,0)) (by refine bP ?_;refine blk_far ?_ NB184_209.out _;refine bP ?_;refine blk_far ?_ NB184_209.out _;refine bP ?_;refine blk_far ?_ NB184_209.out _;refine bP ?_;refine blk_far ?_ NB184_209.out _;refine bP ?_;exact BK184.out) hb);have n9_ := Aside0.mk (blk_below (g := gb209) (o := .cells #[.slice Ao31 t199.length co31,.string t202,.slice Ao34 t203.length co34,.slice Ao35 t206.length co35] 36 (0,0)) (by refine bP ?_;refine blk_put (cs := #[.slice Ao31 t199.length co31,.string t202,.slice Ao34 t203.length co34,.slice none 0 0]) ?_ 3 _ rfl;refine bP ?_;refine blk_put (cs := #[.slice Ao31 t199.length co31,.string t202,.slice none 0 0,.slice none 0 0]) ?_ 2 _ rfl;refine bP ?_;refine blk_put (cs := #[.slice Ao31 t199.length co31,.string (⟨#[]⟩ : ByteArray),.slice none 0 0,.slice none 0 0]) ?_ 1 _ rfl;refine bP ?_;refine blk_put (cs := #[.slice none 0 0,.string (⟨#[]⟩ : ByteArray),.slice none 0 0,.slice none 0 0]) ?_ 0 _ rfl;refine bP ?_;exact BK209.out) hb);have n10_ := Aside0.mk (below_step (by repeat (first | (with_reducible first | exact HB.out | apply below_alloc | apply pw_below_drewN | apply below_drew1 | refine below_set ?_ GE184.out | refine below_set ?_ GE209.out) | exact HB.out)) hb);clear HO188;clear HO192;clear HO195;clear HO198;clear HO201;clear HO205;clear HO208;clear BK184;clear BK209;clear HB;have HO188 := n0_;have HO192 := n1_;have HO195 := n2_;have HO198 := n3_;have HO201 := n4_;have HO205 := n5_;have HO208 := n6_;have HO212 := n7_;have BK184 := n8_;have BK209 := n9_;have HB := n10_;clear n0_ n1_ n2_ n3_ n4_ n5_ n6_ n7_ n8_ n9_ n10_;(try clear hb);(try clear hb2);(try clear hk);(try clear hi);(try clear ho0);obtain ⟨Ao37,co37,eo37⟩ := Kd.R_slice HO212.out;subst eo37;obtain ⟨Ao38,co38,eo38⟩ := Kd.R_slice HO198.out;subst eo38) | ((with_reducible refine gate_callee (f := 21) rfl ?_);refine goesL_ (some 29) rfl rfl Try.func21 (by kernel_rfl) rfl #[.slice Ao37 t210.length co37,.slice Ao38 t196.length co38] rfl (by (try simp only [List.map_toArray,List.map_cons,List.map_nil]);first | done | rfl | (simp only [List.length_drop,List.length_take];rfl)) ?_;(with_reducible refine (laws_eqIntS.calls k _ _ t210 _ _ t196 true _ ?side1 ?side2 ?side3 ?side4 A12.out).mono ?_);(case side1 => repeat (first | exact (Kd.R_reads' HO212.out).2.2 | (with_reducible refine Kd.C_alloc ?_ _) | (with_reducible refine Kd.C_drewN ?_ _) | (with_reducible refine Kd.C_drew ?_)));(case side2 => exact (Kd.R_reads' HO212.out).2.1);(case side3 => repeat (first | exact (Kd.R_reads' HO198.out).2.2 | (with_reducible refine Kd.C_alloc ?_ _) | (with_reducible refine Kd.C_drewN ?_ _) | (with_reducible refine Kd.C_drew ?_)));(case side4 => exact (Kd.R_reads' HO198.out).2.1);rintro e w' ⟨rfl,⟨nd,rfl⟩⟩;refine ⟨_,rfl,?_⟩))
        (iterate 4 (try (rw [drewN_self w36];generalize hq_ : World.drewN w36 _ = w36;have n0_ : Aside0 (Kd.R Kd.string 9 w36 w.heap.size (fun k_ => some k_ ≠ (.slice Ao31 t199.length co31 : Value).ownBlock) (.slice Ao24 t186.length co24) t186) := ⟨by rw [← hq_];exact (by (with_reducible repeat (first | apply Kd.R_alloc | apply Kd.R_drewN | apply Kd.R_drew));exact Kd.R_mono HO188.out (fun _ hk => hk.2))⟩;have n1_ : Aside0 (Kd.S (Kd.slice 3 (Kd.int .i64)) 34 w36 w.heap.size (fun k_ => some k_ ≠ (.slice Ao26 t193.length co26 : Value).ownBlock ∧ some k_ ≠ (.slice Ao38 t196.length co38 : Value).ownBlock ∧ some k_ ≠ (.slice Ao34 t203.length co34 : Value).ownBlock ∧ some k_ ≠ (.slice Ao35 t206.length co35 : Value).ownBlock ∧ some k_ ≠ (.slice Ao37 t210.length co37 : Value).ownBlock) (.slice Ao25 t190.length co25) t190) := ⟨by rw [← hq_];exact (by (with_reducible repeat (first | apply Kd.S_alloc | apply Kd.S_drewN | apply Kd.S_drew));exact Kd.S_mono HO192.out (fun _ hk => ⟨hk.1.1.1.1,⟨hk.1.1.1.2,⟨hk.1.1.2,⟨hk.1.2,hk.2⟩⟩⟩⟩))⟩;have n2_ : Aside0 (Kd.R (Kd.int .i64) 3 w36 w.heap.size (fun k_ => some k_ ≠ (.slice Ao38 t196.length co38 : Value).ownBlock ∧ some k_ ≠ (.slice Ao35 t206.length co35 : Value).ownBlock ∧ some k_ ≠ (.slice Ao37 t210.length co37 : Value).ownBlock) (.slice Ao26 t193.length co26) t193) := ⟨by rw [← hq_];exact (by (with_reducible repeat (first | apply Kd.R_alloc | apply Kd.R_drewN | apply Kd.R_drew));exact Kd.R_mono HO195.out (fun _ hk => ⟨hk.1.1.2,⟨hk.1.2,hk.2⟩⟩))⟩;have n3_ : Aside0 (Kd.R (Kd.int .i64) 3 w36 w.heap.size (fun k_ => some k_ ≠ (.slice Ao26 t193.length co26 : Value).ownBlock ∧ some k_ ≠ (.slice Ao35 t206.length co35 : Value).ownBlock ∧ some k_ ≠ (.slice Ao37 t210.length co37 : Value).ownBlock) (.slice Ao38 t196.length co38) t196) := ⟨by rw [← hq_];exact (by (with_reducible repeat (first | apply Kd.R_alloc | apply Kd.R_drewN | apply Kd.R_drew));exact Kd.R_mono HO198.out (fun _ hk => ⟨hk.1.1.2,⟨hk.1.2,hk.2⟩⟩))⟩;have n4_ : Aside0 (Kd.R Kd.string 9 w36 w.heap.size (fun k_ => some k_ ≠ (.slice Ao24 t186.length co24 : Value).ownBlock) (.slice Ao31 t199.length co31) t199) := ⟨by rw [← hq_];exact (by (with_reducible repeat (first | apply Kd.R_alloc | apply Kd.R_drewN | apply Kd.R_drew));exact Kd.R_mono HO201.out (fun _ hk => hk.2))⟩;have n5_ : Aside0 (Kd.S (Kd.slice 3 (Kd.int .i64)) 34 w36 w.heap.size (fun k_ => some k_ ≠ (.slice Ao25 t190.length co25 : Value).ownBlock ∧ some k_ ≠ (.slice Ao26 t193.length co26 : Value).ownBlock ∧ some k_ ≠ (.slice Ao38 t196.length co38 : Value).ownBlock ∧ some k_ ≠ (.slice Ao35 t206.length co35 : Value).ownBlock ∧ some k_ ≠ (.slice Ao37 t210.length co37 : Value).ownBlock) (.slice Ao34 t203.length co34) t203) := ⟨by rw [← hq_];exact (by (with_reducible repeat (first | apply Kd.S_alloc | apply Kd.S_drewN | apply Kd.S_drew));exact Kd.S_mono HO205.out (fun _ hk => ⟨hk.1.1.1.2,⟨hk.1.1.2,⟨hk.1.2,⟨hk.1.1.1.1,hk.2⟩⟩⟩⟩))⟩;have n6_ : Aside0 (Kd.R (Kd.int .i64) 3 w36 w.heap.size (fun k_ => some k_ ≠ (.slice Ao26 t193.length co26 : Value).ownBlock ∧ some k_ ≠ (.slice Ao38 t196.length co38 : Value).ownBlock ∧ some k_ ≠ (.slice Ao37 t210.length co37 : Value).ownBlock) (.slice Ao35 t206.length co35) t206) := ⟨by rw [← hq_];exact (by (with_reducible repeat (first | apply Kd.R_alloc | apply Kd.R_drewN | apply Kd.R_drew));exact Kd.R_mono HO208.out (fun _ hk => ⟨hk.1.1.2,⟨hk.1.2,hk.2⟩⟩))⟩;have n7_ : Aside0 (Kd.R (Kd.int .i64) 3 w36 w.heap.size (fun k_ => some k_ ≠ (.slice Ao26 t193.length co26 : Value).ownBlock ∧ some k_ ≠ (.slice Ao38 t196.length co38 : Value).ownBlock ∧ some k_ ≠ (.slice Ao35 t206.length co35 : Value).ownBlock) (.slice Ao37 t210.length co37) t210) := ⟨by rw [← hq_];exact (by (with_reducible repeat (first | apply Kd.R_alloc | apply Kd.R_drewN | apply Kd.R_drew));exact Kd.R_mono HO212.out (fun _ hk => ⟨hk.1.1.2,⟨hk.1.2,hk.2⟩⟩))⟩;have n8_ : Aside0 (w36.heap[gb184]? = some (.cells #[.slice A0_0 l0_0.length c0_0,.string a0_1,.slice A0_2 l0_2.length c0_2,.slice A0_3 l0_3.length c0_3] 42 (0,0))) := ⟨by rw [← hq_];exact (by refine bP ?_;exact BK184.out)⟩;have n9_ : Aside0 (w36.heap[gb209]? = some (.cells #[.slice Ao31 t199.length co31,.string t202,.slice Ao34 t203.length co34,.slice Ao35 t206.length co35] 36 (0,0))) := ⟨by rw [← hq_];exact (by refine bP ?_;exact BK209.out)⟩;have n10_ : Aside0 (Below w.heap.size w w36) := ⟨by rw [← hq_];exact (by repeat (first | (with_reducible first | exact HB.out | apply below_alloc | apply pw_below_drewN | apply below_drew1 | refine below_set ?_ GE184.out | refine below_set ?_ GE209.out) | exact HB.out))⟩;clear HO188 HO192 HO195 HO198 HO201 HO205 HO208 HO212 BK184 BK209 HB hq_;have HO188 := n0_;have HO192 := n1_;have HO195 := n2_;have HO198 := n3_;have HO201 := n4_;have HO205 := n5_;have HO208 := n6_;have HO212 := n7_;have BK184 := n8_;have BK209 := n9_;have HB := n10_;clear n0_ n1_ n2_ n3_ n4_ n5_ n6_ n7_ n8_ n9_ n10_)))
        have nz_ : Aside0 (Kd.R Kd.string 9 w36 w.heap.size (fun k_ => some k_ ≠ (.slice Ao31 t199.length co31 : Value).ownBlock) (.slice Ao24 t186.length co24) t186) := ⟨by first | exact HO188.out | exact (by (with_reducible repeat (first | apply Kd.R_alloc | apply Kd.R_drewN | apply Kd.R_drew));exact Kd.R_mono HO188.out (fun _ hk => hk.2))⟩
        clear HO188
        have HO188 := nz_
        clear nz_
        have nz_ : Aside0 (Kd.S (Kd.slice 3 (Kd.int .i64)) 34 w36 w.heap.size (fun k_ => some k_ ≠ (.slice Ao26 t193.length co26 : Value).ownBlock ∧ some k_ ≠ (.slice Ao38 t196.length co38 : Value).ownBlock ∧ some k_ ≠ (.slice Ao34 t203.length co34 : Value).ownBlock ∧ some k_ ≠ (.slice Ao35 t206.length co35 : Value).ownBlock ∧ some k_ ≠ (.slice Ao37 t210.length co37 : Value).ownBlock) (.slice Ao25 t190.length co25) t190) := ⟨by first | exact HO192.out | exact (by (with_reducible repeat (first | apply Kd.S_alloc | apply Kd.S_drewN | apply Kd.S_drew));exact Kd.S_mono HO192.out (fun _ hk => ⟨hk.1.1.1.1,⟨hk.1.1.1.2,⟨hk.1.1.2,⟨hk.1.2,hk.2⟩⟩⟩⟩))⟩
        clear HO192
        have HO192 := nz_
        clear nz_
        have nz_ : Aside0 (Kd.R (Kd.int .i64) 3 w36 w.heap.size (fun k_ => some k_ ≠ (.slice Ao38 t196.length co38 : Value).ownBlock ∧ some k_ ≠ (.slice Ao35 t206.length co35 : Value).ownBlock ∧ some k_ ≠ (.slice Ao37 t210.length co37 : Value).ownBlock) (.slice Ao26 t193.length co26) t193) := ⟨by first | exact HO195.out | exact (by (with_reducible repeat (first | apply Kd.R_alloc | apply Kd.R_drewN | apply Kd.R_drew));exact Kd.R_mono HO195.out (fun _ hk => ⟨hk.1.1.2,⟨hk.1.2,hk.2⟩⟩))⟩
        clear HO195
        have HO195 := nz_
        clear nz_
        have nz_ : Aside0 (Kd.R (Kd.int .i64) 3 w36 w.heap.size (fun k_ => some k_ ≠ (.slice Ao26 t193.length co26 : Value).ownBlock ∧ some k_ ≠ (.slice Ao35 t206.length co35 : Value).ownBlock ∧ some k_ ≠ (.slice Ao37 t210.length co37 : Value).ownBlock) (.slice Ao38 t196.length co38) t196) := ⟨by first | exact HO198.out | exact (by (with_reducible repeat (first | apply Kd.R_alloc | apply Kd.R_drewN | apply Kd.R_drew));exact Kd.R_mono HO198.out (fun _ hk => ⟨hk.1.1.2,⟨hk.1.2,hk.2⟩⟩))⟩
        clear HO198
        have HO198 := nz_
        clear nz_
        have nz_ : Aside0 (Kd.R Kd.string 9 w36 w.heap.size (fun k_ => some k_ ≠ (.slice Ao24 t186.length co24 : Value).ownBlock) (.slice Ao31 t199.length co31) t199) := ⟨by first | exact HO201.out | exact (by (with_reducible repeat (first | apply Kd.R_alloc | apply Kd.R_drewN | apply Kd.R_drew));exact Kd.R_mono HO201.out (fun _ hk => hk.2))⟩
        clear HO201
        have HO201 := nz_
        clear nz_
        have nz_ : Aside0 (Kd.S (Kd.slice 3 (Kd.int .i64)) 34 w36 w.heap.size (fun k_ => some k_ ≠ (.slice Ao25 t190.length co25 : Value).ownBlock ∧ some k_ ≠ (.slice Ao26 t193.length co26 : Value).ownBlock ∧ some k_ ≠ (.slice Ao38 t196.length co38 : Value).ownBlock ∧ some k_ ≠ (.slice Ao35 t206.length co35 : Value).ownBlock ∧ some k_ ≠ (.slice Ao37 t210.length co37 : Value).ownBlock) (.slice Ao34 t203.length co34) t203) := ⟨by first | exact HO205.out | exact (by (with_reducible repeat (first | apply Kd.S_alloc | apply Kd.S_drewN | apply Kd.S_drew));exact Kd.S_mono HO205.out (fun _ hk => ⟨hk.1.1.1.2,⟨hk.1.1.2,⟨hk.1.2,⟨hk.1.1.1.1,hk.2⟩⟩⟩⟩))⟩
        clear HO205
        have HO205 := nz_
        clear nz_
        have nz_ : Aside0 (Kd.R (Kd.int .i64) 3 w36 w.heap.size (fun k_ => some k_ ≠ (.slice Ao26 t193.length co26 : Value).ownBlock ∧ some k_ ≠ (.slice Ao38 t196.length co38 : Value).ownBlock ∧ some k_ ≠ (.slice Ao37 t210.length co37 : Value).ownBlock) (.slice Ao35 t206.length co35) t206) := ⟨by first | exact HO208.out | exact (by (with_reducible repeat (first | apply Kd.R_alloc | apply Kd.R_drewN | apply Kd.R_drew));exact Kd.R_mono HO208.out (fun _ hk => ⟨hk.1.1.2,⟨hk.1.2,hk.2⟩⟩))⟩
        clear HO208
        have HO208 := nz_
        clear nz_
        have nz_ : Aside0 (Kd.R (Kd.int .i64) 3 w36 w.heap.size (fun k_ => some k_ ≠ (.slice Ao26 t193.length co26 : Value).ownBlock ∧ some k_ ≠ (.slice Ao38 t196.length co38 : Value).ownBlock ∧ some k_ ≠ (.slice Ao35 t206.length co35 : Value).ownBlock) (.slice Ao37 t210.length co37) t210) := ⟨by first | exact HO212.out | exact (by (with_reducible repeat (first | apply Kd.R_alloc | apply Kd.R_drewN | apply Kd.R_drew));exact Kd.R_mono HO212.out (fun _ hk => ⟨hk.1.1.2,⟨hk.1.2,hk.2⟩⟩))⟩
        clear HO212
        have HO212 := nz_
        clear nz_
        have n0_ := Aside0.mk (Kd.R_drew HO188.out)
        have n1_ := Aside0.mk (Kd.S_drew HO192.out)
        have n2_ := Aside0.mk (Kd.R_drew HO195.out)
        have n3_ := Aside0.mk (Kd.R_drew HO198.out)
        have n4_ := Aside0.mk (Kd.R_drew HO201.out)
        have n5_ := Aside0.mk (Kd.S_drew HO205.out)
        have n6_ := Aside0.mk (Kd.R_drew HO208.out)
        have n7_ := Aside0.mk (Kd.R_drew HO212.out)
        have n8_ := Aside0.mk (blk_drew BK184.out)
        have n9_ := Aside0.mk (blk_drew BK209.out)
        have n10_ := Aside0.mk (below_drew1 HB.out)
        clear HO188
        clear HO192
        clear HO195
        clear HO198
        clear HO201
        clear HO205
        clear HO208
        clear HO212
        clear BK184
        clear BK209
        clear HB
        have HO188 := n0_
        have HO192 := n1_
        have HO195 := n2_
        have HO198 := n3_
        have HO201 := n4_
        have HO205 := n5_
        have HO208 := n6_
        have HO212 := n7_
        have BK184 := n8_
        have BK209 := n9_
        have HB := n10_
        clear n0_ n1_ n2_ n3_ n4_ n5_ n6_ n7_ n8_ n9_ n10_
        refine start_ (n := 5) (S := fun w' => w'.cell? ⟨gb209,0,none⟩ = some (.slice Ao31 t199.length co31) ∧ w'.cell? ⟨gb209,1,none⟩ = some (.string t202) ∧ w'.cell? ⟨gb209,2,none⟩ = some (.slice Ao34 t203.length co34) ∧ w'.cell? ⟨gb209,3,none⟩ = some (.slice Ao35 t206.length co35) ∧ w'.cell? ⟨gb184,0,none⟩ = some (.slice A0_0 l0_0.length c0_0) ∧ w'.cell? ⟨gb184,1,none⟩ = some (.string a0_1) ∧ w'.cell? ⟨gb184,2,none⟩ = some (.slice A0_2 l0_2.length c0_2) ∧ w'.cell? ⟨gb184,3,none⟩ = some (.slice A0_3 l0_3.length c0_3)) (ds := []) #[false,false,false,false,false] (by kernel_rfl) rfl rfl ⟨(blk_cell BK209.out 0).trans rfl,(blk_cell BK209.out 1).trans rfl,(blk_cell BK209.out 2).trans rfl,(blk_cell BK209.out 3).trans rfl,(blk_cell BK184.out 0).trans rfl,(blk_cell BK184.out 1).trans rfl,(blk_cell BK184.out 2).trans rfl,(blk_cell BK184.out 3).trans rfl⟩ (fun hHeld => ?_)
        generalize w36.drew = w39 at HO188 HO192 HO195 HO198 HO201 HO205 HO208 HO212 BK184 BK209 HB hHeld ⊢
        refine take_ (i := 0) (N := some 31) (v := ?_) (a' := ?_) #[true,false,false,false,false] rfl rfl (by kernel_rfl) (fun _ _ _ h => h) (Or.inl ⟨by rfl,?_⟩) hHeld ?_ ?_
        rotate_left
        · rintro w' ⟨s0,s1,s2,s3,s4,s5,s6,s7⟩
          go_simp
          with_reducible rfl
        rotate_left
        · simp only [Act.put,List.setIfInBounds_toArray,List.set_cons_zero,List.set_cons_succ,i64_w,i32_w]
          rfl
        refine take_ (i := 1) (N := some 32) (v := ?_) (a' := ?_) #[true,true,false,false,false] rfl rfl (by kernel_rfl) (fun _ _ _ h => h) (Or.inl ⟨by rfl,?_⟩) hHeld ?_ ?_
        rotate_left
        · rintro w' ⟨s0,s1,s2,s3,s4,s5,s6,s7⟩
          go_simp
          with_reducible rfl
        rotate_left
        · simp only [Act.put,List.setIfInBounds_toArray,List.set_cons_zero,List.set_cons_succ,i64_w,i32_w]
          rfl
        refine one_ (i := 2) (N := some 33) #[true,true,true,false,false] rfl rfl (by kernel_rfl) (by decide) (fun K hK => ?_)
        refine goes_ Try.func20 (by kernel_rfl) rfl #[.agg #[.slice A0_0 l0_0.length c0_0,.string a0_1,.slice A0_2 l0_2.length c0_2,.slice A0_3 l0_3.length c0_3]] (by rfl) rfl rfl (by (try simp only [List.map_toArray,List.map_cons,List.map_nil]);first | done | rfl | (simp only [List.length_drop,List.length_take];rfl)) ?_
        with_reducible refine (laws_toTable.calls k _ _ l0_0 a0_1 _ _ l0_2 _ _ l0_3 t214 t217 t218 t221 _ ?side1 ?side2 ?side3 ?side4 ?side5 ?side6 A14.out).mono ?_
        (case side1 => repeat (first | exact (Kd.C_below HR0_0.out HB.out) | (with_reducible refine Kd.C_alloc ?_ _) | (with_reducible refine Kd.C_drewN ?_ _) | (with_reducible refine Kd.C_drew ?_)))
        (case side2 => exact HC0_0.out)
        (case side3 => repeat (first | exact (Kd.C_below HR0_2.out HB.out) | (with_reducible refine Kd.C_alloc ?_ _) | (with_reducible refine Kd.C_drewN ?_ _) | (with_reducible refine Kd.C_drew ?_)))
        (case side4 => exact HC0_2.out)
        (case side5 => repeat (first | exact (Kd.C_below HR0_3.out HB.out) | (with_reducible refine Kd.C_alloc ?_ _) | (with_reducible refine Kd.C_drewN ?_ _) | (with_reducible refine Kd.C_drew ?_)))
        (case side6 => exact HC0_3.out)
        rintro e w40 ⟨v215,v219,v222,rfl,ho0,ho1,ho2,hb⟩
        refine ⟨_,rfl,?_⟩
        have n0_ := Aside0.mk (Kd.R_elder' (by (with_reducible repeat (first | apply Kd.R_alloc | apply Kd.R_drewN | apply Kd.R_drew));exact HO188.out) (Kd.R_base ho0) hb)
        have n1_ := Aside0.mk (Kd.S_mono (Kd.S_told (Kd.S_told (Kd.S_old (by (with_reducible repeat (first | apply Kd.S_alloc | apply Kd.S_drewN | apply Kd.S_drew));exact HO192.out) hb) (Kd.S_base ho1)) (Kd.R_base ho2)) (fun _ h_ => h_.1))
        have n2_ := Aside0.mk (Kd.R_elder' (by (with_reducible repeat (first | apply Kd.R_alloc | apply Kd.R_drewN | apply Kd.R_drew));exact HO195.out) (Kd.R_base ho2) hb)
        have n3_ := Aside0.mk (Kd.R_elder' (by (with_reducible repeat (first | apply Kd.R_alloc | apply Kd.R_drewN | apply Kd.R_drew));exact HO198.out) (Kd.R_base ho2) hb)
        have n4_ := Aside0.mk (Kd.R_elder' (by (with_reducible repeat (first | apply Kd.R_alloc | apply Kd.R_drewN | apply Kd.R_drew));exact HO201.out) (Kd.R_base ho0) hb)
        have n5_ := Aside0.mk (Kd.S_mono (Kd.S_told (Kd.S_told (Kd.S_old (by (with_reducible repeat (first | apply Kd.S_alloc | apply Kd.S_drewN | apply Kd.S_drew));exact HO205.out) hb) (Kd.S_base ho1)) (Kd.R_base ho2)) (fun _ h_ => h_.1))
        have n6_ := Aside0.mk (Kd.R_elder' (by (with_reducible repeat (first | apply Kd.R_alloc | apply Kd.R_drewN | apply Kd.R_drew));exact HO208.out) (Kd.R_base ho2) hb)
        have n7_ := Aside0.mk (Kd.R_elder' (by (with_reducible repeat (first | apply Kd.R_alloc | apply Kd.R_drewN | apply Kd.R_drew));exact HO212.out) (Kd.R_base ho2) hb)
        have n8_ := Aside0.mk (Kd.R_lower (Kd.R_new' (Kd.R_new' ho0 (Kd.R_lt (by (with_reducible repeat (first | apply Kd.R_alloc | apply Kd.R_drewN | apply Kd.R_drew));exact HO188.out))) (Kd.R_lt (by (with_reducible repeat (first | apply Kd.R_alloc | apply Kd.R_drewN | apply Kd.R_drew));exact HO201.out))) (below_size (by repeat (first | (with_reducible first | exact HB.out | apply below_alloc | apply pw_below_drewN | apply below_drew1 | refine below_set ?_ GE184.out | refine below_set ?_ GE209.out) | exact HB.out))))
        have n9_ := Aside0.mk (Kd.S_lower (Kd.S_new' (Kd.S_new' (Kd.S_new' (Kd.S_new' (Kd.S_new' (Kd.S_new' ho1 (Kd.S_lt (by (with_reducible repeat (first | apply Kd.S_alloc | apply Kd.S_drewN | apply Kd.S_drew));exact HO192.out))) (Kd.R_lt (by (with_reducible repeat (first | apply Kd.R_alloc | apply Kd.R_drewN | apply Kd.R_drew));exact HO195.out))) (Kd.R_lt (by (with_reducible repeat (first | apply Kd.R_alloc | apply Kd.R_drewN | apply Kd.R_drew));exact HO198.out))) (Kd.S_lt (by (with_reducible repeat (first | apply Kd.S_alloc | apply Kd.S_drewN | apply Kd.S_drew));exact HO205.out))) (Kd.R_lt (by (with_reducible repeat (first | apply Kd.R_alloc | apply Kd.R_drewN | apply Kd.R_drew));exact HO208.out))) (Kd.R_lt (by (with_reducible repeat (first | apply Kd.R_alloc | apply Kd.R_drewN | apply Kd.R_drew));exact HO212.out))) (below_size (by repeat (first | (with_reducible first | exact HB.out | apply below_alloc | apply pw_below_drewN | apply below_drew1 | refine below_set ?_ GE184.out | refine below_set ?_ GE209.out) | exact HB.out))))
        have n10_ := Aside0.mk (Kd.R_lower (Kd.R_new' (Kd.R_new' (Kd.R_new' (Kd.R_new' ho2 (Kd.R_lt (by (with_reducible repeat (first | apply Kd.R_alloc | apply Kd.R_drewN | apply Kd.R_drew));exact HO195.out))) (Kd.R_lt (by (with_reducible repeat (first | apply Kd.R_alloc | apply Kd.R_drewN | apply Kd.R_drew));exact HO198.out))) (Kd.R_lt (by (with_reducible repeat (first | apply Kd.R_alloc | apply Kd.R_drewN | apply Kd.R_drew));exact HO208.out))) (Kd.R_lt (by (with_reducible repeat (first | apply Kd.R_alloc | apply Kd.R_drewN | apply Kd.R_drew));exact HO212.out))) (below_size (by repeat (first | (with_reducible first | exact HB.out | apply below_alloc | apply pw_below_drewN | apply below_drew1 | refine below_set ?_ GE184.out | refine below_set ?_ GE209.out) | exact HB.out))))
        have n11_ := Aside0.mk (blk_below (g := gb184) (o := .cells #[.slice A0_0 l0_0.length c0_0,.string a0_1,.slice A0_2 l0_2.length c0_2,.slice A0_3 l0_3.length c0_3] 42 (0,0)) (by refine bP ?_;exact BK184.out) hb)
        have n12_ := Aside0.mk (blk_below (g := gb209) (o := .cells #[.slice Ao31 t199.length co31,.string t202,.slice Ao34 t203.length co34,.slice Ao35 t206.length co35] 36 (0,0)) (by refine bP ?_;exact BK209.out) hb)
        have n13_ := Aside0.mk (below_step (by repeat (first | (with_reducible first | exact HB.out | apply below_alloc | apply pw_below_drewN | apply below_drew1 | refine below_set ?_ GE184.out | refine below_set ?_ GE209.out) | exact HB.out)) hb)
        clear HO188
        clear HO192
        clear HO195
        clear HO198
        clear HO201
        clear HO205
        clear HO208
        clear HO212
        clear BK184
        clear BK209
        clear HB
        have HO188 := n0_
        have HO192 := n1_
        have HO195 := n2_
        have HO198 := n3_
        have HO201 := n4_
        have HO205 := n5_
        have HO208 := n6_
        have HO212 := n7_
        have HO216 := n8_
        have HO220 := n9_
        have HO223 := n10_
        have BK184 := n11_
        have BK209 := n12_
        have HB := n13_
        clear n0_ n1_ n2_ n3_ n4_ n5_ n6_ n7_ n8_ n9_ n10_ n11_ n12_ n13_
        (try clear hb)
        (try clear hb2)
        (try clear hk)
        (try clear hi)
        (try clear ho0)
        (try clear ho1)
        (try clear ho2)
        obtain ⟨Ao41,co41,eo41⟩ := Kd.R_slice HO216.out
        (first | subst eo41 | (injection eo41 with f1_ f2_ f3_;have f4_ := f1_.symm;have f5_ := f3_.symm;clear f1_ f2_ f3_;subst f4_;subst f5_))
        obtain ⟨Ao42,co42,eo42⟩ := Kd.S_slice HO220.out
        (first | subst eo42 | (injection eo42 with f1_ f2_ f3_;have f4_ := f1_.symm;have f5_ := f3_.symm;clear f1_ f2_ f3_;subst f4_;subst f5_))
        obtain ⟨Ao43,co43,eo43⟩ := Kd.R_slice HO223.out
        (first | subst eo43 | (injection eo43 with f1_ f2_ f3_;have f4_ := f1_.symm;have f5_ := f3_.symm;clear f1_ f2_ f3_;subst f4_;subst f5_))
        refine hK.out _ _ ⟨(blk_cell BK209.out 0).trans rfl,(blk_cell BK209.out 1).trans rfl,(blk_cell BK209.out 2).trans rfl,(blk_cell BK209.out 3).trans rfl,(blk_cell BK184.out 0).trans rfl,(blk_cell BK184.out 1).trans rfl,(blk_cell BK184.out 2).trans rfl,(blk_cell BK184.out 3).trans rfl⟩ (fun hHeld => ?_)
        clear hK K
        refine norm_ (a' := ?_) ?_ ?_
        rotate_left
        · show Act.put _ (some 33) _ = _
          simp only [Act.put,List.setIfInBounds_toArray,List.set_cons_zero,List.set_cons_succ,i64_w,i32_w]
          rfl
        refine one_ (i := 3) (N := some 34) #[true,true,true,true,false] rfl rfl (by kernel_rfl) (by decide) (fun K hK => ?_)
        refine goes_ Try.func22 (by kernel_rfl) rfl #[.agg #[.slice Ao31 t199.length co31,.string t202,.slice Ao34 t203.length co34,.slice Ao35 t206.length co35],.agg #[.slice Ao41 t214.length co41,.string t217,.slice Ao42 t218.length co42,.slice Ao43 t221.length co43]] (by rfl) rfl rfl (by (try simp only [List.map_toArray,List.map_cons,List.map_nil]);first | done | rfl | (simp only [List.length_drop,List.length_take];rfl)) ?_
        with_reducible refine (laws_eqTable.calls k _ _ t199 t202 _ _ t203 _ _ t206 _ _ t214 t217 _ _ t218 _ _ t221 true _ ?side1 ?side2 ?side3 ?side4 ?side5 ?side6 ?side7 ?side8 ?side9 ?side10 ?side11 ?side12 A15.out).mono ?_
        (case side1 => repeat (first | exact (Kd.R_reads' HO201.out).2.2 | (with_reducible refine Kd.C_alloc ?_ _) | (with_reducible refine Kd.C_drewN ?_ _) | (with_reducible refine Kd.C_drew ?_)))
        (case side2 => exact (Kd.R_reads' HO201.out).2.1)
        (case side3 => repeat (first | exact (Kd.S_reads' HO205.out).2.2 | (with_reducible refine Kd.C_alloc ?_ _) | (with_reducible refine Kd.C_drewN ?_ _) | (with_reducible refine Kd.C_drew ?_)))
        (case side4 => exact (Kd.S_reads' HO205.out).2.1)
        (case side5 => repeat (first | exact (Kd.R_reads' HO208.out).2.2 | (with_reducible refine Kd.C_alloc ?_ _) | (with_reducible refine Kd.C_drewN ?_ _) | (with_reducible refine Kd.C_drew ?_)))
        (case side6 => exact (Kd.R_reads' HO208.out).2.1)
        (case side7 => repeat (first | exact (Kd.R_reads' HO216.out).2.2 | (with_reducible refine Kd.C_alloc ?_ _) | (with_reducible refine Kd.C_drewN ?_ _) | (with_reducible refine Kd.C_drew ?_)))
        (case side8 => exact (Kd.R_reads' HO216.out).2.1)
        (case side9 => repeat (first | exact (Kd.S_reads' HO220.out).2.2 | (with_reducible refine Kd.C_alloc ?_ _) | (with_reducible refine Kd.C_drewN ?_ _) | (with_reducible refine Kd.C_drew ?_)))
        (case side10 => exact (Kd.S_reads' HO220.out).2.1)
        (case side11 => repeat (first | exact (Kd.R_reads' HO223.out).2.2 | (with_reducible refine Kd.C_alloc ?_ _) | (with_reducible refine Kd.C_drewN ?_ _) | (with_reducible refine Kd.C_drew ?_)))
        (case side12 => exact (Kd.R_reads' HO223.out).2.1)
        rintro e w44 ⟨rfl,hb⟩
        refine ⟨_,rfl,?_⟩
        have n0_ := Aside0.mk (Kd.R_below (by (with_reducible repeat (first | apply Kd.R_alloc | apply Kd.R_drewN | apply Kd.R_drew));exact HO188.out) hb)
        have n1_ := Aside0.mk (Kd.S_below (by (with_reducible repeat (first | apply Kd.S_alloc | apply Kd.S_drewN | apply Kd.S_drew));exact HO192.out) hb)
        have n2_ := Aside0.mk (Kd.R_below (by (with_reducible repeat (first | apply Kd.R_alloc | apply Kd.R_drewN | apply Kd.R_drew));exact HO195.out) hb)
        have n3_ := Aside0.mk (Kd.R_below (by (with_reducible repeat (first | apply Kd.R_alloc | apply Kd.R_drewN | apply Kd.R_drew));exact HO198.out) hb)
        have n4_ := Aside0.mk (Kd.R_below (by (with_reducible repeat (first | apply Kd.R_alloc | apply Kd.R_drewN | apply Kd.R_drew));exact HO201.out) hb)
        have n5_ := Aside0.mk (Kd.S_below (by (with_reducible repeat (first | apply Kd.S_alloc | apply Kd.S_drewN | apply Kd.S_drew));exact HO205.out) hb)
        have n6_ := Aside0.mk (Kd.R_below (by (with_reducible repeat (first | apply Kd.R_alloc | apply Kd.R_drewN | apply Kd.R_drew));exact HO208.out) hb)
        have n7_ := Aside0.mk (Kd.R_below (by (with_reducible repeat (first | apply Kd.R_alloc | apply Kd.R_drewN | apply Kd.R_drew));exact HO212.out) hb)
        have n8_ := Aside0.mk (Kd.R_below (by (with_reducible repeat (first | apply Kd.R_alloc | apply Kd.R_drewN | apply Kd.R_drew));exact HO216.out) hb)
        have n9_ := Aside0.mk (Kd.S_below (by (with_reducible repeat (first | apply Kd.S_alloc | apply Kd.S_drewN | apply Kd.S_drew));exact HO220.out) hb)
        have n10_ := Aside0.mk (Kd.R_below (by (with_reducible repeat (first | apply Kd.R_alloc | apply Kd.R_drewN | apply Kd.R_drew));exact HO223.out) hb)
        have n11_ := Aside0.mk (blk_below (g := gb184) (o := .cells #[.slice A0_0 l0_0.length c0_0,.string a0_1,.slice A0_2 l0_2.length c0_2,.slice A0_3 l0_3.length c0_3] 42 (0,0)) (by refine bP ?_;exact BK184.out) hb)
        have n12_ := Aside0.mk (blk_below (g := gb209) (o := .cells #[.slice Ao31 t199.length co31,.string t202,.slice Ao34 t203.length co34,.slice Ao35 t206.length co35] 36 (0,0)) (by refine bP ?_;exact BK209.out) hb)
        have n13_ := Aside0.mk (below_step (by repeat (first | (with_reducible first | exact HB.out | apply below_alloc | apply pw_below_drewN | apply below_drew1 | refine below_set ?_ GE184.out | refine below_set ?_ GE209.out) | exact HB.out)) hb)
        clear HO188
        clear HO192
        clear HO195
        clear HO198
        clear HO201
        clear HO205
        clear HO208
        clear HO212
        clear HO216
        clear HO220
        clear HO223
        clear BK184
        clear BK209
        clear HB
        have HO188 := n0_
        have HO192 := n1_
        have HO195 := n2_
        have HO198 := n3_
        have HO201 := n4_
        have HO205 := n5_
        have HO208 := n6_
        have HO212 := n7_
        have HO216 := n8_
        have HO220 := n9_
        have HO223 := n10_
        have BK184 := n11_
        have BK209 := n12_
        have HB := n13_
        clear n0_ n1_ n2_ n3_ n4_ n5_ n6_ n7_ n8_ n9_ n10_ n11_ n12_ n13_
        (try clear hb)
        (try clear hb2)
        (try clear hk)
        (try clear hi)
        refine hK.out _ _ ⟨(blk_cell BK209.out 0).trans rfl,(blk_cell BK209.out 1).trans rfl,(blk_cell BK209.out 2).trans rfl,(blk_cell BK209.out 3).trans rfl,(blk_cell BK184.out 0).trans rfl,(blk_cell BK184.out 1).trans rfl,(blk_cell BK184.out 2).trans rfl,(blk_cell BK184.out 3).trans rfl⟩ (fun hHeld => ?_)
        clear hK K
        refine norm_ (a' := ?_) ?_ ?_
        rotate_left
        · show Act.put _ (some 34) _ = _
          simp only [Act.put,List.setIfInBounds_toArray,List.set_cons_zero,List.set_cons_succ,i64_w,i32_w]
          rfl
        refine pure_ (i := 4) (N := some 35) (v := ?_) (a' := ?_) #[true,true,true,true,true] rfl rfl (by kernel_rfl) (fun _ _ _ h => h) (Or.inl ⟨by rfl,?_⟩) ?_ ?_
        rotate_left
        · intro w'
          go_simp
          with_reducible rfl
        rotate_left
        · simp only [Act.put,List.setIfInBounds_toArray,List.set_cons_zero,List.set_cons_succ,i64_w,i32_w]
          rfl
        refine done_ (by kernel_rfl) ?_
        obtain ⟨hcz45_0,hcz45_1,hcz45_2,hcz45_3,hfz45_0,hfz45_1,hfz45_2,hfz45_3⟩ := laws_FnExactColumn.cells4 BK209.out
        go_upto_region 14 with (first | ((with_reducible refine gate_callee (f := 23) rfl ?_);refine goesL_ (some 38) rfl rfl Try.func23 (by kernel_rfl) rfl #[.agg #[.slice Ao31 t199.length co31,.string t202,.slice Ao34 t203.length co34,.slice Ao35 t206.length co35],.int .i64 1] rfl (by (try simp only [List.map_toArray,List.map_cons,List.map_nil]);first | done | rfl | (simp only [List.length_drop,List.length_take];rfl)) ?_;(with_reducible refine (laws_markTable.calls k (fun k_ => some k_ = (.slice Ao31 t199.length co31 : Value).ownBlock) (.slice Ao31 t199.length co31) t199 t202 (fun k_ => ((((((((some k_ ≠ (.slice Ao25 t190.length co25 : Value).ownBlock ∧ (some k_ ≠ (.slice Ao26 t193.length co26 : Value).ownBlock ∧ (some k_ ≠ (.slice Ao38 t196.length co38 : Value).ownBlock ∧ (some k_ ≠ (.slice Ao35 t206.length co35 : Value).ownBlock ∧ some k_ ≠ (.slice Ao37 t210.length co37 : Value).ownBlock)))) ∧ some k_ ≠ (.slice Ao42 t218.length co42 : Value).ownBlock) ∧ some k_ ≠ (.slice Ao43 t221.length co43 : Value).ownBlock) ∧ k_ ≠ gb184) ∧ k_ ≠ gb209) ∧ some k_ ≠ (.slice Ao24 t186.length co24 : Value).ownBlock) ∧ some k_ ≠ (.slice Ao31 t199.length co31 : Value).ownBlock) ∧ some k_ ≠ (.slice Ao41 t214.length co41 : Value).ownBlock)) (.slice Ao34 t203.length co34) t203 (fun k_ => some k_ = (.slice Ao35 t206.length co35 : Value).ownBlock) (.slice Ao35 t206.length co35) t206 1 t225 t226 t227 t228 w _ ?side1 ?side2 ?side3 ?side4 ?side5 ?side6 A17.out).mono ?_);(case side1 => repeat (first | (with_reducible first | exact HB.out | apply below_alloc | apply pw_below_drewN | apply below_drew1 | refine below_set ?_ GE184.out | refine below_set ?_ GE209.out) | exact HB.out));(case side2 => exact Kd.R_tight rfl HO201.out);(case side3 => exact (Kd.S_apart' (Kd.S_apart' (Kd.S_apart' (Kd.S_types (Kd.S_types HO205.out BK184.out (by decide)) BK209.out (by decide)) (Kd.R_typed HO188.out) (by decide)) (Kd.R_typed HO201.out) (by decide)) (Kd.R_typed HO216.out) (by decide)));(case side4 => exact fun k_ e_ e2_ => (e_.1.1.1.1.1.1.1.2.2.2.1) e2_);(case side5 => exact Kd.R_tight rfl HO208.out);(case side6 => exact fun k_ e_ e2_ => (e2_.1.1.1.1.1.1.1.2.2.2.1) e_);rintro e w46 ⟨rfl,hy0,hy1,hy2,hb,hkp⟩;refine ⟨_,rfl,?_⟩;have n0_ := Aside0.mk (blk_kept (by refine bP ?_;exact BK184.out) hkp (fun hs_ => Or.elim hs_ (fun e_ => (fun e_ => (Kd.R_ne HO201.out BK184.out (by decide)) e_) e_) (fun e_ => Or.elim e_ (fun e_ => (fun e_ => (e_.1.1.1.1.2) rfl) e_) (fun e_ => (fun e_ => (Kd.R_ne HO208.out BK184.out (by decide)) e_) e_))));have n1_ := Aside0.mk (Kd.R_mono (ok' := fun k_ => some k_ ≠ (.slice Ao31 t199.length co31 : Value).ownBlock ∧ some k_ ≠ (.slice Ao41 t214.length co41 : Value).ownBlock) (Kd.R_keptB ((Kd.R_apart' (Kd.R_mono (Kd.R_tight2 rfl HO188.out) (fun k_ hk => (⟨hk.2,fun hs_ => (hs_.1.1.2) hk.1⟩ : _ ∧ ¬ (((((((((some k_ ≠ (.slice Ao25 t190.length co25 : Value).ownBlock ∧ (some k_ ≠ (.slice Ao26 t193.length co26 : Value).ownBlock ∧ (some k_ ≠ (.slice Ao38 t196.length co38 : Value).ownBlock ∧ (some k_ ≠ (.slice Ao35 t206.length co35 : Value).ownBlock ∧ some k_ ≠ (.slice Ao37 t210.length co37 : Value).ownBlock)))) ∧ some k_ ≠ (.slice Ao42 t218.length co42 : Value).ownBlock) ∧ some k_ ≠ (.slice Ao43 t221.length co43 : Value).ownBlock) ∧ k_ ≠ gb184) ∧ k_ ≠ gb209) ∧ some k_ ≠ (.slice Ao24 t186.length co24 : Value).ownBlock) ∧ some k_ ≠ (.slice Ao31 t199.length co31 : Value).ownBlock) ∧ some k_ ≠ (.slice Ao41 t214.length co41 : Value).ownBlock))))) (Kd.R_typed HO208.out) (by decide))) hkp (fun k_ hk_ hs_ => Or.elim hs_ (fun e_ => (hk_.1.1.1) e_) (fun e_ => Or.elim e_ (fun e_ => (hk_.1.2) e_) (fun e_ => (hk_.2) e_)))) (fun k_ hk_ => ⟨hk_.1.1.1.1,hk_.1.1.1.2⟩));have n2_ := Aside0.mk (Kd.R_mono (ok' := fun k_ => some k_ ≠ (.slice Ao38 t196.length co38 : Value).ownBlock ∧ some k_ ≠ (.slice Ao35 t206.length co35 : Value).ownBlock ∧ some k_ ≠ (.slice Ao37 t210.length co37 : Value).ownBlock ∧ some k_ ≠ (.slice Ao43 t221.length co43 : Value).ownBlock) (Kd.R_keptB ((Kd.R_mono (Kd.R_tight2 rfl (Kd.R_apart' HO195.out (Kd.R_typed HO201.out) (by decide))) (fun k_ hk => (⟨hk.2,fun hs_ => (hs_.1.1.1.1.1.1.1.2.1) hk.1⟩ : _ ∧ ¬ (((((((((some k_ ≠ (.slice Ao25 t190.length co25 : Value).ownBlock ∧ (some k_ ≠ (.slice Ao26 t193.length co26 : Value).ownBlock ∧ (some k_ ≠ (.slice Ao38 t196.length co38 : Value).ownBlock ∧ (some k_ ≠ (.slice Ao35 t206.length co35 : Value).ownBlock ∧ some k_ ≠ (.slice Ao37 t210.length co37 : Value).ownBlock)))) ∧ some k_ ≠ (.slice Ao42 t218.length co42 : Value).ownBlock) ∧ some k_ ≠ (.slice Ao43 t221.length co43 : Value).ownBlock) ∧ k_ ≠ gb184) ∧ k_ ≠ gb209) ∧ some k_ ≠ (.slice Ao24 t186.length co24 : Value).ownBlock) ∧ some k_ ≠ (.slice Ao31 t199.length co31 : Value).ownBlock) ∧ some k_ ≠ (.slice Ao41 t214.length co41 : Value).ownBlock)))))) hkp (fun k_ hk_ hs_ => Or.elim hs_ (fun e_ => (hk_.1.2) e_) (fun e_ => Or.elim e_ (fun e_ => (hk_.2) e_) (fun e_ => (hk_.1.1.1.2.1) e_)))) (fun k_ hk_ => ⟨hk_.1.1.1.1.1,hk_.1.1.1.1.2.1,hk_.1.1.1.1.2.2,hk_.1.1.1.2⟩));have n3_ := Aside0.mk (Kd.R_mono (ok' := fun k_ => some k_ ≠ (.slice Ao26 t193.length co26 : Value).ownBlock ∧ some k_ ≠ (.slice Ao35 t206.length co35 : Value).ownBlock ∧ some k_ ≠ (.slice Ao37 t210.length co37 : Value).ownBlock ∧ some k_ ≠ (.slice Ao43 t221.length co43 : Value).ownBlock) (Kd.R_keptB ((Kd.R_mono (Kd.R_tight2 rfl (Kd.R_apart' HO198.out (Kd.R_typed HO201.out) (by decide))) (fun k_ hk => (⟨hk.2,fun hs_ => (hs_.1.1.1.1.1.1.1.2.2.1) hk.1⟩ : _ ∧ ¬ (((((((((some k_ ≠ (.slice Ao25 t190.length co25 : Value).ownBlock ∧ (some k_ ≠ (.slice Ao26 t193.length co26 : Value).ownBlock ∧ (some k_ ≠ (.slice Ao38 t196.length co38 : Value).ownBlock ∧ (some k_ ≠ (.slice Ao35 t206.length co35 : Value).ownBlock ∧ some k_ ≠ (.slice Ao37 t210.length co37 : Value).ownBlock)))) ∧ some k_ ≠ (.slice Ao42 t218.length co42 : Value).ownBlock) ∧ some k_ ≠ (.slice Ao43 t221.length co43 : Value).ownBlock) ∧ k_ ≠ gb184) ∧ k_ ≠ gb209) ∧ some k_ ≠ (.slice Ao24 t186.length co24 : Value).ownBlock) ∧ some k_ ≠ (.slice Ao31 t199.length co31 : Value).ownBlock) ∧ some k_ ≠ (.slice Ao41 t214.length co41 : Value).ownBlock)))))) hkp (fun k_ hk_ hs_ => Or.elim hs_ (fun e_ => (hk_.1.2) e_) (fun e_ => Or.elim e_ (fun e_ => (hk_.2) e_) (fun e_ => (hk_.1.1.1.2.1) e_)))) (fun k_ hk_ => ⟨hk_.1.1.1.1.1,hk_.1.1.1.1.2.1,hk_.1.1.1.1.2.2,hk_.1.1.1.2⟩));have n4_ := Aside0.mk (Kd.R_reok rfl hy0 (fun k_ e_ => HO201.out.1 k_ e_));have n5_ := Aside0.mk (hy1);have n6_ := Aside0.mk (Kd.R_reok rfl hy2 (fun k_ e_ => HO208.out.1 k_ e_));have n7_ := Aside0.mk (blk_kept (by refine bP ?_;exact BK209.out) hkp (fun hs_ => Or.elim hs_ (fun e_ => (fun e_ => (Kd.R_ne HO201.out BK209.out (by decide)) e_) e_) (fun e_ => Or.elim e_ (fun e_ => (fun e_ => (e_.1.1.1.2) rfl) e_) (fun e_ => (fun e_ => (Kd.R_ne HO208.out BK209.out (by decide)) e_) e_))));have n8_ := Aside0.mk (Kd.R_mono (ok' := fun k_ => some k_ ≠ (.slice Ao26 t193.length co26 : Value).ownBlock ∧ some k_ ≠ (.slice Ao38 t196.length co38 : Value).ownBlock ∧ some k_ ≠ (.slice Ao35 t206.length co35 : Value).ownBlock ∧ some k_ ≠ (.slice Ao43 t221.length co43 : Value).ownBlock) (Kd.R_keptB ((Kd.R_mono (Kd.R_tight2 rfl (Kd.R_apart' HO212.out (Kd.R_typed HO201.out) (by decide))) (fun k_ hk => (⟨hk.2,fun hs_ => (hs_.1.1.1.1.1.1.1.2.2.2.2) hk.1⟩ : _ ∧ ¬ (((((((((some k_ ≠ (.slice Ao25 t190.length co25 : Value).ownBlock ∧ (some k_ ≠ (.slice Ao26 t193.length co26 : Value).ownBlock ∧ (some k_ ≠ (.slice Ao38 t196.length co38 : Value).ownBlock ∧ (some k_ ≠ (.slice Ao35 t206.length co35 : Value).ownBlock ∧ some k_ ≠ (.slice Ao37 t210.length co37 : Value).ownBlock)))) ∧ some k_ ≠ (.slice Ao42 t218.length co42 : Value).ownBlock) ∧ some k_ ≠ (.slice Ao43 t221.length co43 : Value).ownBlock) ∧ k_ ≠ gb184) ∧ k_ ≠ gb209) ∧ some k_ ≠ (.slice Ao24 t186.length co24 : Value).ownBlock) ∧ some k_ ≠ (.slice Ao31 t199.length co31 : Value).ownBlock) ∧ some k_ ≠ (.slice Ao41 t214.length co41 : Value).ownBlock)))))) hkp (fun k_ hk_ hs_ => Or.elim hs_ (fun e_ => (hk_.1.2) e_) (fun e_ => Or.elim e_ (fun e_ => (hk_.2) e_) (fun e_ => (hk_.1.1.1.2.2) e_)))) (fun k_ hk_ => ⟨hk_.1.1.1.1.1,hk_.1.1.1.1.2.1,hk_.1.1.1.1.2.2,hk_.1.1.1.2⟩));have n9_ := Aside0.mk (Kd.R_mono (ok' := fun k_ => some k_ ≠ (.slice Ao24 t186.length co24 : Value).ownBlock ∧ some k_ ≠ (.slice Ao31 t199.length co31 : Value).ownBlock) (Kd.R_keptB ((Kd.R_apart' (Kd.R_mono (Kd.R_tight2 rfl HO216.out) (fun k_ hk => (⟨hk.2,fun hs_ => (hs_.2) hk.1⟩ : _ ∧ ¬ (((((((((some k_ ≠ (.slice Ao25 t190.length co25 : Value).ownBlock ∧ (some k_ ≠ (.slice Ao26 t193.length co26 : Value).ownBlock ∧ (some k_ ≠ (.slice Ao38 t196.length co38 : Value).ownBlock ∧ (some k_ ≠ (.slice Ao35 t206.length co35 : Value).ownBlock ∧ some k_ ≠ (.slice Ao37 t210.length co37 : Value).ownBlock)))) ∧ some k_ ≠ (.slice Ao42 t218.length co42 : Value).ownBlock) ∧ some k_ ≠ (.slice Ao43 t221.length co43 : Value).ownBlock) ∧ k_ ≠ gb184) ∧ k_ ≠ gb209) ∧ some k_ ≠ (.slice Ao24 t186.length co24 : Value).ownBlock) ∧ some k_ ≠ (.slice Ao31 t199.length co31 : Value).ownBlock) ∧ some k_ ≠ (.slice Ao41 t214.length co41 : Value).ownBlock))))) (Kd.R_typed HO208.out) (by decide))) hkp (fun k_ hk_ hs_ => Or.elim hs_ (fun e_ => (hk_.1.1.2) e_) (fun e_ => Or.elim e_ (fun e_ => (hk_.1.2) e_) (fun e_ => (hk_.2) e_)))) (fun k_ hk_ => ⟨hk_.1.1.1.1.2,hk_.1.1.1.2⟩));have n10_ := Aside0.mk (Kd.R_mono (ok' := fun k_ => some k_ ≠ (.slice Ao26 t193.length co26 : Value).ownBlock ∧ some k_ ≠ (.slice Ao38 t196.length co38 : Value).ownBlock ∧ some k_ ≠ (.slice Ao35 t206.length co35 : Value).ownBlock ∧ some k_ ≠ (.slice Ao37 t210.length co37 : Value).ownBlock) (Kd.R_keptB ((Kd.R_mono (Kd.R_tight2 rfl (Kd.R_apart' HO223.out (Kd.R_typed HO201.out) (by decide))) (fun k_ hk => (⟨hk.2,fun hs_ => (hs_.1.1.1.1.1.2) hk.1⟩ : _ ∧ ¬ (((((((((some k_ ≠ (.slice Ao25 t190.length co25 : Value).ownBlock ∧ (some k_ ≠ (.slice Ao26 t193.length co26 : Value).ownBlock ∧ (some k_ ≠ (.slice Ao38 t196.length co38 : Value).ownBlock ∧ (some k_ ≠ (.slice Ao35 t206.length co35 : Value).ownBlock ∧ some k_ ≠ (.slice Ao37 t210.length co37 : Value).ownBlock)))) ∧ some k_ ≠ (.slice Ao42 t218.length co42 : Value).ownBlock) ∧ some k_ ≠ (.slice Ao43 t221.length co43 : Value).ownBlock) ∧ k_ ≠ gb184) ∧ k_ ≠ gb209) ∧ some k_ ≠ (.slice Ao24 t186.length co24 : Value).ownBlock) ∧ some k_ ≠ (.slice Ao31 t199.length co31 : Value).ownBlock) ∧ some k_ ≠ (.slice Ao41 t214.length co41 : Value).ownBlock)))))) hkp (fun k_ hk_ hs_ => Or.elim hs_ (fun e_ => (hk_.1.2) e_) (fun e_ => Or.elim e_ (fun e_ => (hk_.2) e_) (fun e_ => (hk_.1.1.1.2) e_)))) (fun k_ hk_ => ⟨hk_.1.1.1.1.1.1.2,hk_.1.1.1.1.1.2,hk_.1.1.1.1.2,hk_.1.1.1.2⟩));have n11_ := Aside0.mk (hb);clear BK184;clear HO188;clear HO195;clear HO198;clear HO201;clear HO205;clear HO208;clear BK209;clear HO212;clear HO216;clear HO223;clear HB;clear HO192;clear HO220;have BK184 := n0_;have HO188 := n1_;have HO195 := n2_;have HO198 := n3_;have HO201 := n4_;have HO205 := n5_;have HO208 := n6_;have BK209 := n7_;have HO212 := n8_;have HO216 := n9_;have HO223 := n10_;have HB := n11_;clear n0_ n1_ n2_ n3_ n4_ n5_ n6_ n7_ n8_ n9_ n10_ n11_;(try clear hb);(try clear hkp);(try clear hy0);(try clear hy1);(try clear hy2)))
        (try simp only [Act.put,List.setIfInBounds_toArray,List.set_cons_zero,List.set_cons_succ])
        go_cut [46] (fun v46 wc => ∃ (kq : Nat) (x46_17 : Bool),v46 = .bool x46_17 ∧ Aside0 (laws_FnExactColumn.j0 kq a1 t196 t210 x46_17 l0_0 a0_1 l0_2 l0_3 = some r) ∧ Aside0 (kq ≤ k) ∧ Aside0 (Kd.R (Kd.int .i64) 3 wc w.heap.size (fun k_ => some k_ ≠ ((.slice Ao37 t210.length co37) : Value).ownBlock ∧ some k_ ≠ ((.slice Ao35 t206.length co35) : Value).ownBlock) (.slice Ao38 t196.length co38) t196) ∧ Aside0 (Kd.R (Kd.int .i64) 3 wc w.heap.size (fun k_ => some k_ ≠ ((.slice Ao38 t196.length co38) : Value).ownBlock ∧ some k_ ≠ ((.slice Ao35 t206.length co35) : Value).ownBlock) (.slice Ao37 t210.length co37) t210) ∧ Aside0 (Kd.R Kd.string 9 wc w.heap.size (fun _ => True) (.slice Ao31 t199.length co31) t226) ∧ Aside0 (Kd.S (Kd.slice 3 (Kd.int .i64)) 34 wc w.heap.size (fun k_ => some k_ ≠ ((.slice Ao38 t196.length co38) : Value).ownBlock ∧ some k_ ≠ ((.slice Ao37 t210.length co37) : Value).ownBlock ∧ some k_ ≠ ((.slice Ao35 t206.length co35) : Value).ownBlock) (.slice Ao34 t203.length co34) t227) ∧ Aside0 (Kd.R (Kd.int .i64) 3 wc w.heap.size (fun k_ => some k_ ≠ ((.slice Ao38 t196.length co38) : Value).ownBlock ∧ some k_ ≠ ((.slice Ao37 t210.length co37) : Value).ownBlock) (.slice Ao35 t206.length co35) t228) ∧ Aside0 (wc.heap[gb184]? = some (.cells #[(.slice A0_0 l0_0.length c0_0),.string a0_1,(.slice A0_2 l0_2.length c0_2),(.slice A0_3 l0_3.length c0_3)] 42 (0,0))) ∧ Aside0 (wc.heap[gb209]? = some (.cells #[(.slice Ao31 t199.length co31),.string t202,(.slice Ao34 t203.length co34),(.slice Ao35 t206.length co35)] 36 (0,0))) ∧ Aside0 (Below w.heap.size w wc))
        case first =>
          have H := HC18.out
          clear HC18
          by_cases c47 : t225 < 0
          · rw [if_pos c47] at H
            have c47b0 : decide (t225 < 0) = true := decide_eq_true c47
            clear c47
            (first | rw [c47b0] | (simp only [i64_w,i32_w];rw [c47b0]) | skip)
            exact absurd ((laws_FnExactColumn.j0_stop H).symm.trans HRT.out) (by decide)
          · rw [if_neg c47] at H
            have c47b0 : decide (t225 < 0) = false := decide_eq_false c47
            clear c47
            (first | rw [c47b0] | (simp only [i64_w,i32_w];rw [c47b0]) | skip)
            replace H := Option.bind_eq_some_iff.mp H
            obtain ⟨t229,A480,H⟩ := H
            replace H : (laws_FnExactColumn.j0 k a1 t196 t210 (!t229) l0_0 a0_1 l0_2 l0_3) = some r := H
            have A48 := Aside0.mk A480
            clear A480
            have H' := Aside0.mk H
            clear H
            go_wp2_with (first | (go_at_call 21;(with_reducible refine (laws_eqIntS.calls k _ _ t210 _ _ t196 t229 _ ?side1 ?side2 ?side3 ?side4 A48.out).mono ?_);(case side1 => repeat (first | exact (Kd.R_reads' HO212.out).2.2 | (with_reducible refine Kd.C_alloc ?_ _) | (with_reducible refine Kd.C_drewN ?_ _) | (with_reducible refine Kd.C_drew ?_)));(case side2 => exact (Kd.R_reads' HO212.out).2.1);(case side3 => repeat (first | exact (Kd.R_reads' HO198.out).2.2 | (with_reducible refine Kd.C_alloc ?_ _) | (with_reducible refine Kd.C_drewN ?_ _) | (with_reducible refine Kd.C_drew ?_)));(case side4 => exact (Kd.R_reads' HO198.out).2.1);rintro e w' ⟨rfl,⟨nd,rfl⟩⟩))
            go_meet
            case rel => exact ⟨_,(!t229),(by first | rfl | (simp;done) | (simp [*];done)),H',⟨by first | omega | exact Nat.le_refl _⟩,⟨by (with_reducible repeat (first | apply Kd.R_alloc | apply Kd.R_drewN | apply Kd.R_drew));exact Kd.R_mono HO198.out (fun _ hk => ⟨hk.2.2.1,hk.2.1⟩)⟩,⟨by (with_reducible repeat (first | apply Kd.R_alloc | apply Kd.R_drewN | apply Kd.R_drew));exact Kd.R_mono HO212.out (fun _ hk => ⟨hk.2.1,hk.2.2.1⟩)⟩,⟨by (with_reducible repeat (first | apply Kd.R_alloc | apply Kd.R_drewN | apply Kd.R_drew));exact Kd.R_mono HO201.out (fun _ hk => trivial)⟩,⟨by (with_reducible repeat (first | apply Kd.S_alloc | apply Kd.S_drewN | apply Kd.S_drew));exact Kd.S_mono HO205.out (fun _ hk => ⟨hk.1.1.1.1.1.1.1.2.2.1,⟨hk.1.1.1.1.1.1.1.2.2.2.2,hk.1.1.1.1.1.1.1.2.2.2.1⟩⟩)⟩,⟨by (with_reducible repeat (first | apply Kd.R_alloc | apply Kd.R_drewN | apply Kd.R_drew));exact Kd.R_mono HO208.out (fun _ hk => ⟨hk.1.2.1,hk.1.2.2⟩)⟩,⟨by refine bP ?_;exact BK184.out⟩,⟨by refine bP ?_;exact BK209.out⟩,⟨by repeat (first | (with_reducible first | exact HB.out | apply below_alloc | apply pw_below_drewN | apply below_drew1 | refine below_set ?_ GE184.out | refine below_set ?_ GE209.out) | exact HB.out)⟩⟩
        case rest =>
          clear HC18
          try clear c1
          try clear c2
          try clear p2
          try clear c3
          try clear c4
          try clear c4b0
          try clear c5
          try clear c13
          try clear c15
          try clear c16
          try clear c17
          try clear c19
          try clear c20
          try clear c21
          try clear c22
          try clear c23
          try clear c32
          try clear c47
          try clear c47b0
          try clear hcz20_0
          try clear hcz20_1
          try clear hcz20_2
          try clear hcz20_3
          try clear hcz22_0
          try clear hcz22_1
          try clear hcz22_2
          try clear hcz22_3
          try clear hcz28_0
          try clear hcz28_1
          try clear hcz28_2
          try clear hcz28_3
          try clear hcz33_0
          try clear hcz33_1
          try clear hcz33_2
          try clear hcz33_3
          try clear hcz45_0
          try clear hcz45_1
          try clear hcz45_2
          try clear hcz45_3
          try clear hcz6_0
          try clear hcz6_1
          try clear hcz6_2
          try clear hcz6_3
          try clear hfz20_0
          try clear hfz20_1
          try clear hfz20_2
          try clear hfz20_3
          try clear hfz22_0
          try clear hfz22_1
          try clear hfz22_2
          try clear hfz22_3
          try clear hfz28_0
          try clear hfz28_1
          try clear hfz28_2
          try clear hfz28_3
          try clear hfz33_0
          try clear hfz33_1
          try clear hfz33_2
          try clear hfz33_3
          try clear hfz45_0
          try clear hfz45_1
          try clear hfz45_2
          try clear hfz45_3
          try clear hfz6_0
          try clear hfz6_1
          try clear hfz6_2
          try clear hfz6_3
          obtain ⟨kq,x46_17,rfl,HA,HJ17,HO_6,HO_8,HO_210000,HO_210002,HO_210003,BK184,BK209,HB⟩ := hcut
          have hl210000_17 := (Kd.R_reads' HO_210000.out).1
          rw [hl210000_17] at HO_210000
          (try simp only [hl210000_17])
          (try simp only [hl210000_17] at BK184)
          (try simp only [hl210000_17] at BK209)
          (try simp only [hl210000_17] at HO_6)
          (try simp only [hl210000_17] at HO_8)
          (try simp only [hl210000_17] at HO_210002)
          (try simp only [hl210000_17] at HO_210003)
          have hl210002_17 := (Kd.S_reads' HO_210002.out).1
          rw [hl210002_17] at HO_210002
          (try simp only [hl210002_17])
          (try simp only [hl210002_17] at BK184)
          (try simp only [hl210002_17] at BK209)
          (try simp only [hl210002_17] at HO_6)
          (try simp only [hl210002_17] at HO_8)
          (try simp only [hl210002_17] at HO_210000)
          (try simp only [hl210002_17] at HO_210003)
          have hl210003_17 := (Kd.R_reads' HO_210003.out).1
          rw [hl210003_17] at HO_210003
          (try simp only [hl210003_17])
          (try simp only [hl210003_17] at BK184)
          (try simp only [hl210003_17] at BK209)
          (try simp only [hl210003_17] at HO_6)
          (try simp only [hl210003_17] at HO_8)
          (try simp only [hl210003_17] at HO_210000)
          (try simp only [hl210003_17] at HO_210002)
          cases kq with
          | zero => exact absurd HA.out (by simp [laws_FnExactColumn.j0])
          | succ kj17 =>
            have H := HA.out
            clear HA
            simp only [laws_FnExactColumn.j0] at H
            by_cases c49 : x46_17 = true
            · subst c49
              have H1 : (some false) = some r := by rw [if_pos rfl] at H;exact H
              clear H
              have H := H1
              clear H1
              exact absurd ((Option.some.inj H).trans HRT.out) (by decide)
            · replace c49 := Bool.eq_false_iff.mpr c49
              subst c49
              have H1 : ((laws_markIntS.f kj17 t210 1).bind fun bt230 => ((laws_heldIntS.f kj17 bt230.2 1).bind fun t232 => (if t232 < 0 then (some false) else (if t232 = bt230.1 then ((laws_toTable.f kj17 l0_0 a0_1 l0_2 l0_3).bind fun bt233 => ((impl_Column.f kj17 bt233.1 bt233.2.1 bt233.2.2.1 bt233.2.2.2 a1).bind fun t243 => ((laws_eqIntS.f kj17 t243 t196).bind fun t246 => (if t246 = true then ((laws_heldIntS.f kj17 bt230.2 1).bind fun t247 => (if t247 < 0 then (some false) else (if t247 = bt230.1 then (some true) else (some false)))) else (some false))))) else (some false))))) = some r := by rw [if_neg (show ¬ (false = true) by decide)] at H;exact H
              clear H
              have H := H1
              clear H1
              replace H := Option.bind_eq_some_iff.mp H
              obtain ⟨⟨t230,t231⟩,A500,H⟩ := H
              replace H : ((laws_heldIntS.f kj17 t231 1).bind fun t232 => (if t232 < 0 then (some false) else (if t232 = t230 then ((laws_toTable.f kj17 l0_0 a0_1 l0_2 l0_3).bind fun bt233 => ((impl_Column.f kj17 bt233.1 bt233.2.1 bt233.2.2.1 bt233.2.2.2 a1).bind fun t243 => ((laws_eqIntS.f kj17 t243 t196).bind fun t246 => (if t246 = true then ((laws_heldIntS.f kj17 t231 1).bind fun t247 => (if t247 < 0 then (some false) else (if t247 = t230 then (some true) else (some false)))) else (some false))))) else (some false)))) = some r := H
              have A50 := Aside0.mk A500
              clear A500
              replace H := Option.bind_eq_some_iff.mp H
              obtain ⟨t232,A510,H⟩ := H
              replace H : (if t232 < 0 then (some false) else (if t232 = t230 then ((laws_toTable.f kj17 l0_0 a0_1 l0_2 l0_3).bind fun bt233 => ((impl_Column.f kj17 bt233.1 bt233.2.1 bt233.2.2.1 bt233.2.2.2 a1).bind fun t243 => ((laws_eqIntS.f kj17 t243 t196).bind fun t246 => (if t246 = true then ((laws_heldIntS.f kj17 t231 1).bind fun t247 => (if t247 < 0 then (some false) else (if t247 = t230 then (some true) else (some false)))) else (some false))))) else (some false))) = some r := H
              have A51 := Aside0.mk A510
              clear A510
              by_cases c52 : t232 < 0
              · rw [if_pos c52] at H
                have c52b0 : decide (t232 < 0) = true := decide_eq_true c52
                clear c52
                exact absurd ((Option.some.inj H).trans HRT.out) (by decide)
              · rw [if_neg c52] at H
                have c52b0 : decide (t232 < 0) = false := decide_eq_false c52
                clear c52
                by_cases c53 : t232 = t230
                · rw [if_pos c53] at H
                  have c53b0 : (t232 == t230) = true := beq_iff_eq.mpr c53
                  have c53b1 : (t232 != t230) = false := bne_eq_false_iff_eq.mpr c53
                  clear c53
                  replace H := Option.bind_eq_some_iff.mp H
                  obtain ⟨⟨t233,t236,t237,t240⟩,A540,H⟩ := H
                  replace H : ((impl_Column.f kj17 t233 t236 t237 t240 a1).bind fun t243 => ((laws_eqIntS.f kj17 t243 t196).bind fun t246 => (if t246 = true then ((laws_heldIntS.f kj17 t231 1).bind fun t247 => (if t247 < 0 then (some false) else (if t247 = t230 then (some true) else (some false)))) else (some false)))) = some r := H
                  have A54 := Aside0.mk A540
                  clear A540
                  replace H := Option.bind_eq_some_iff.mp H
                  obtain ⟨t243,A550,H⟩ := H
                  replace H : ((laws_eqIntS.f kj17 t243 t196).bind fun t246 => (if t246 = true then ((laws_heldIntS.f kj17 t231 1).bind fun t247 => (if t247 < 0 then (some false) else (if t247 = t230 then (some true) else (some false)))) else (some false))) = some r := H
                  have A55 := Aside0.mk A550
                  clear A550
                  replace H := Option.bind_eq_some_iff.mp H
                  obtain ⟨t246,A560,H⟩ := H
                  replace H : (if t246 = true then ((laws_heldIntS.f kj17 t231 1).bind fun t247 => (if t247 < 0 then (some false) else (if t247 = t230 then (some true) else (some false)))) else (some false)) = some r := H
                  have A56 := Aside0.mk A560
                  clear A560
                  by_cases c57 : t246 = true
                  · subst c57
                    have H1 : ((laws_heldIntS.f kj17 t231 1).bind fun t247 => (if t247 < 0 then (some false) else (if t247 = t230 then (some true) else (some false)))) = some r := by rw [if_pos rfl] at H;exact H
                    clear H
                    have H := H1
                    clear H1
                    replace H := Option.bind_eq_some_iff.mp H
                    obtain ⟨t247,A580,H⟩ := H
                    replace H : (if t247 < 0 then (some false) else (if t247 = t230 then (some true) else (some false))) = some r := H
                    have A58 := Aside0.mk A580
                    clear A580
                    by_cases c59 : t247 < 0
                    · rw [if_pos c59] at H
                      have c59b0 : decide (t247 < 0) = true := decide_eq_true c59
                      clear c59
                      exact absurd ((Option.some.inj H).trans HRT.out) (by decide)
                    · rw [if_neg c59] at H
                      have c59b0 : decide (t247 < 0) = false := decide_eq_false c59
                      clear c59
                      by_cases c60 : t247 = t230
                      · rw [if_pos c60] at H
                        have c60b0 : (t247 == t230) = true := beq_iff_eq.mpr c60
                        have c60b1 : (t247 != t230) = false := bne_eq_false_iff_eq.mpr c60
                        clear c60
                        obtain rfl := Option.some.inj H
                        go_wp2_with (first | ((with_reducible refine gate_callee (f := 24) rfl ?_);refine goesL_ (some 49) rfl rfl Try.func24 (by kernel_rfl) rfl #[.slice Ao37 t210.length co37,.int .i64 1] rfl (by (try simp only [List.map_toArray,List.map_cons,List.map_nil]);first | done | rfl | (simp only [List.length_drop,List.length_take];rfl)) ?_;(with_reducible refine (laws_markIntS.calls kj17 (fun k_ => some k_ = (.slice Ao37 t210.length co37 : Value).ownBlock) (.slice Ao37 t210.length co37) t210 1 t230 t231 w _ ?side1 ?side2 A50.out).mono ?_);(case side1 => repeat (first | (with_reducible first | exact HB.out | apply below_alloc | apply pw_below_drewN | apply below_drew1 | refine below_set ?_ GE184.out | refine below_set ?_ GE209.out) | exact HB.out));(case side2 => exact Kd.R_tight rfl HO_8.out);rintro e w61 ⟨rfl,hy0,hb,hkp⟩;refine ⟨_,rfl,?_⟩;have n0_ := Aside0.mk (Kd.R_mono (ok' := fun k_ => some k_ ≠ (.slice Ao37 t210.length co37 : Value).ownBlock ∧ some k_ ≠ (.slice Ao35 t228.length co35 : Value).ownBlock) (Kd.R_keptB (HO_6.out) hkp (fun k_ hk_ hs_ => (hk_.1) hs_)) (fun k_ hk_ => ⟨hk_.1.1,hk_.1.2⟩));have n1_ := Aside0.mk (Kd.R_reok rfl hy0 (fun k_ e_ => HO_8.out.1 k_ e_));have n2_ := Aside0.mk (Kd.R_mono (ok' := fun k_ => True) (Kd.R_keptB ((Kd.R_apart' HO_210000.out (Kd.R_typed HO_8.out) (by decide))) hkp (fun k_ hk_ hs_ => (hk_.2) hs_)) (fun k_ hk_ => trivial));have n3_ := Aside0.mk (Kd.S_mono (ok' := fun k_ => some k_ ≠ (.slice Ao38 t196.length co38 : Value).ownBlock ∧ some k_ ≠ (.slice Ao37 t210.length co37 : Value).ownBlock ∧ some k_ ≠ (.slice Ao35 t228.length co35 : Value).ownBlock) (Kd.S_keptB (HO_210002.out) hkp (fun k_ hk_ hs_ => (hk_.2.1) hs_)) (fun k_ hk_ => ⟨hk_.1.1,hk_.1.2.1,hk_.1.2.2⟩));have n4_ := Aside0.mk (Kd.R_mono (ok' := fun k_ => some k_ ≠ (.slice Ao38 t196.length co38 : Value).ownBlock ∧ some k_ ≠ (.slice Ao37 t210.length co37 : Value).ownBlock) (Kd.R_keptB (HO_210003.out) hkp (fun k_ hk_ hs_ => (hk_.2) hs_)) (fun k_ hk_ => ⟨hk_.1.1,hk_.1.2⟩));have n5_ := Aside0.mk (blk_kept (by refine bP ?_;exact BK184.out) hkp (fun hs_ => (fun e_ => (Kd.R_ne HO_8.out BK184.out (by decide)) e_) hs_));have n6_ := Aside0.mk (blk_kept (by refine bP ?_;exact BK209.out) hkp (fun hs_ => (fun e_ => (Kd.R_ne HO_8.out BK209.out (by decide)) e_) hs_));have n7_ := Aside0.mk (hb);clear HO_6;clear HO_8;clear HO_210000;clear HO_210002;clear HO_210003;clear BK184;clear BK209;clear HB;have HO_6 := n0_;have HO_8 := n1_;have HO_210000 := n2_;have HO_210002 := n3_;have HO_210003 := n4_;have BK184 := n5_;have BK209 := n6_;have HB := n7_;clear n0_ n1_ n2_ n3_ n4_ n5_ n6_ n7_;(try clear hb);(try clear hkp);(try clear hy0)) | ((with_reducible refine gate_callee (f := 25) rfl ?_);refine goesL_ (some 52) rfl rfl Try.func25 (by kernel_rfl) rfl #[.slice Ao37 t231.length co37,.int .i64 1] rfl (by (try simp only [List.map_toArray,List.map_cons,List.map_nil]);first | done | (rw [show t231.length = t210.length from (Kd.R_reads' HO_8.out).1.symm] <;> rfl) | rfl | (simp only [List.length_drop,List.length_take];rfl)) ?_;(with_reducible refine (laws_heldIntS.calls kj17 _ _ t231 1 t232 _ ?side1 ?side2 A51.out).mono ?_);(case side1 => repeat (first | exact (Kd.R_reads' HO_8.out).2.2 | (with_reducible refine Kd.C_alloc ?_ _) | (with_reducible refine Kd.C_drewN ?_ _) | (with_reducible refine Kd.C_drew ?_)));(case side2 => rw [show t231.length = t210.length from (Kd.R_reads' HO_8.out).1.symm];exact (Kd.R_reads' HO_8.out).2.1);rintro e w' ⟨rfl,⟨nd,rfl⟩⟩;refine ⟨_,rfl,?_⟩;have hnb62 := NB184_209.out;have hnc62 := NB209_184.out;obtain ⟨hcz63_0,hcz63_1,hcz63_2,hcz63_3,hfz63_0,hfz63_1,hfz63_2,hfz63_3⟩ := laws_FnExactColumn.cells4 BK184.out) | ((with_reducible refine gate_callee (f := 20) rfl ?_);refine goesL_ (some 59) rfl rfl Try.func20 (by kernel_rfl) rfl #[.agg #[.slice A0_0 l0_0.length c0_0,.string a0_1,.slice A0_2 l0_2.length c0_2,.slice A0_3 l0_3.length c0_3]] rfl (by (try simp only [List.map_toArray,List.map_cons,List.map_nil]);first | done | rfl | (simp only [List.length_drop,List.length_take];rfl)) ?_;(with_reducible refine (laws_toTable.calls kj17 _ _ l0_0 a0_1 _ _ l0_2 _ _ l0_3 t233 t236 t237 t240 _ ?side1 ?side2 ?side3 ?side4 ?side5 ?side6 A54.out).mono ?_);(case side1 => repeat (first | exact (Kd.C_below HR0_0.out (by repeat (first | (with_reducible first | exact HB.out | apply below_alloc | apply pw_below_drewN | apply below_drew1 | refine below_set ?_ GE184.out | refine below_set ?_ GE209.out) | exact HB.out))) | (with_reducible refine Kd.C_alloc ?_ _) | (with_reducible refine Kd.C_drewN ?_ _) | (with_reducible refine Kd.C_drew ?_)));(case side2 => exact HC0_0.out);(case side3 => repeat (first | exact (Kd.C_below HR0_2.out (by repeat (first | (with_reducible first | exact HB.out | apply below_alloc | apply pw_below_drewN | apply below_drew1 | refine below_set ?_ GE184.out | refine below_set ?_ GE209.out) | exact HB.out))) | (with_reducible refine Kd.C_alloc ?_ _) | (with_reducible refine Kd.C_drewN ?_ _) | (with_reducible refine Kd.C_drew ?_)));(case side4 => exact HC0_2.out);(case side5 => repeat (first | exact (Kd.C_below HR0_3.out (by repeat (first | (with_reducible first | exact HB.out | apply below_alloc | apply pw_below_drewN | apply below_drew1 | refine below_set ?_ GE184.out | refine below_set ?_ GE209.out) | exact HB.out))) | (with_reducible refine Kd.C_alloc ?_ _) | (with_reducible refine Kd.C_drewN ?_ _) | (with_reducible refine Kd.C_drew ?_)));(case side6 => exact HC0_3.out);rintro e w64 ⟨v234,v238,v241,rfl,ho0,ho1,ho2,hb⟩;refine ⟨_,rfl,?_⟩;have n0_ := Aside0.mk (Kd.R_elder' (by (with_reducible repeat (first | apply Kd.R_alloc | apply Kd.R_drewN | apply Kd.R_drew));exact HO_6.out) (Kd.R_base ho2) hb);have n1_ := Aside0.mk (Kd.R_elder' (by (with_reducible repeat (first | apply Kd.R_alloc | apply Kd.R_drewN | apply Kd.R_drew));exact HO_8.out) (Kd.R_base ho2) hb);have n2_ := Aside0.mk (Kd.R_elder' (by (with_reducible repeat (first | apply Kd.R_alloc | apply Kd.R_drewN | apply Kd.R_drew));exact HO_210000.out) (Kd.R_base ho0) hb);have n3_ := Aside0.mk (Kd.S_mono (Kd.S_told (Kd.S_told (Kd.S_old (by (with_reducible repeat (first | apply Kd.S_alloc | apply Kd.S_drewN | apply Kd.S_drew));exact HO_210002.out) hb) (Kd.S_base ho1)) (Kd.R_base ho2)) (fun _ h_ => h_.1));have n4_ := Aside0.mk (Kd.R_elder' (by (with_reducible repeat (first | apply Kd.R_alloc | apply Kd.R_drewN | apply Kd.R_drew));exact HO_210003.out) (Kd.R_base ho2) hb);have n5_ := Aside0.mk (Kd.R_lower (Kd.R_new' ho0 (Kd.R_lt (by (with_reducible repeat (first | apply Kd.R_alloc | apply Kd.R_drewN | apply Kd.R_drew));exact HO_210000.out))) (below_size (by repeat (first | (with_reducible first | exact HB.out | apply below_alloc | apply pw_below_drewN | apply below_drew1 | refine below_set ?_ GE184.out | refine below_set ?_ GE209.out) | exact HB.out))));have n6_ := Aside0.mk (Kd.S_lower (Kd.S_new' (Kd.S_new' (Kd.S_new' (Kd.S_new' ho1 (Kd.R_lt (by (with_reducible repeat (first | apply Kd.R_alloc | apply Kd.R_drewN | apply Kd.R_drew));exact HO_6.out))) (Kd.R_lt (by (with_reducible repeat (first | apply Kd.R_alloc | apply Kd.R_drewN | apply Kd.R_drew));exact HO_8.out))) (Kd.S_lt (by (with_reducible repeat (first | apply Kd.S_alloc | apply Kd.S_drewN | apply Kd.S_drew));exact HO_210002.out))) (Kd.R_lt (by (with_reducible repeat (first | apply Kd.R_alloc | apply Kd.R_drewN | apply Kd.R_drew));exact HO_210003.out))) (below_size (by repeat (first | (with_reducible first | exact HB.out | apply below_alloc | apply pw_below_drewN | apply below_drew1 | refine below_set ?_ GE184.out | refine below_set ?_ GE209.out) | exact HB.out))));have n7_ := Aside0.mk (Kd.R_lower (Kd.R_new' (Kd.R_new' (Kd.R_new' ho2 (Kd.R_lt (by (with_reducible repeat (first | apply Kd.R_alloc | apply Kd.R_drewN | apply Kd.R_drew));exact HO_6.out))) (Kd.R_lt (by (with_reducible repeat (first | apply Kd.R_alloc | apply Kd.R_drewN | apply Kd.R_drew));exact HO_8.out))) (Kd.R_lt (by (with_reducible repeat (first | apply Kd.R_alloc | apply Kd.R_drewN | apply Kd.R_drew));exact HO_210003.out))) (below_size (by repeat (first | (with_reducible first | exact HB.out | apply below_alloc | apply pw_below_drewN | apply below_drew1 | refine below_set ?_ GE184.out | refine below_set ?_ GE209.out) | exact HB.out))));have n8_ := Aside0.mk (blk_below (g := gb184) (o := .cells #[.slice A0_0 l0_0.length c0_0,.string a0_1,.slice A0_2 l0_2.length c0_2,.slice A0_3 l0_3.length c0_3] 42 (0,0)) (by refine bP ?_;exact BK184.out) hb);have n9_ := Aside0.mk (blk_below (g := gb209) (o := .cells #[.slice Ao31 t226.length co31,.string t202,.slice Ao34 t227.length co34,.slice Ao35 t228.length co35] 36 (0,0)) (by refine bP ?_;exact BK209.out) hb);have n10_ := Aside0.mk (below_step (by repeat (first | (with_reducible first | exact HB.out | apply below_alloc | apply pw_below_drewN | apply below_drew1 | refine below_set ?_ GE184.out | refine below_set ?_ GE209.out) | exact HB.out)) hb);clear HO_6;clear HO_8;clear HO_210000;clear HO_210002;clear HO_210003;clear BK184;clear BK209;clear HB;have HO_6 := n0_;have HO_8 := n1_;have HO_210000 := n2_;have HO_210002 := n3_;have HO_210003 := n4_;have HO235 := n5_;have HO239 := n6_;have HO242 := n7_;have BK184 := n8_;have BK209 := n9_;have HB := n10_;clear n0_ n1_ n2_ n3_ n4_ n5_ n6_ n7_ n8_ n9_ n10_;(try clear hb);(try clear hb2);(try clear hk);(try clear hi);(try clear ho0);(try clear ho1);(try clear ho2);obtain ⟨Ao65,co65,eo65⟩ := Kd.R_slice HO235.out;subst eo65;obtain ⟨Ao66,co66,eo66⟩ := Kd.S_slice HO239.out;subst eo66;obtain ⟨Ao67,co67,eo67⟩ := Kd.R_slice HO242.out;subst eo67) | ((with_reducible refine gate_callee (f := 15) rfl ?_);refine goesL_ (some 61) rfl rfl Try.func15 (by kernel_rfl) rfl #[.agg #[.slice Ao65 t233.length co65,.string t236,.slice Ao66 t237.length co66,.slice Ao67 t240.length co67],.int .i64 a1] rfl (by (try simp only [List.map_toArray,List.map_cons,List.map_nil]);first | done | rfl | (simp only [List.length_drop,List.length_take];rfl)) ?_;(with_reducible refine (impl_Column.calls kj17 _ _ t233 t236 _ _ t237 _ _ t240 a1 t243 _ ?side1 ?side2 ?side3 ?side4 ?side5 ?side6 A55.out).mono ?_);(case side1 => repeat (first | exact (Kd.R_reads' HO235.out).2.2 | (with_reducible refine Kd.C_alloc ?_ _) | (with_reducible refine Kd.C_drewN ?_ _) | (with_reducible refine Kd.C_drew ?_)));(case side2 => exact (Kd.R_reads' HO235.out).2.1);(case side3 => repeat (first | exact (Kd.S_reads' HO239.out).2.2 | (with_reducible refine Kd.C_alloc ?_ _) | (with_reducible refine Kd.C_drewN ?_ _) | (with_reducible refine Kd.C_drew ?_)));(case side4 => exact (Kd.S_reads' HO239.out).2.1);(case side5 => repeat (first | exact (Kd.R_reads' HO242.out).2.2 | (with_reducible refine Kd.C_alloc ?_ _) | (with_reducible refine Kd.C_drewN ?_ _) | (with_reducible refine Kd.C_drew ?_)));(case side6 => exact (Kd.R_reads' HO242.out).2.1);rintro e w68 ⟨v244,rfl,ho0,hb⟩;refine ⟨_,rfl,?_⟩;have n0_ := Aside0.mk (Kd.R_elder' (by (with_reducible repeat (first | apply Kd.R_alloc | apply Kd.R_drewN | apply Kd.R_drew));exact HO_6.out) (Kd.R_base ho0) hb);have n1_ := Aside0.mk (Kd.R_elder' (by (with_reducible repeat (first | apply Kd.R_alloc | apply Kd.R_drewN | apply Kd.R_drew));exact HO_8.out) (Kd.R_base ho0) hb);have n2_ := Aside0.mk (Kd.R_below (by (with_reducible repeat (first | apply Kd.R_alloc | apply Kd.R_drewN | apply Kd.R_drew));exact HO_210000.out) hb);have n3_ := Aside0.mk (Kd.S_elder' (by (with_reducible repeat (first | apply Kd.S_alloc | apply Kd.S_drewN | apply Kd.S_drew));exact HO_210002.out) (Kd.R_base ho0) hb);have n4_ := Aside0.mk (Kd.R_elder' (by (with_reducible repeat (first | apply Kd.R_alloc | apply Kd.R_drewN | apply Kd.R_drew));exact HO_210003.out) (Kd.R_base ho0) hb);have n5_ := Aside0.mk (Kd.R_below (by (with_reducible repeat (first | apply Kd.R_alloc | apply Kd.R_drewN | apply Kd.R_drew));exact HO235.out) hb);have n6_ := Aside0.mk (Kd.S_elder' (by (with_reducible repeat (first | apply Kd.S_alloc | apply Kd.S_drewN | apply Kd.S_drew));exact HO239.out) (Kd.R_base ho0) hb);have n7_ := Aside0.mk (Kd.R_elder' (by (with_reducible repeat (first | apply Kd.R_alloc | apply Kd.R_drewN | apply Kd.R_drew));exact HO242.out) (Kd.R_base ho0) hb);have n8_ := Aside0.mk (Kd.R_lower (Kd.R_new' (Kd.R_new' (Kd.R_new' (Kd.R_new' ho0 (Kd.R_lt (by (with_reducible repeat (first | apply Kd.R_alloc | apply Kd.R_drewN | apply Kd.R_drew));exact HO_6.out))) (Kd.R_lt (by (with_reducible repeat (first | apply Kd.R_alloc | apply Kd.R_drewN | apply Kd.R_drew));exact HO_8.out))) (Kd.R_lt (by (with_reducible repeat (first | apply Kd.R_alloc | apply Kd.R_drewN | apply Kd.R_drew));exact HO_210003.out))) (Kd.R_lt (by (with_reducible repeat (first | apply Kd.R_alloc | apply Kd.R_drewN | apply Kd.R_drew));exact HO242.out))) (below_size (by repeat (first | (with_reducible first | exact HB.out | apply below_alloc | apply pw_below_drewN | apply below_drew1 | refine below_set ?_ GE184.out | refine below_set ?_ GE209.out) | exact HB.out))));have n9_ := Aside0.mk (blk_below (g := gb184) (o := .cells #[.slice A0_0 l0_0.length c0_0,.string a0_1,.slice A0_2 l0_2.length c0_2,.slice A0_3 l0_3.length c0_3] 42 (0,0)) (by refine bP ?_;exact BK184.out) hb);have n10_ := Aside0.mk (blk_below (g := gb209) (o := .cells #[.slice Ao31 t226.length co31,.string t202,.slice Ao34 t227.length co34,.slice Ao35 t228.length co35] 36 (0,0)) (by refine bP ?_;exact BK209.out) hb);have n11_ := Aside0.mk (below_step (by repeat (first | (with_reducible first | exact HB.out | apply below_alloc | apply pw_below_drewN | apply below_drew1 | refine below_set ?_ GE184.out | refine below_set ?_ GE209.out) | exact HB.out)) hb);clear HO_6;clear HO_8;clear HO_210000;clear HO_210002;clear HO_210003;clear HO235;clear HO239;clear HO242;clear BK184;clear BK209;clear HB;have HO_6 := n0_;have HO_8 := n1_;have HO_210000 := n2_;have HO_210002 := n3_;have HO_210003 := n4_;have HO235 := n5_;have HO239 := n6_;have HO242 := n7_;have HO245 := n8_;have BK184 := n9_;have BK209 := n10_;have HB := n11_;clear n0_ n1_ n2_ n3_ n4_ n5_ n6_ n7_ n8_ n9_ n10_ n11_;(try clear hb);(try clear hb2);(try clear hk);(try clear hi);(try clear ho0);obtain ⟨Ao69,co69,eo69⟩ := Kd.R_slice HO245.out;subst eo69) | ((with_reducible refine gate_callee (f := 21) rfl ?_);refine goesL_ (some 64) rfl rfl Try.func21 (by kernel_rfl) rfl #[.slice Ao69 t243.length co69,.slice Ao38 t196.length co38] rfl (by (try simp only [List.map_toArray,List.map_cons,List.map_nil]);first | done | rfl | (simp only [List.length_drop,List.length_take];rfl)) ?_;(with_reducible refine (laws_eqIntS.calls kj17 _ _ t243 _ _ t196 true _ ?side1 ?side2 ?side3 ?side4 A56.out).mono ?_);(case side1 => repeat (first | exact (Kd.R_reads' HO245.out).2.2 | (with_reducible refine Kd.C_alloc ?_ _) | (with_reducible refine Kd.C_drewN ?_ _) | (with_reducible refine Kd.C_drew ?_)));(case side2 => exact (Kd.R_reads' HO245.out).2.1);(case side3 => repeat (first | exact (Kd.R_reads' HO_6.out).2.2 | (with_reducible refine Kd.C_alloc ?_ _) | (with_reducible refine Kd.C_drewN ?_ _) | (with_reducible refine Kd.C_drew ?_)));(case side4 => exact (Kd.R_reads' HO_6.out).2.1);rintro e w' ⟨rfl,⟨nd,rfl⟩⟩;refine ⟨_,rfl,?_⟩) | ((with_reducible refine gate_callee (f := 25) rfl ?_);refine goesL_ (some 68) rfl rfl Try.func25 (by kernel_rfl) rfl #[.slice Ao37 t231.length co37,.int .i64 1] rfl (by (try simp only [List.map_toArray,List.map_cons,List.map_nil]);first | done | (rw [show t231.length = t210.length from (Kd.R_reads' HO_8.out).1.symm] <;> rfl) | rfl | (simp only [List.length_drop,List.length_take];rfl)) ?_;(with_reducible refine (laws_heldIntS.calls kj17 _ _ t231 1 t247 _ ?side1 ?side2 A58.out).mono ?_);(case side1 => repeat (first | exact (Kd.R_reads' HO_8.out).2.2 | (with_reducible refine Kd.C_alloc ?_ _) | (with_reducible refine Kd.C_drewN ?_ _) | (with_reducible refine Kd.C_drew ?_)));(case side2 => rw [show t231.length = t210.length from (Kd.R_reads' HO_8.out).1.symm];exact (Kd.R_reads' HO_8.out).2.1);rintro e w' ⟨rfl,⟨nd,rfl⟩⟩;refine ⟨_,rfl,?_⟩))
                        go_ret
                        exact ⟨by first | rfl | (simp [errW_none,errW_some] <;> rfl) | (simp [*,errW_none,errW_some] <;> rfl),by repeat (first | (with_reducible first | exact HB.out | apply below_alloc | apply pw_below_drewN | apply below_drew1 | refine below_set ?_ GE184.out | refine below_set ?_ GE209.out) | exact HB.out)⟩
                      · rw [if_neg c60] at H
                        have c60b0 : (t247 == t230) = false := beq_eq_false_iff_ne.mpr c60
                        have c60b1 : (t247 != t230) = true := bne_iff_ne.mpr c60
                        exact absurd ((Option.some.inj H).trans HRT.out) (by decide)
                  · replace c57 := Bool.eq_false_iff.mpr c57
                    subst c57
                    have H1 : (some false) = some r := by rw [if_neg (show ¬ (false = true) by decide)] at H;exact H
                    clear H
                    have H := H1
                    clear H1
                    exact absurd ((Option.some.inj H).trans HRT.out) (by decide)
                · rw [if_neg c53] at H
                  have c53b0 : (t232 == t230) = false := beq_eq_false_iff_ne.mpr c53
                  have c53b1 : (t232 != t230) = true := bne_iff_ne.mpr c53
                  exact absurd ((Option.some.inj H).trans HRT.out) (by decide)
      · replace c16 := Bool.eq_false_iff.mpr c16
        subst c16
        have H1 : (some false) = some r := by rw [if_neg (show ¬ (false = true) by decide)] at H;exact H
        clear H
        have H := H1
        clear H1
        exact absurd ((Option.some.inj H).trans HRT.out) (by decide)
    · replace c13 := Bool.eq_false_iff.mpr c13
      subst c13
      have H1 : (some false) = some r := by rw [if_neg (show ¬ (false = true) by decide)] at H;exact H
      clear H
      have H := H1
      clear H1
      exact absurd ((Option.some.inj H).trans HRT.out) (by decide)

end Go.Proofs.Ytiacoiiapmfaeaa.QFnExactColumn
