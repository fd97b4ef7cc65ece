/- The machine side of FnConfigLines: what each Go function that it reaches comes to. Conditions: none. -/
import Derived.Test.YtepnbcdbagjmbadGreatDoorQFnConfigLinesx0
namespace Go.Proofs.YtepnbcdbagjmbadGreatDoor.QFnConfigLines
open Go.RowKit Go.Proofs.YtepnbcdbagjmbadGreatDoorW.PrintWords Go.Proofs.YtepnbcdbagjmbadGreatDoorW.PrintLast Go.Proofs.YtepnbcdbagjmbadGreatDoorW.PrintMore
attribute [local go_sem] max2_int min2_int max_two min_two max_three min_three max_four min_four   -- for this text's walks alone
set_option linter.unusedVariables false
set_option linter.unusedSimpArgs false

/-! ### spec_Joined: function 10 -/
def spec_Joined.l0 : Nat → List ByteArray → ByteArray → List Int → Int → Option (ByteArray)
 | 0,_,_,_,_ => none
 | k + 1,x0,x1,x5,x6 => if x6 < (x0.length : Int) then (if x6 > 0 then (if x5.length + x1.size < 140737488355328 then ((some (x5 ++ bytesOf x1 : List Int)).bind fun y287 => (if 0 ≤ x6 then (if y287.length + (rdOf ByteArray.empty x0 x6).size < 140737488355328 then (spec_Joined.l0 k x0 x1 (y287 ++ bytesOf (rdOf ByteArray.empty x0 x6)) (wrap64 (x6 + 1))) else (none)) else (none))) else (none)) else (if 0 ≤ x6 then (if x5.length + (rdOf ByteArray.empty x0 x6).size < 140737488355328 then (spec_Joined.l0 k x0 x1 (x5 ++ bytesOf (rdOf ByteArray.empty x0 x6)) (wrap64 (x6 + 1))) else (none)) else (none))) else (some (strOfNums x5))
def spec_Joined.f (k : Nat) (l0 : List ByteArray) (a1 : ByteArray) : Option (ByteArray) := spec_Joined.l0 k l0 a1 (([] : List Int)) 0
theorem spec_Joined.mono_l : ∀ k,(∀ y0 y1 y2 y3,LeO (spec_Joined.l0 k y0 y1 y2 y3) (spec_Joined.l0 (k + 1) y0 y1 y2 y3))
 | 0 => fun _ _ _ _ r h => by simp [spec_Joined.l0] at h
 | k + 1 => by
  have ih0 := spec_Joined.mono_l k
  ·intro y0 y1 y2 y3
   unfold spec_Joined.l0
   repeat' first
   | (with_reducible exact ih0 _ _ _ _)
   | (with_reducible exact LeO.refl _)
   | (with_reducible exact LeO.none _)
   | (with_reducible refine LeO.ite ?_ ?_)
   | (with_reducible refine LeO.bind ?_ (fun _ => ?_))
   | exact ih0 _ _ _ _
   | exact LeO.none _
   | refine LeO.ite ?_ ?_
   | refine LeO.bind ?_ (fun _ => ?_)
theorem spec_Joined.mono : ∀ a0 a1 k,LeO (spec_Joined.f k a0 a1) (spec_Joined.f (k + 1) a0 a1) := by
 intro a0 a1 k
 have ih0 := spec_Joined.mono_l k
 unfold spec_Joined.f
 repeat' first
   | (with_reducible exact ih0 _ _ _ _)
   | (with_reducible exact LeO.refl _)
   | (with_reducible exact LeO.none _)
   | (with_reducible refine LeO.ite ?_ ?_)
   | (with_reducible refine LeO.bind ?_ (fun _ => ?_))
   | exact ih0 _ _ _ _
   | exact LeO.none _
   | refine LeO.ite ?_ ?_
   | refine LeO.bind ?_ (fun _ => ?_)
set_option maxHeartbeats 8000000 in
set_option maxRecDepth 100000 in
theorem spec_Joined.calls (k : Nat) (A0 : Option Addr) (c0 : Nat) (l0 : List ByteArray) (a1 : ByteArray) (r : ByteArray) (w : World) (hr0 : Kd.C Kd.string w A0 l0.length l0) (hc0 : l0.length ≤ c0) (h : spec_Joined.f k l0 a1 = some r) :
  Calls Tryz.prog 10 #[.slice A0 l0.length c0,.string a1] w fun e w' => e = .returned (.string r) ∧ Below w.heap.size w w' := by
 have HR0 := Aside0.mk hr0
 have HC0 := Aside0.mk hc0
 clear hr0 hc0
 have HB := Aside0.mk (Below.refl w.heap.size w)
 have H := h
 clear h
 unfold spec_Joined.f at H
 obtain ⟨y284,hyy⟩ : ∃ y_ : List Int,y_ = (([] : List Int)) := ⟨_,rfl⟩
 replace H : (spec_Joined.l0 k l0 a1 y284 0) = some r := zR
 have Ny284 := Aside0.mk hyy
 clear hyy
 have H' := Aside0.mk H
 clear H
 go_enter Tryz.func10,Tryz.ntmps10
 go_wp2_with (first | ((with_reducible refine gate_dst (N := 7) rfl ?_);refine Kd.R_lit (Kd.int .u8) _ 5 ?hg (N := 7) ?hd (xs := ([] : List Int)) (inner := []) (ok := fun _ => True) (okp := fun _ => True) ?hr ?hp (fun _ hk => hk) trivial (Below.refl _ _) (Nat.le_refl _) Z164 ?_;(case hd => rfl);(case hg => rfl);(case hr => exact Z101);(case hp => exact Z112);intro v285 w3 ho4 hb hg_ hnew_;clear hg_ hnew_;(first | rw [← Ny284.out] at ho4 | (simp only [Int.reduceToNat] at ho4;rw [← Ny284.out] at ho4));have n_ := Z30;clear HB;obtain ⟨HO286,HB⟩ := n_;clear hb ho4))
 go_loopg [5,6] k (fun kq v5 v6 w' => ∃ (x5_1 : List Int) (x6_1 : Int),v6 = .int .i64 x6_1 ∧ Aside0 (spec_Joined.l0 kq l0 a1 x5_1 x6_1 = some r) ∧ Aside0 (kq ≤ k) ∧ Aside0 (Kd.R (Kd.int .u8) 5 w' w.heap.size (fun _ => True) v5 x5_1) ∧ Aside0 (Below w.heap.size w w'))
 case atStart => exact ⟨(y284),(0),Z100,H',⟨Nat.le_refl _⟩,⟨by (with_reducible repeat (first | apply Kd.R_alloc | apply Kd.R_drewN | apply Kd.R_drew));exact HO286.out⟩,⟨Z169⟩⟩
 case round =>
  clear H'
  try clear c1
  try clear p2
  obtain ⟨x5_1,x6_1,rfl,HA,HK1,HO_5,HB⟩ := hrel
  cases gk with
  | zero => exact absurd HA.out (by simp [spec_Joined.l0])
  | succ k1 =>
   have H := HA.out
   clear HA
   simp only [spec_Joined.l0] at H
   by_cases c5 : x6_1 < (l0.length : Int)
   rotate_left
   ·rw [if_neg c5] at H
    have c5b0 : decide (x6_1 < (l0.length : Int)) = false := decide_eq_false c5
    clear c5
    obtain rfl := Option.some.inj H
    have hcv15 := own_string (P := Tryz.prog) Tryz.underlying22 Tryz.underlying5 Tryz.underlying9 (Kd.own_of_R HO_5.out)
    go_wp2
    go_ret
    exact ⟨Z92,Z169⟩
   rw [if_pos c5] at H
   have c5b0 : decide (x6_1 < (l0.length : Int)) = true := decide_eq_true c5
   clear c5
   by_cases c6 : x6_1 > 0
   rotate_left
   ·rw [if_neg c6] at H
    have c6b0 : decide (0 < x6_1) = false := decide_eq_false c6
    clear c6
    obtain ⟨c12,H⟩ := ifp H
    have c12b0 : decide (0 ≤ x6_1) = true := decide_eq_true c12
    clear c12
    obtain ⟨c13,H⟩ := ifp H
    have LMc13 := Aside0.mk c13
    clear c13
    obtain ⟨y295,hyy⟩ : ∃ y_ : List Int,y_ = (x5_1 ++ bytesOf (rdOf ByteArray.empty l0 x6_1)) := ⟨_,rfl⟩
    replace H : (spec_Joined.l0 k1 l0 a1 y295 (wrap64 (x6_1 + 1))) = some r := zR
    have Ny295 := Aside0.mk hyy
    clear hyy
    have H' := Aside0.mk H
    clear H
    have p294 : 0 ≤ (x6_1 : Int) := of_decide_eq_true Z99
    have q294 : x6_1 < (l0.length : Int) := of_decide_eq_true Z99
    obtain ⟨ad294,e294,hx294_0⟩ := Kd.at_string HR0.out x6_1 p294 q294
    cases e294
    replace hx294_0 := (HB.out.cell (World.block_lt_of_cell? w _ hx294_0)).trans hx294_0
    replace p294 := eq_true p294
    replace q294 := eq_true q294
    go_wp2_with (first | (at_builtin;refine print_append_str (w0 := w) w.heap.size rfl (.tmp 19) _ 22 9 5 rfl Tryz.underlying22 Tryz.underlying9 info5 u5 x5_1 (rdOf ByteArray.empty l0 x6_1) rfl rfl ?aO ?aB ?aS ?aL ?_;(case aB => exact Z72);(case aO => exact Z76);(case aS => exact Z69);(case aL => have := LMc13.out;omega);intro v296 w14 ho0 hb hg;have ho := Kd.R_of_own (h1 := fun _ => rfl) (ok := fun _ => True) ho0 (fun _ _ => trivial);clear ho0;have hat := True.intro;rw [← Ny295.out] at ho;change Kd.R (Kd.int .u8) 5 w14 w.heap.size (fun _ => True) v296 y295 at ho;have n_ := jA (hb) (Aside0.mk (ho));clear HB HO_5;obtain ⟨HB,HO297⟩ := n_;clear ho hb hg hat))
    go_roundg k1
    case measure => have := HK1.out;omega
    case rel => exact ⟨(y295),(wrap64 (x6_1 + 1)),Z100,H',⟨Z111⟩,⟨by (with_reducible repeat (first | apply Kd.R_alloc | apply Kd.R_drewN | apply Kd.R_drew));exact HO297.out⟩,⟨Z169⟩⟩
   rw [if_pos c6] at H
   have c6b0 : decide (0 < x6_1) = true := decide_eq_true c6
   clear c6
   obtain ⟨c7,H⟩ := ifp H
   have LMc7 := Aside0.mk c7
   clear c7
   obtain ⟨y287,hyy⟩ : ∃ y_ : List Int,y_ = (x5_1 ++ bytesOf a1) := ⟨_,rfl⟩
   replace H : (if 0 ≤ x6_1 then (if y287.length + (rdOf ByteArray.empty l0 x6_1).size < 140737488355328 then (spec_Joined.l0 k1 l0 a1 (y287 ++ bytesOf (rdOf ByteArray.empty l0 x6_1)) (wrap64 (x6_1 + 1))) else (none)) else (none)) = some r := zR
   have Ny287 := Aside0.mk hyy
   clear hyy
   obtain ⟨c8,H⟩ := ifp H
   have c8b0 : decide (0 ≤ x6_1) = true := decide_eq_true c8
   clear c8
   obtain ⟨c9,H⟩ := ifp H
   have LMc9 := Aside0.mk c9
   clear c9
   obtain ⟨y291,hyy⟩ : ∃ y_ : List Int,y_ = (y287 ++ bytesOf (rdOf ByteArray.empty l0 x6_1)) := ⟨_,rfl⟩
   replace H : (spec_Joined.l0 k1 l0 a1 y291 (wrap64 (x6_1 + 1))) = some r := zR
   have Ny291 := Aside0.mk hyy
   clear hyy
   have H' := Aside0.mk H
   clear H
   go_wp2_with (first | (at_builtin;refine print_append_str (w0 := w) w.heap.size rfl (.tmp 16) _ 22 9 5 rfl Tryz.underlying22 Tryz.underlying9 info5 u5 x5_1 a1 rfl rfl ?aO ?aB ?aS ?aL ?_;(case aB => exact Z72);(case aO => exact Z76);(case aS => exact Z69);(case aL => have := LMc7.out;omega);intro v288 w10 ho0 hb hg;have ho := Kd.R_of_own (h1 := fun _ => rfl) (ok := fun _ => True) ho0 (fun _ _ => trivial);clear ho0;have hat := True.intro;rw [← Ny287.out] at ho;change Kd.R (Kd.int .u8) 5 w10 w.heap.size (fun _ => True) v288 y287 at ho;have n_ := jA (hb) (Aside0.mk (ho));clear HB HO_5;obtain ⟨HB,HO289⟩ := n_;clear ho hb hg hat;have p290 : 0 ≤ (x6_1 : Int) := of_decide_eq_true Z99;have q290 : x6_1 < (l0.length : Int) := of_decide_eq_true Z99;obtain ⟨ad290,e290,hx290_0⟩ := Kd.at_string HR0.out x6_1 p290 q290;cases e290;replace hx290_0 := (HB.out.cell (World.block_lt_of_cell? w _ hx290_0)).trans hx290_0;replace p290 := eq_true p290;replace q290 := eq_true q290) | (at_builtin;refine print_append_str (w0 := w) w.heap.size rfl (.tmp 19) _ 22 9 5 rfl Tryz.underlying22 Tryz.underlying9 info5 v288 y287 (rdOf ByteArray.empty l0 x6_1) rfl rfl ?aO ?aB ?aS ?aL ?_;(case aB => exact Z72);(case aO => exact (Kd.own_of_R (by (with_reducible repeat (first | apply Kd.R_alloc | apply Kd.R_drewN | apply Kd.R_drew));exact HO289.out)));(case aS => exact Z69);(case aL => have := LMc9.out;omega);intro v292 w11 ho0 hb hg;have ho := Kd.R_of_own (h1 := fun _ => rfl) (ok := fun _ => True) ho0 (fun _ _ => trivial);clear ho0;have hat := True.intro;rw [← Ny291.out] at ho;change Kd.R (Kd.int .u8) 5 w11 w.heap.size (fun _ => True) v292 y291 at ho;have n_ := jA (hb) (Aside0.mk (ho));clear HB HO289;obtain ⟨HB,HO293⟩ := n_;clear ho hb hg hat))
   go_roundg k1
   case measure => have := HK1.out;omega
   case rel => exact ⟨(y291),(wrap64 (x6_1 + 1)),Z100,H',⟨Z111⟩,⟨by (with_reducible repeat (first | apply Kd.R_alloc | apply Kd.R_drewN | apply Kd.R_drew));exact HO293.out⟩,⟨Z169⟩⟩

/-! ### spec_l8Numbers: function 19 -/
def spec_l8Numbers.f (a0_0 : Int) (a0_1 : Int) (a0_2 : Int) (a0_3 : Int) (a0_4 : Int) (a0_5 : Int) (a0_6 : Int) (l0_7 : List Int) : Option (List Int) := some (([a0_0,a0_1,a0_2,a0_3,a0_4] : List Int))
set_option maxHeartbeats 8000000 in
set_option maxRecDepth 100000 in
theorem spec_l8Numbers.calls (a0_0 : Int) (a0_1 : Int) (a0_2 : Int) (a0_3 : Int) (a0_4 : Int) (a0_5 : Int) (a0_6 : Int) (A0_7 : Option Addr) (c0_7 : Nat) (l0_7 : List Int) (r : List Int) (w : World) (hr0_7 : Kd.C (Kd.int .i64) w A0_7 l0_7.length l0_7) (hc0_7 : l0_7.length ≤ c0_7) (h : spec_l8Numbers.f a0_0 a0_1 a0_2 a0_3 a0_4 a0_5 a0_6 l0_7 = some r) :
  Calls Tryz.prog 19 #[.agg #[.int .i64 a0_0,.int .i64 a0_1,.int .i64 a0_2,.int .i64 a0_3,.int .i64 a0_4,.int .i64 a0_5,.int .i64 a0_6,.slice A0_7 l0_7.length c0_7]] w fun e w' => ∃ v0_ : Value,e = .returned (v0_) ∧ Kd.R (Kd.int .i64) 3 w' w.heap.size (fun _ => True) v0_ r ∧ Below w.heap.size w w' := by
 have hu26 := Tryz.underlying26
 have HR0_7 := Aside0.mk hr0_7
 have HC0_7 := Aside0.mk hc0_7
 clear hr0_7 hc0_7
 have HB := Aside0.mk (Below.refl w.heap.size w)
 have H := h
 clear h
 unfold spec_l8Numbers.f at H
 obtain ⟨y299,hyy⟩ : ∃ y_ : List Int,y_ = (([a0_0,a0_1,a0_2,a0_3,a0_4] : List Int)) := ⟨_,rfl⟩
 replace H : (some y299) = some r := zR
 have Ny299 := Aside0.mk hyy
 clear hyy
 obtain rfl := Option.some.inj H
 go_enter Tryz.func19,Tryz.ntmps19
 go_wp2_with (first | ((with_reducible refine gate_dst (N := 1) rfl ?_);refine bE 1 #[.int .i64 a0_0,.int .i64 a0_1,.int .i64 a0_2,.int .i64 a0_3,.int .i64 a0_4,.int .i64 a0_5,.int .i64 a0_6,.slice A0_7 l0_7.length c0_7] 26 (h := ?_);intro gb298 hg wq1 hbox hb;have n_ := jA (below_step Z169 hb) (jA (hbox) (jA ((Z138 : w.heap.size ≤ gb298)) (Aside0.mk ((Z138 : w.heap.size ≤ gb298)))));clear HB;obtain ⟨HB,BK298,GW298,GE298⟩ := n_;clear hb hbox hg;obtain ⟨hczq2_0,hczq2_1,hczq2_2,hczq2_3,hczq2_4,hczq2_5,hczq2_6,hczq2_7,hfzq2_0,hfzq2_1,hfzq2_2,hfzq2_3,hfzq2_4,hfzq2_5,hfzq2_6,hfzq2_7⟩ := cells8 BK298.out) | ((with_reducible refine gate_dst (N := 13) rfl ?_);refine Kd.R_lit (Kd.int .i64) _ 3 ?hg (N := 13) ?hd (xs := ([a0_0,a0_1,a0_2,a0_3,a0_4] : List Int)) (inner := [.int .i64 a0_0,.int .i64 a0_1,.int .i64 a0_2,.int .i64 a0_3,.int .i64 a0_4]) (ok := fun _ => True) (okp := fun _ => True) ?hr ?hp (fun _ hk => hk) trivial (Below.refl _ _) (Nat.le_refl _) Z164 ?_;(case hd => rfl);(case hg => rfl);(case hr => exact Z101);(case hp => exact (Reps.one (show Kd.M (Kd.int .i64) _ _ _ a0_0 [.int .i64 a0_0] from rfl) (Reps.one (show Kd.M (Kd.int .i64) _ _ _ a0_1 [.int .i64 a0_1] from rfl) (Reps.one (show Kd.M (Kd.int .i64) _ _ _ a0_2 [.int .i64 a0_2] from rfl) (Reps.one (show Kd.M (Kd.int .i64) _ _ _ a0_3 [.int .i64 a0_3] from rfl) (Reps.one (show Kd.M (Kd.int .i64) _ _ _ a0_4 [.int .i64 a0_4] from rfl) (Reps.none _ _)))))));intro vq3 wq4 hoq5 hb hg_ hnew_;clear hg_ hnew_;(first | rw [← Ny299.out] at hoq5 | (simp only [Int.reduceToNat] at hoq5;rw [← Ny299.out] at hoq5));have n_ := jA (Kd.R_lower hoq5 (below_size Z67)) (jA (blk_below (g := gb298) (o := .cells #[.int .i64 a0_0,.int .i64 a0_1,.int .i64 a0_2,.int .i64 a0_3,.int .i64 a0_4,.int .i64 a0_5,.int .i64 a0_6,.slice A0_7 l0_7.length c0_7] 26 (0,0)) (by refine bP ?_;exact BK298.out) hb) (Aside0.mk (below_step Z67 hb)));clear BK298 HB;obtain ⟨HO301,BK298,HB⟩ := n_;clear hb hoq5))
 go_ret
 exact ⟨_,Z92,by (with_reducible repeat (first | apply Kd.R_alloc | apply Kd.R_drewN | apply Kd.R_drew));exact HO301.out,Z67⟩

/-! ### spec_l1In: function 37 -/
def spec_l1In.f (a0 : Int) (a1 : Int) (a2 : Int) : Option (Bool) := if a0 ≥ a1 then (some (decide (a0 ≤ a2))) else (some false)
set_option maxHeartbeats 8000000 in
set_option maxRecDepth 100000 in
theorem spec_l1In.calls (a0 : Int) (a1 : Int) (a2 : Int) (r : Bool) (w : World) (h : spec_l1In.f a0 a1 a2 = some r) :
  Calls Tryz.prog 37 #[.int .i64 a0,.int .i64 a1,.int .i64 a2] w fun e w' => e = .returned (.bool r) ∧ Drawn0 w w' := by
 have H := h
 clear h
 unfold spec_l1In.f at H
 by_cases c4 : a0 ≥ a1
 ·rw [if_pos c4] at H
  have c4b0 : decide (a1 ≤ a0) = true := decide_eq_true c4
  clear c4
  obtain rfl := Option.some.inj H
  go_enter Tryz.func37,Tryz.ntmps37
  go_wp2
  go_ret
  exact ⟨Z100,Z94⟩
 rw [if_neg c4] at H
 have c4b0 : decide (a1 ≤ a0) = false := decide_eq_false c4
 clear c4
 obtain rfl := Option.some.inj H
 go_enter Tryz.func37,Tryz.ntmps37
 go_wp2
 go_ret
 exact ⟨Z100,Z94⟩

/-! ### spec_l8Least: function 38 -/
def spec_l8Least.f  : Option (List Int) := some (([1,0,2,1,1] : List Int))
set_option maxHeartbeats 8000000 in
set_option maxRecDepth 100000 in
theorem spec_l8Least.calls  (r : List Int) (w : World) (h : spec_l8Least.f  = some r) :
  Calls Tryz.prog 38 #[] w fun e w' => ∃ v0_ : Value,e = .returned (v0_) ∧ Kd.R (Kd.int .i64) 3 w' w.heap.size (fun _ => True) v0_ r ∧ Below w.heap.size w w' := by
 have HB := Aside0.mk (Below.refl w.heap.size w)
 have H := h
 clear h
 unfold spec_l8Least.f at H
 obtain ⟨y302,hyy⟩ : ∃ y_ : List Int,y_ = (([1,0,2,1,1] : List Int)) := ⟨_,rfl⟩
 replace H : (some y302) = some r := zR
 have Ny302 := Aside0.mk hyy
 clear hyy
 obtain rfl := Option.some.inj H
 go_enter Tryz.func38,Tryz.ntmps38
 go_wp2_with (first | ((with_reducible refine gate_dst (N := 1) rfl ?_);refine Kd.R_lit (Kd.int .i64) _ 3 ?hg (N := 1) ?hd (xs := ([1,0,2,1,1] : List Int)) (inner := [.int .i64 1,.int .i64 0,.int .i64 2,.int .i64 1,.int .i64 1]) (ok := fun _ => True) (okp := fun _ => True) ?hr ?hp (fun _ hk => hk) trivial (Below.refl _ _) (Nat.le_refl _) Z164 ?_;(case hd => rfl);(case hg => rfl);(case hr => exact Z101);(case hp => exact (Reps.one (show Kd.M (Kd.int .i64) _ _ _ 1 [.int .i64 1] from rfl) (Reps.one (show Kd.M (Kd.int .i64) _ _ _ 0 [.int .i64 0] from rfl) (Reps.one (show Kd.M (Kd.int .i64) _ _ _ 2 [.int .i64 2] from rfl) (Reps.one (show Kd.M (Kd.int .i64) _ _ _ 1 [.int .i64 1] from rfl) (Reps.one (show Kd.M (Kd.int .i64) _ _ _ 1 [.int .i64 1] from rfl) (Reps.none _ _)))))));intro vq1 wq2 hoq3 hb hg_ hnew_;clear hg_ hnew_;(first | rw [← Ny302.out] at hoq3 | (simp only [Int.reduceToNat] at hoq3;rw [← Ny302.out] at hoq3));have n_ := Z29;clear HB;obtain ⟨HO304,HB⟩ := n_;clear hb hoq3))
 go_ret
 exact ⟨_,Z92,by (with_reducible repeat (first | apply Kd.R_alloc | apply Kd.R_drewN | apply Kd.R_drew));exact HO304.out,Z169⟩

/-! ### spec_l8Most: function 39 -/
def spec_l8Most.f  : Option (List Int) := some (([8,4,8,100,20] : List Int))
set_option maxHeartbeats 8000000 in
set_option maxRecDepth 100000 in
theorem spec_l8Most.calls  (r : List Int) (w : World) (h : spec_l8Most.f  = some r) :
  Calls Tryz.prog 39 #[] w fun e w' => ∃ v0_ : Value,e = .returned (v0_) ∧ Kd.R (Kd.int .i64) 3 w' w.heap.size (fun _ => True) v0_ r ∧ Below w.heap.size w w' := by
 have HB := Aside0.mk (Below.refl w.heap.size w)
 have H := h
 clear h
 unfold spec_l8Most.f at H
 obtain ⟨y305,hyy⟩ : ∃ y_ : List Int,y_ = (([8,4,8,100,20] : List Int)) := ⟨_,rfl⟩
 replace H : (some y305) = some r := zR
 have Ny305 := Aside0.mk hyy
 clear hyy
 obtain rfl := Option.some.inj H
 go_enter Tryz.func39,Tryz.ntmps39
 go_wp2_with (first | ((with_reducible refine gate_dst (N := 1) rfl ?_);refine Kd.R_lit (Kd.int .i64) _ 3 ?hg (N := 1) ?hd (xs := ([8,4,8,100,20] : List Int)) (inner := [.int .i64 8,.int .i64 4,.int .i64 8,.int .i64 100,.int .i64 20]) (ok := fun _ => True) (okp := fun _ => True) ?hr ?hp (fun _ hk => hk) trivial (Below.refl _ _) (Nat.le_refl _) Z164 ?_;(case hd => rfl);(case hg => rfl);(case hr => exact Z101);(case hp => exact (Reps.one (show Kd.M (Kd.int .i64) _ _ _ 8 [.int .i64 8] from rfl) (Reps.one (show Kd.M (Kd.int .i64) _ _ _ 4 [.int .i64 4] from rfl) (Reps.one (show Kd.M (Kd.int .i64) _ _ _ 8 [.int .i64 8] from rfl) (Reps.one (show Kd.M (Kd.int .i64) _ _ _ 100 [.int .i64 100] from rfl) (Reps.one (show Kd.M (Kd.int .i64) _ _ _ 20 [.int .i64 20] from rfl) (Reps.none _ _)))))));intro vq1 wq2 hoq3 hb hg_ hnew_;clear hg_ hnew_;(first | rw [← Ny305.out] at hoq3 | (simp only [Int.reduceToNat] at hoq3;rw [← Ny305.out] at hoq3));have n_ := Z29;clear HB;obtain ⟨HO307,HB⟩ := n_;clear hb hoq3))
 go_ret
 exact ⟨_,Z92,by (with_reducible repeat (first | apply Kd.R_alloc | apply Kd.R_drewN | apply Kd.R_drew));exact HO307.out,Z169⟩

end Go.Proofs.YtepnbcdbagjmbadGreatDoor.QFnConfigLines
