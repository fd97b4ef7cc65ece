/- The machine side of FnExactTableText: what each Go function that it reaches comes to. Conditions: none. -/
import Derived.Test.YtepnbcdbagjmbabDoorQFnExactTableTextx0
import Derived.Test.YtepnbcdbagjmbabDoorQFnExactTableTextx1
namespace Go.Proofs.YtepnbcdbagjmbabDoor.QFnExactTableText
open Go.RowKit Go.Proofs.YtepnbcdbagjmbabDoorW.PrintWords Go.Proofs.YtepnbcdbagjmbabDoorW.PrintLast Go.Proofs.YtepnbcdbagjmbabDoorW.PrintMore
attribute [local go_sem] max2_int min2_int max_two min_two max_three min_three max_four min_four   -- for this text's walks alone
set_option linter.unusedVariables false
set_option linter.unusedSimpArgs false

/-! ### spec_TableOk: function 12 -/
mutual
def spec_TableOk.j0 : Nat → Int → Bool → List ByteArray → ByteArray → List (List Int) → List Int → Option (Bool)
 | 0,_,_,_,_,_,_ => none
 | k + 1,x3,x41,x116000,x116001,x116002,x116003 => if x41 = true then (some false) else (spec_TableOk.l0 k x3 0 x116000 x116001 x116002 x116003)
def spec_TableOk.l0 : Nat → Int → Int → List ByteArray → ByteArray → List (List Int) → List Int → Option (Bool)
 | 0,_,_,_,_,_,_ => none
 | k + 1,x3,x4,x116000,x116001,x116002,x116003 => if x4 < x3 then (if 0 ≤ x4 then (if x4 < (x116000.length : Int) then ((spec_NameOk.f k (rdOf ByteArray.empty x116000 x4)).bind fun t121 => (if t121 = true then (if x4 ≤ (x116000.length : Int) then ((spec_l9Has.f k (x116000.take (x4 : Int).toNat) (rdOf ByteArray.empty x116000 x4)).bind fun t124 => (if t124 = true then (some false) else (spec_TableOk.l0 k x3 (wrap64 (x4 + 1)) x116000 x116001 x116002 x116003))) else (none)) else (some false))) else (none)) else (none)) else (spec_TableOk.l1 k x3 0 x116000 x116001 x116002 x116003)
def spec_TableOk.l1 : Nat → Int → Int → List ByteArray → ByteArray → List (List Int) → List Int → Option (Bool)
 | 0,_,_,_,_,_,_ => none
 | k + 1,x3,x5,x116000,x116001,x116002,x116003 => if x5 < (x116002.length : Int) then (if 0 ≤ x5 then (if ((rd_L2 x116002 x5).length : Int) = x3 then (if x5 < (x116003.length : Int) then ((spec_l6Value.f (rd x116003 x5)).bind fun t127 => (spec_TableOk.j3 k x3 x5 (!t127) x116000 x116001 x116002 x116003)) else (none)) else (spec_TableOk.j3 k x3 x5 true x116000 x116001 x116002 x116003)) else (none)) else (some true)
def spec_TableOk.j3 : Nat → Int → Int → Bool → List ByteArray → ByteArray → List (List Int) → List Int → Option (Bool)
 | 0,_,_,_,_,_,_,_ => none
 | k + 1,x3,x5,x89,x116000,x116001,x116002,x116003 => if x89 = true then (some false) else (spec_TableOk.l2 k x3 x5 0 x116000 x116001 x116002 x116003)
def spec_TableOk.l2 : Nat → Int → Int → Int → List ByteArray → ByteArray → List (List Int) → List Int → Option (Bool)
 | 0,_,_,_,_,_,_,_ => none
 | k + 1,x3,x5,x6,x116000,x116001,x116002,x116003 => if x6 < x3 then (if 0 ≤ x5 then (if x5 < (x116002.length : Int) then (if 0 ≤ x6 then (if x6 < ((rd_L2 x116002 x5).length : Int) then ((spec_l6Value.f (rd (rd_L2 x116002 x5) x6)).bind fun t130 => (if t130 = true then (spec_TableOk.l2 k x3 x5 (wrap64 (x6 + 1)) x116000 x116001 x116002 x116003) else (some false))) else (none)) else (none)) else (none)) else (none)) else (spec_TableOk.l1 k x3 (wrap64 (x5 + 1)) x116000 x116001 x116002 x116003)
end
def spec_TableOk.f (k : Nat) (l0_0 : List ByteArray) (a0_1 : ByteArray) (l0_2 : List (List Int)) (l0_3 : List Int) : Option (Bool) := (spec_l1In.f (l0_0.length : Int) 1 4).bind fun t116 => (if t116 = true then ((spec_NameOk.f k a0_1).bind fun t117 => (if t117 = true then ((spec_l9Has.f k l0_0 a0_1).bind fun t118 => (if t118 = true then (spec_TableOk.j0 k (l0_0.length : Int) true l0_0 a0_1 l0_2 l0_3) else ((spec_l1In.f (l0_2.length : Int) 1 40).bind fun t119 => (if t119 = true then (spec_TableOk.j0 k (l0_0.length : Int) ((l0_3.length : Int) != (l0_2.length : Int)) l0_0 a0_1 l0_2 l0_3) else (spec_TableOk.j0 k (l0_0.length : Int) true l0_0 a0_1 l0_2 l0_3))))) else (spec_TableOk.j0 k (l0_0.length : Int) true l0_0 a0_1 l0_2 l0_3))) else (spec_TableOk.j0 k (l0_0.length : Int) true l0_0 a0_1 l0_2 l0_3))
theorem spec_TableOk.mono_l : ∀ k,(∀ y0 y1 y2 y3 y4 y5,LeO (spec_TableOk.j0 k y0 y1 y2 y3 y4 y5) (spec_TableOk.j0 (k + 1) y0 y1 y2 y3 y4 y5)) ∧ (∀ y0 y1 y2 y3 y4 y5,LeO (spec_TableOk.l0 k y0 y1 y2 y3 y4 y5) (spec_TableOk.l0 (k + 1) y0 y1 y2 y3 y4 y5)) ∧ (∀ y0 y1 y2 y3 y4 y5,LeO (spec_TableOk.l1 k y0 y1 y2 y3 y4 y5) (spec_TableOk.l1 (k + 1) y0 y1 y2 y3 y4 y5)) ∧ (∀ y0 y1 y2 y3 y4 y5 y6,LeO (spec_TableOk.j3 k y0 y1 y2 y3 y4 y5 y6) (spec_TableOk.j3 (k + 1) y0 y1 y2 y3 y4 y5 y6)) ∧ (∀ y0 y1 y2 y3 y4 y5 y6,LeO (spec_TableOk.l2 k y0 y1 y2 y3 y4 y5 y6) (spec_TableOk.l2 (k + 1) y0 y1 y2 y3 y4 y5 y6))
 | 0 => ⟨fun _ _ _ _ _ _ r h => by simp [spec_TableOk.j0] at h,fun _ _ _ _ _ _ r h => by simp [spec_TableOk.l0] at h,fun _ _ _ _ _ _ r h => by simp [spec_TableOk.l1] at h,fun _ _ _ _ _ _ _ r h => by simp [spec_TableOk.j3] at h,fun _ _ _ _ _ _ _ r h => by simp [spec_TableOk.l2] at h⟩
 | k + 1 => by
  obtain ⟨ih0,ih1,ih2,ih3,ih4⟩ := spec_TableOk.mono_l k
  refine ⟨?_,?_,?_,?_,?_⟩
  ·intro y0 y1 y2 y3 y4 y5
   unfold spec_TableOk.j0
   repeat' first
   | (with_reducible exact ih0 _ _ _ _ _ _)
   | (with_reducible exact ih1 _ _ _ _ _ _)
   | (with_reducible exact ih2 _ _ _ _ _ _)
   | (with_reducible exact ih3 _ _ _ _ _ _ _)
   | (with_reducible exact ih4 _ _ _ _ _ _ _)
   | (with_reducible exact spec_NameOk.mono _ _)
   | (with_reducible exact spec_l9Has.mono _ _ _)
   | (with_reducible exact LeO.refl _)
   | (with_reducible exact LeO.none _)
   | (with_reducible refine LeO.ite ?_ ?_)
   | (with_reducible refine LeO.bind ?_ (fun _ => ?_))
   | exact ih0 _ _ _ _ _ _
   | exact ih1 _ _ _ _ _ _
   | exact ih2 _ _ _ _ _ _
   | exact ih3 _ _ _ _ _ _ _
   | exact ih4 _ _ _ _ _ _ _
   | exact spec_NameOk.mono _ _
   | exact spec_l9Has.mono _ _ _
   | exact LeO.none _
   | refine LeO.ite ?_ ?_
   | refine LeO.bind ?_ (fun _ => ?_)
  ·intro y0 y1 y2 y3 y4 y5
   unfold spec_TableOk.l0
   repeat' first
   | (with_reducible exact ih0 _ _ _ _ _ _)
   | (with_reducible exact ih1 _ _ _ _ _ _)
   | (with_reducible exact ih2 _ _ _ _ _ _)
   | (with_reducible exact ih3 _ _ _ _ _ _ _)
   | (with_reducible exact ih4 _ _ _ _ _ _ _)
   | (with_reducible exact spec_NameOk.mono _ _)
   | (with_reducible exact spec_l9Has.mono _ _ _)
   | (with_reducible exact LeO.refl _)
   | (with_reducible exact LeO.none _)
   | (with_reducible refine LeO.ite ?_ ?_)
   | (with_reducible refine LeO.bind ?_ (fun _ => ?_))
   | exact ih0 _ _ _ _ _ _
   | exact ih1 _ _ _ _ _ _
   | exact ih2 _ _ _ _ _ _
   | exact ih3 _ _ _ _ _ _ _
   | exact ih4 _ _ _ _ _ _ _
   | exact spec_NameOk.mono _ _
   | exact spec_l9Has.mono _ _ _
   | exact LeO.none _
   | refine LeO.ite ?_ ?_
   | refine LeO.bind ?_ (fun _ => ?_)
  ·intro y0 y1 y2 y3 y4 y5
   unfold spec_TableOk.l1
   repeat' first
   | (with_reducible exact ih0 _ _ _ _ _ _)
   | (with_reducible exact ih1 _ _ _ _ _ _)
   | (with_reducible exact ih2 _ _ _ _ _ _)
   | (with_reducible exact ih3 _ _ _ _ _ _ _)
   | (with_reducible exact ih4 _ _ _ _ _ _ _)
   | (with_reducible exact spec_NameOk.mono _ _)
   | (with_reducible exact spec_l9Has.mono _ _ _)
   | (with_reducible exact LeO.refl _)
   | (with_reducible exact LeO.none _)
   | (with_reducible refine LeO.ite ?_ ?_)
   | (with_reducible refine LeO.bind ?_ (fun _ => ?_))
   | exact ih0 _ _ _ _ _ _
   | exact ih1 _ _ _ _ _ _
   | exact ih2 _ _ _ _ _ _
   | exact ih3 _ _ _ _ _ _ _
   | exact ih4 _ _ _ _ _ _ _
   | exact spec_NameOk.mono _ _
   | exact spec_l9Has.mono _ _ _
   | exact LeO.none _
   | refine LeO.ite ?_ ?_
   | refine LeO.bind ?_ (fun _ => ?_)
  ·intro y0 y1 y2 y3 y4 y5 y6
   unfold spec_TableOk.j3
   repeat' first
   | (with_reducible exact ih0 _ _ _ _ _ _)
   | (with_reducible exact ih1 _ _ _ _ _ _)
   | (with_reducible exact ih2 _ _ _ _ _ _)
   | (with_reducible exact ih3 _ _ _ _ _ _ _)
   | (with_reducible exact ih4 _ _ _ _ _ _ _)
   | (with_reducible exact spec_NameOk.mono _ _)
   | (with_reducible exact spec_l9Has.mono _ _ _)
   | (with_reducible exact LeO.refl _)
   | (with_reducible exact LeO.none _)
   | (with_reducible refine LeO.ite ?_ ?_)
   | (with_reducible refine LeO.bind ?_ (fun _ => ?_))
   | exact ih0 _ _ _ _ _ _
   | exact ih1 _ _ _ _ _ _
   | exact ih2 _ _ _ _ _ _
   | exact ih3 _ _ _ _ _ _ _
   | exact ih4 _ _ _ _ _ _ _
   | exact spec_NameOk.mono _ _
   | exact spec_l9Has.mono _ _ _
   | exact LeO.none _
   | refine LeO.ite ?_ ?_
   | refine LeO.bind ?_ (fun _ => ?_)
  ·intro y0 y1 y2 y3 y4 y5 y6
   unfold spec_TableOk.l2
   repeat' first
   | (with_reducible exact ih0 _ _ _ _ _ _)
   | (with_reducible exact ih1 _ _ _ _ _ _)
   | (with_reducible exact ih2 _ _ _ _ _ _)
   | (with_reducible exact ih3 _ _ _ _ _ _ _)
   | (with_reducible exact ih4 _ _ _ _ _ _ _)
   | (with_reducible exact spec_NameOk.mono _ _)
   | (with_reducible exact spec_l9Has.mono _ _ _)
   | (with_reducible exact LeO.refl _)
   | (with_reducible exact LeO.none _)
   | (with_reducible refine LeO.ite ?_ ?_)
   | (with_reducible refine LeO.bind ?_ (fun _ => ?_))
   | exact ih0 _ _ _ _ _ _
   | exact ih1 _ _ _ _ _ _
   | exact ih2 _ _ _ _ _ _
   | exact ih3 _ _ _ _ _ _ _
   | exact ih4 _ _ _ _ _ _ _
   | exact spec_NameOk.mono _ _
   | exact spec_l9Has.mono _ _ _
   | exact LeO.none _
   | refine LeO.ite ?_ ?_
   | refine LeO.bind ?_ (fun _ => ?_)
theorem spec_TableOk.mono : ∀ a0 a1 a2 a3 k,LeO (spec_TableOk.f k a0 a1 a2 a3) (spec_TableOk.f (k + 1) a0 a1 a2 a3) := by
 intro a0 a1 a2 a3 k
 obtain ⟨ih0,ih1,ih2,ih3,ih4⟩ := spec_TableOk.mono_l k
 unfold spec_TableOk.f
 repeat' first
   | (with_reducible exact ih0 _ _ _ _ _ _)
   | (with_reducible exact ih1 _ _ _ _ _ _)
   | (with_reducible exact ih2 _ _ _ _ _ _)
   | (with_reducible exact ih3 _ _ _ _ _ _ _)
   | (with_reducible exact ih4 _ _ _ _ _ _ _)
   | (with_reducible exact spec_NameOk.mono _ _)
   | (with_reducible exact spec_l9Has.mono _ _ _)
   | (with_reducible exact LeO.refl _)
   | (with_reducible exact LeO.none _)
   | (with_reducible refine LeO.ite ?_ ?_)
   | (with_reducible refine LeO.bind ?_ (fun _ => ?_))
   | exact ih0 _ _ _ _ _ _
   | exact ih1 _ _ _ _ _ _
   | exact ih2 _ _ _ _ _ _
   | exact ih3 _ _ _ _ _ _ _
   | exact ih4 _ _ _ _ _ _ _
   | exact spec_NameOk.mono _ _
   | exact spec_l9Has.mono _ _ _
   | exact LeO.none _
   | refine LeO.ite ?_ ?_
   | refine LeO.bind ?_ (fun _ => ?_)
set_option maxHeartbeats 8000000 in
set_option maxRecDepth 100000 in
theorem spec_TableOk.calls (k : Nat) (A0_0 : Option Addr) (c0_0 : Nat) (l0_0 : List ByteArray) (a0_1 : ByteArray) (A0_2 : Option Addr) (c0_2 : Nat) (l0_2 : List (List Int)) (A0_3 : Option Addr) (c0_3 : Nat) (l0_3 : List Int) (r : Bool) (w : World) (hr0_0 : Kd.C Kd.string w A0_0 l0_0.length l0_0) (hc0_0 : l0_0.length ≤ c0_0) (hr0_2 : Kd.C (Kd.slice 3 (Kd.int .i64)) w A0_2 l0_2.length l0_2) (hc0_2 : l0_2.length ≤ c0_2) (hr0_3 : Kd.C (Kd.int .i64) w A0_3 l0_3.length l0_3) (hc0_3 : l0_3.length ≤ c0_3) (h : spec_TableOk.f k l0_0 a0_1 l0_2 l0_3 = some r) :
  Calls Tryd.prog 12 #[.agg #[.slice A0_0 l0_0.length c0_0,.string a0_1,.slice A0_2 l0_2.length c0_2,.slice A0_3 l0_3.length c0_3]] w fun e w' => e = .returned (.bool r) ∧ Below w.heap.size w w' := by
 have hu29 := Tryd.underlying29
 have HR0_0 := Aside0.mk hr0_0
 have HC0_0 := Aside0.mk hc0_0
 clear hr0_0 hc0_0
 have HR0_2 := Aside0.mk hr0_2
 have HC0_2 := Aside0.mk hc0_2
 clear hr0_2 hc0_2
 have HR0_3 := Aside0.mk hr0_3
 have HC0_3 := Aside0.mk hc0_3
 clear hr0_3 hc0_3
 have HB := Aside0.mk (Below.refl w.heap.size w)
 have H := h
 clear h
 unfold spec_TableOk.f at H
 have HC2 := Aside0.mk H
 clear H
 go_enter Tryd.func12,Tryd.ntmps12
 go_upto_region 2 with (first | ((with_reducible refine gate_dst (N := 1) rfl ?_);(try (refine gate_guard Z123 ?_;dsimp only));refine bE 1 #[.slice A0_0 l0_0.length c0_0,.string a0_1,.slice A0_2 l0_2.length c0_2,.slice A0_3 l0_3.length c0_3] 29 (h := ?_);intro gb115 hg w3 hbox hb;have n_ := Z6;clear HB;obtain ⟨HB,BK115,GW115,GE115⟩ := n_;clear hb hbox hg;obtain ⟨hcz4_0,hcz4_1,hcz4_2,hcz4_3,hfz4_0,hfz4_1,hfz4_2,hfz4_3⟩ := cells4 BK115.out))
 repeat (go_quiet (first | ((with_reducible refine gate_dst (N := 1) rfl ?_);(try (refine gate_guard Z123 ?_;dsimp only));refine bE 1 #[.slice A0_0 l0_0.length c0_0,.string a0_1,.slice A0_2 l0_2.length c0_2,.slice A0_3 l0_3.length c0_3] 29 (h := ?_);intro gb115 hg w3 hbox hb;have n_ := Z6;clear HB;obtain ⟨HB,BK115,GW115,GE115⟩ := n_;clear hb hbox hg;obtain ⟨hcz4_0,hcz4_1,hcz4_2,hcz4_3,hfz4_0,hfz4_1,hfz4_2,hfz4_3⟩ := cells4 BK115.out));go_upto_region 2 with (first | ((with_reducible refine gate_dst (N := 1) rfl ?_);(try (refine gate_guard Z123 ?_;dsimp only));refine bE 1 #[.slice A0_0 l0_0.length c0_0,.string a0_1,.slice A0_2 l0_2.length c0_2,.slice A0_3 l0_3.length c0_3] 29 (h := ?_);intro gb115 hg w3 hbox hb;have n_ := Z6;clear HB;obtain ⟨HB,BK115,GW115,GE115⟩ := n_;clear hb hbox hg;obtain ⟨hcz4_0,hcz4_1,hcz4_2,hcz4_3,hfz4_0,hfz4_1,hfz4_2,hfz4_3⟩ := cells4 BK115.out)))
 (try simp only [Act.put,List.setIfInBounds_toArray,List.set_cons_zero,List.set_cons_succ])
 go_cut [41] (fun v41 wc => ∃ (kq : Nat) (x41_1 : Bool),v41 = .bool x41_1 ∧ Aside0 (spec_TableOk.j0 kq (l0_0.length : Int) x41_1 l0_0 a0_1 l0_2 l0_3 = some r) ∧ Aside0 (kq ≤ k) ∧ Aside0 (wc.heap[gb115]? = some (.cells #[(.slice A0_0 l0_0.length c0_0),.string a0_1,(.slice A0_2 l0_2.length c0_2),(.slice A0_3 l0_3.length c0_3)] 29 (0,0))) ∧ Aside0 (Below w.heap.size w wc))
 case first =>
  have H := HC2.out
  clear HC2
  obtain ⟨t116,A50,H⟩ := Option.bind_eq_some_iff.mp H
  have A5 := Aside0.mk A50
  clear A50
  by_cases c6 : t116 = true
  rotate_left
  ·replace c6 := Bool.eq_false_iff.mpr c6
   subst c6
   rw [if_neg Bool.false_ne_true] at H
   have H' := Aside0.mk H
   clear H
   go_wp2_with (first | (go_at_call 26;(with_reducible refine (spec_l1In.calls (l0_0.length : Int) 1 4 false _ A5.out).mono ?_);rintro e w' ⟨rfl,⟨nd,rfl⟩⟩;(try first | exact ⟨rfl,_,dD⟩ | exact ⟨rfl,_,dT⟩)))
   repeat (go_quiet (first | (go_at_call 26;(with_reducible refine (spec_l1In.calls (l0_0.length : Int) 1 4 false _ A5.out).mono ?_);rintro e w' ⟨rfl,⟨nd,rfl⟩⟩;(try first | exact ⟨rfl,_,dD⟩ | exact ⟨rfl,_,dT⟩)));try go_wp2_with (first | (go_at_call 26;(with_reducible refine (spec_l1In.calls (l0_0.length : Int) 1 4 false _ A5.out).mono ?_);rintro e w' ⟨rfl,⟨nd,rfl⟩⟩;(try first | exact ⟨rfl,_,dD⟩ | exact ⟨rfl,_,dT⟩))))
   go_meet
   case rel => exact ⟨_,(true),Z106,H',⟨Z110⟩,⟨Z112⟩,⟨Z130⟩⟩
  subst c6
  rw [if_pos rfl] at H
  obtain ⟨t117,A70,H⟩ := Option.bind_eq_some_iff.mp H
  have A7 := Aside0.mk A70
  clear A70
  by_cases c8 : t117 = true
  rotate_left
  ·replace c8 := Bool.eq_false_iff.mpr c8
   subst c8
   rw [if_neg Bool.false_ne_true] at H
   have H' := Aside0.mk H
   clear H
   obtain ⟨hcz16_0,hcz16_1,hcz16_2,hcz16_3,hfz16_0,hfz16_1,hfz16_2,hfz16_3⟩ := cells4 BK115.out
   go_wp2_with (first | (go_at_call 26;(with_reducible refine (spec_l1In.calls (l0_0.length : Int) 1 4 true _ A5.out).mono ?_);rintro e w' ⟨rfl,⟨nd,rfl⟩⟩;(try first | exact ⟨rfl,_,dD⟩ | exact ⟨rfl,_,dT⟩)) | (go_at_call 27;(with_reducible refine (spec_NameOk.calls k a0_1 false _ A7.out).mono ?_);rintro e w' ⟨rfl,⟨nd,rfl⟩⟩;(try first | exact ⟨rfl,_,dD⟩ | exact ⟨rfl,_,dT⟩)))
   repeat (go_quiet (first | (go_at_call 26;(with_reducible refine (spec_l1In.calls (l0_0.length : Int) 1 4 true _ A5.out).mono ?_);rintro e w' ⟨rfl,⟨nd,rfl⟩⟩;(try first | exact ⟨rfl,_,dD⟩ | exact ⟨rfl,_,dT⟩)) | (go_at_call 27;(with_reducible refine (spec_NameOk.calls k a0_1 false _ A7.out).mono ?_);rintro e w' ⟨rfl,⟨nd,rfl⟩⟩;(try first | exact ⟨rfl,_,dD⟩ | exact ⟨rfl,_,dT⟩)));try go_wp2_with (first | (go_at_call 26;(with_reducible refine (spec_l1In.calls (l0_0.length : Int) 1 4 true _ A5.out).mono ?_);rintro e w' ⟨rfl,⟨nd,rfl⟩⟩;(try first | exact ⟨rfl,_,dD⟩ | exact ⟨rfl,_,dT⟩)) | (go_at_call 27;(with_reducible refine (spec_NameOk.calls k a0_1 false _ A7.out).mono ?_);rintro e w' ⟨rfl,⟨nd,rfl⟩⟩;(try first | exact ⟨rfl,_,dD⟩ | exact ⟨rfl,_,dT⟩))))
   go_meet
   case rel => exact ⟨_,(true),Z106,H',⟨Z110⟩,⟨Z112⟩,⟨Z130⟩⟩
  subst c8
  rw [if_pos rfl] at H
  obtain ⟨t118,A90,H⟩ := Option.bind_eq_some_iff.mp H
  have A9 := Aside0.mk A90
  clear A90
  by_cases c10 : t118 = true
  ·subst c10
   rw [if_pos rfl] at H
   have H' := Aside0.mk H
   clear H
   obtain ⟨hcz11_0,hcz11_1,hcz11_2,hcz11_3,hfz11_0,hfz11_1,hfz11_2,hfz11_3⟩ := cells4 BK115.out
   go_wp2_with (first | (go_at_call 26;(with_reducible refine (spec_l1In.calls (l0_0.length : Int) 1 4 true _ A5.out).mono ?_);rintro e w' ⟨rfl,⟨nd,rfl⟩⟩;(try first | exact ⟨rfl,_,dD⟩ | exact ⟨rfl,_,dT⟩)) | (go_at_call 27;(with_reducible refine (spec_NameOk.calls k a0_1 true _ A7.out).mono ?_);rintro e w' ⟨rfl,⟨nd,rfl⟩⟩;(try first | exact ⟨rfl,_,dD⟩ | exact ⟨rfl,_,dT⟩)) | (go_at_call 28;(with_reducible refine (spec_l9Has.calls k _ _ l0_0 a0_1 true _ ?side1 ?side2 A9.out).mono ?_);(case side1 => exact Z22);(case side2 => exact Z118);rintro e w' ⟨rfl,⟨nd,rfl⟩⟩;(try first | exact ⟨rfl,_,dD⟩ | exact ⟨rfl,_,dT⟩)))
   repeat (go_quiet (first | (go_at_call 26;(with_reducible refine (spec_l1In.calls (l0_0.length : Int) 1 4 true _ A5.out).mono ?_);rintro e w' ⟨rfl,⟨nd,rfl⟩⟩;(try first | exact ⟨rfl,_,dD⟩ | exact ⟨rfl,_,dT⟩)) | (go_at_call 27;(with_reducible refine (spec_NameOk.calls k a0_1 true _ A7.out).mono ?_);rintro e w' ⟨rfl,⟨nd,rfl⟩⟩;(try first | exact ⟨rfl,_,dD⟩ | exact ⟨rfl,_,dT⟩)) | (go_at_call 28;(with_reducible refine (spec_l9Has.calls k _ _ l0_0 a0_1 true _ ?side1 ?side2 A9.out).mono ?_);(case side1 => exact Z22);(case side2 => exact Z118);rintro e w' ⟨rfl,⟨nd,rfl⟩⟩;(try first | exact ⟨rfl,_,dD⟩ | exact ⟨rfl,_,dT⟩)));try go_wp2_with (first | (go_at_call 26;(with_reducible refine (spec_l1In.calls (l0_0.length : Int) 1 4 true _ A5.out).mono ?_);rintro e w' ⟨rfl,⟨nd,rfl⟩⟩;(try first | exact ⟨rfl,_,dD⟩ | exact ⟨rfl,_,dT⟩)) | (go_at_call 27;(with_reducible refine (spec_NameOk.calls k a0_1 true _ A7.out).mono ?_);rintro e w' ⟨rfl,⟨nd,rfl⟩⟩;(try first | exact ⟨rfl,_,dD⟩ | exact ⟨rfl,_,dT⟩)) | (go_at_call 28;(with_reducible refine (spec_l9Has.calls k _ _ l0_0 a0_1 true _ ?side1 ?side2 A9.out).mono ?_);(case side1 => exact Z22);(case side2 => exact Z118);rintro e w' ⟨rfl,⟨nd,rfl⟩⟩;(try first | exact ⟨rfl,_,dD⟩ | exact ⟨rfl,_,dT⟩))))
   go_meet
   case rel => exact ⟨_,(true),Z106,H',⟨Z110⟩,⟨Z112⟩,⟨Z130⟩⟩
  replace c10 := Bool.eq_false_iff.mpr c10
  subst c10
  rw [if_neg Bool.false_ne_true] at H
  obtain ⟨t119,A120,H⟩ := Option.bind_eq_some_iff.mp H
  have A12 := Aside0.mk A120
  clear A120
  by_cases c13 : t119 = true
  ·subst c13
   rw [if_pos rfl] at H
   have H' := Aside0.mk H
   clear H
   obtain ⟨hcz14_0,hcz14_1,hcz14_2,hcz14_3,hfz14_0,hfz14_1,hfz14_2,hfz14_3⟩ := cells4 BK115.out
   go_wp2_with (first | (go_at_call 26;(with_reducible refine (spec_l1In.calls (l0_0.length : Int) 1 4 true _ A5.out).mono ?_);rintro e w' ⟨rfl,⟨nd,rfl⟩⟩;(try first | exact ⟨rfl,_,dD⟩ | exact ⟨rfl,_,dT⟩)) | (go_at_call 27;(with_reducible refine (spec_NameOk.calls k a0_1 true _ A7.out).mono ?_);rintro e w' ⟨rfl,⟨nd,rfl⟩⟩;(try first | exact ⟨rfl,_,dD⟩ | exact ⟨rfl,_,dT⟩)) | (go_at_call 28;(with_reducible refine (spec_l9Has.calls k _ _ l0_0 a0_1 false _ ?side1 ?side2 A9.out).mono ?_);(case side1 => exact Z22);(case side2 => exact Z118);rintro e w' ⟨rfl,⟨nd,rfl⟩⟩;(try first | exact ⟨rfl,_,dD⟩ | exact ⟨rfl,_,dT⟩)) | (go_at_call 26;(with_reducible refine (spec_l1In.calls (l0_2.length : Int) 1 40 true _ A12.out).mono ?_);rintro e w' ⟨rfl,⟨nd,rfl⟩⟩;(try first | exact ⟨rfl,_,dD⟩ | exact ⟨rfl,_,dT⟩)))
   repeat (go_quiet (first | (go_at_call 26;(with_reducible refine (spec_l1In.calls (l0_0.length : Int) 1 4 true _ A5.out).mono ?_);rintro e w' ⟨rfl,⟨nd,rfl⟩⟩;(try first | exact ⟨rfl,_,dD⟩ | exact ⟨rfl,_,dT⟩)) | (go_at_call 27;(with_reducible refine (spec_NameOk.calls k a0_1 true _ A7.out).mono ?_);rintro e w' ⟨rfl,⟨nd,rfl⟩⟩;(try first | exact ⟨rfl,_,dD⟩ | exact ⟨rfl,_,dT⟩)) | (go_at_call 28;(with_reducible refine (spec_l9Has.calls k _ _ l0_0 a0_1 false _ ?side1 ?side2 A9.out).mono ?_);(case side1 => exact Z22);(case side2 => exact Z118);rintro e w' ⟨rfl,⟨nd,rfl⟩⟩;(try first | exact ⟨rfl,_,dD⟩ | exact ⟨rfl,_,dT⟩)) | (go_at_call 26;(with_reducible refine (spec_l1In.calls (l0_2.length : Int) 1 40 true _ A12.out).mono ?_);rintro e w' ⟨rfl,⟨nd,rfl⟩⟩;(try first | exact ⟨rfl,_,dD⟩ | exact ⟨rfl,_,dT⟩)));try go_wp2_with (first | (go_at_call 26;(with_reducible refine (spec_l1In.calls (l0_0.length : Int) 1 4 true _ A5.out).mono ?_);rintro e w' ⟨rfl,⟨nd,rfl⟩⟩;(try first | exact ⟨rfl,_,dD⟩ | exact ⟨rfl,_,dT⟩)) | (go_at_call 27;(with_reducible refine (spec_NameOk.calls k a0_1 true _ A7.out).mono ?_);rintro e w' ⟨rfl,⟨nd,rfl⟩⟩;(try first | exact ⟨rfl,_,dD⟩ | exact ⟨rfl,_,dT⟩)) | (go_at_call 28;(with_reducible refine (spec_l9Has.calls k _ _ l0_0 a0_1 false _ ?side1 ?side2 A9.out).mono ?_);(case side1 => exact Z22);(case side2 => exact Z118);rintro e w' ⟨rfl,⟨nd,rfl⟩⟩;(try first | exact ⟨rfl,_,dD⟩ | exact ⟨rfl,_,dT⟩)) | (go_at_call 26;(with_reducible refine (spec_l1In.calls (l0_2.length : Int) 1 40 true _ A12.out).mono ?_);rintro e w' ⟨rfl,⟨nd,rfl⟩⟩;(try first | exact ⟨rfl,_,dD⟩ | exact ⟨rfl,_,dT⟩))))
   go_meet
   case rel => exact ⟨_,(((l0_3.length : Int) != (l0_2.length : Int))),Z106,H',⟨Z110⟩,⟨Z112⟩,⟨Z130⟩⟩
  replace c13 := Bool.eq_false_iff.mpr c13
  subst c13
  rw [if_neg Bool.false_ne_true] at H
  have H' := Aside0.mk H
  clear H
  obtain ⟨hcz15_0,hcz15_1,hcz15_2,hcz15_3,hfz15_0,hfz15_1,hfz15_2,hfz15_3⟩ := cells4 BK115.out
  go_wp2_with (first | (go_at_call 26;(with_reducible refine (spec_l1In.calls (l0_0.length : Int) 1 4 true _ A5.out).mono ?_);rintro e w' ⟨rfl,⟨nd,rfl⟩⟩;(try first | exact ⟨rfl,_,dD⟩ | exact ⟨rfl,_,dT⟩)) | (go_at_call 27;(with_reducible refine (spec_NameOk.calls k a0_1 true _ A7.out).mono ?_);rintro e w' ⟨rfl,⟨nd,rfl⟩⟩;(try first | exact ⟨rfl,_,dD⟩ | exact ⟨rfl,_,dT⟩)) | (go_at_call 28;(with_reducible refine (spec_l9Has.calls k _ _ l0_0 a0_1 false _ ?side1 ?side2 A9.out).mono ?_);(case side1 => exact Z22);(case side2 => exact Z118);rintro e w' ⟨rfl,⟨nd,rfl⟩⟩;(try first | exact ⟨rfl,_,dD⟩ | exact ⟨rfl,_,dT⟩)) | (go_at_call 26;(with_reducible refine (spec_l1In.calls (l0_2.length : Int) 1 40 false _ A12.out).mono ?_);rintro e w' ⟨rfl,⟨nd,rfl⟩⟩;(try first | exact ⟨rfl,_,dD⟩ | exact ⟨rfl,_,dT⟩)))
  repeat (go_quiet (first | (go_at_call 26;(with_reducible refine (spec_l1In.calls (l0_0.length : Int) 1 4 true _ A5.out).mono ?_);rintro e w' ⟨rfl,⟨nd,rfl⟩⟩;(try first | exact ⟨rfl,_,dD⟩ | exact ⟨rfl,_,dT⟩)) | (go_at_call 27;(with_reducible refine (spec_NameOk.calls k a0_1 true _ A7.out).mono ?_);rintro e w' ⟨rfl,⟨nd,rfl⟩⟩;(try first | exact ⟨rfl,_,dD⟩ | exact ⟨rfl,_,dT⟩)) | (go_at_call 28;(with_reducible refine (spec_l9Has.calls k _ _ l0_0 a0_1 false _ ?side1 ?side2 A9.out).mono ?_);(case side1 => exact Z22);(case side2 => exact Z118);rintro e w' ⟨rfl,⟨nd,rfl⟩⟩;(try first | exact ⟨rfl,_,dD⟩ | exact ⟨rfl,_,dT⟩)) | (go_at_call 26;(with_reducible refine (spec_l1In.calls (l0_2.length : Int) 1 40 false _ A12.out).mono ?_);rintro e w' ⟨rfl,⟨nd,rfl⟩⟩;(try first | exact ⟨rfl,_,dD⟩ | exact ⟨rfl,_,dT⟩)));try go_wp2_with (first | (go_at_call 26;(with_reducible refine (spec_l1In.calls (l0_0.length : Int) 1 4 true _ A5.out).mono ?_);rintro e w' ⟨rfl,⟨nd,rfl⟩⟩;(try first | exact ⟨rfl,_,dD⟩ | exact ⟨rfl,_,dT⟩)) | (go_at_call 27;(with_reducible refine (spec_NameOk.calls k a0_1 true _ A7.out).mono ?_);rintro e w' ⟨rfl,⟨nd,rfl⟩⟩;(try first | exact ⟨rfl,_,dD⟩ | exact ⟨rfl,_,dT⟩)) | (go_at_call 28;(with_reducible refine (spec_l9Has.calls k _ _ l0_0 a0_1 false _ ?side1 ?side2 A9.out).mono ?_);(case side1 => exact Z22);(case side2 => exact Z118);rintro e w' ⟨rfl,⟨nd,rfl⟩⟩;(try first | exact ⟨rfl,_,dD⟩ | exact ⟨rfl,_,dT⟩)) | (go_at_call 26;(with_reducible refine (spec_l1In.calls (l0_2.length : Int) 1 40 false _ A12.out).mono ?_);rintro e w' ⟨rfl,⟨nd,rfl⟩⟩;(try first | exact ⟨rfl,_,dD⟩ | exact ⟨rfl,_,dT⟩))))
  go_meet
  case rel => exact ⟨_,(true),Z106,H',⟨Z110⟩,⟨Z112⟩,⟨Z130⟩⟩
 case rest =>
  clear HC2
  try clear c1
  try clear p2
  try clear c6
  try clear c8
  try clear c10
  try clear c12
  try clear c13
  obtain ⟨kq,x41_1,rfl,HA,HJ1,BK115,HB⟩ := hcut
  cases kq with
  | zero => exact absurd HA.out (by simp [spec_TableOk.j0])
  | succ kj1 =>
   have H := HA.out
   clear HA
   simp only [spec_TableOk.j0] at H
   by_cases c17 : x41_1 = true
   ·subst c17
    rw [if_pos rfl] at H
    obtain rfl := Option.some.inj H
    go_wp2
    repeat (go_quiet (fail);try go_wp2)
    go_ret
    exact ⟨Z98,Z130⟩
   replace c17 := Bool.eq_false_iff.mpr c17
   subst c17
   rw [if_neg Bool.false_ne_true] at H
   have H' := Aside0.mk H
   clear H
   go_wp2
   repeat (go_quiet (fail);try go_wp2)
   go_loopg [4] kj1 (fun kq v4 w' => ∃ (x4_2 : Int),v4 = .int .i64 x4_2 ∧ Aside0 (spec_TableOk.l0 kq (l0_0.length : Int) x4_2 l0_0 a0_1 l0_2 l0_3 = some r) ∧ Aside0 (kq ≤ kj1) ∧ Aside0 (w'.heap[gb115]? = some (.cells #[(.slice A0_0 l0_0.length c0_0),.string a0_1,(.slice A0_2 l0_2.length c0_2),(.slice A0_3 l0_3.length c0_3)] 29 (0,0))) ∧ Aside0 (Below w.heap.size w w'))
   case atStart => exact ⟨(0),Z106,H',⟨Nat.le_refl _⟩,⟨Z112⟩,⟨Z130⟩⟩
   case round =>
    clear H'
    try clear c1
    try clear p2
    try clear c6
    try clear c8
    try clear c10
    try clear c12
    try clear c13
    try clear c17
    try clear p2
    obtain ⟨x4_2,rfl,HA,HK2,BK115,HB⟩ := hrel
    cases gk with
    | zero => exact absurd HA.out (by simp [spec_TableOk.l0])
    | succ k2 =>
     have H := HA.out
     clear HA
     simp only [spec_TableOk.l0] at H
     by_cases c18 : x4_2 < (l0_0.length : Int)
     ·rw [if_pos c18] at H
      have c18b0 : decide (x4_2 < (l0_0.length : Int)) = true := decide_eq_true c18
      clear c18
      obtain ⟨c19,H⟩ := ifp H
      have c19b0 : decide (0 ≤ x4_2) = true := decide_eq_true c19
      clear c19
      obtain ⟨c20,H⟩ := ifp H
      have c20b0 : decide (x4_2 < (l0_0.length : Int)) = true := decide_eq_true c20
      clear c20
      obtain ⟨t121,A210,H⟩ := Option.bind_eq_some_iff.mp H
      have A21 := Aside0.mk A210
      clear A210
      by_cases c22 : t121 = true
      rotate_left
      ·replace c22 := Bool.eq_false_iff.mpr c22
       subst c22
       rw [if_neg Bool.false_ne_true] at H
       obtain rfl := Option.some.inj H
       obtain ⟨hcz31_0,hcz31_1,hcz31_2,hcz31_3,hfz31_0,hfz31_1,hfz31_2,hfz31_3⟩ := cells4 BK115.out
       have p120 : 0 ≤ (x4_2 : Int) := of_decide_eq_true Z105
       have q120 : x4_2 < (l0_0.length : Int) := of_decide_eq_true Z105
       obtain ⟨ad120,e120,hx120_0⟩ := Kd.at_string HR0_0.out x4_2 p120 q120
       cases e120
       replace hx120_0 := (HB.out.cell (World.block_lt_of_cell? w _ hx120_0)).trans hx120_0
       replace p120 := eq_true p120
       replace q120 := eq_true q120
       go_wp2_with (first | (go_at_call 27;(with_reducible refine (spec_NameOk.calls k2 (rdOf ByteArray.empty l0_0 x4_2) false _ A21.out).mono ?_);rintro e w' ⟨rfl,⟨nd,rfl⟩⟩;(try first | exact ⟨rfl,_,dD⟩ | exact ⟨rfl,_,dT⟩)))
       repeat (go_quiet (first | (go_at_call 27;(with_reducible refine (spec_NameOk.calls k2 (rdOf ByteArray.empty l0_0 x4_2) false _ A21.out).mono ?_);rintro e w' ⟨rfl,⟨nd,rfl⟩⟩;(try first | exact ⟨rfl,_,dD⟩ | exact ⟨rfl,_,dT⟩)));try go_wp2_with (first | (go_at_call 27;(with_reducible refine (spec_NameOk.calls k2 (rdOf ByteArray.empty l0_0 x4_2) false _ A21.out).mono ?_);rintro e w' ⟨rfl,⟨nd,rfl⟩⟩;(try first | exact ⟨rfl,_,dD⟩ | exact ⟨rfl,_,dT⟩))))
       go_ret
       exact ⟨Z98,Z130⟩
      subst c22
      rw [if_pos rfl] at H
      have c23b0 := eq_true (of_decide_eq_true Z105 : 0 ≤ x4_2)
      obtain ⟨c24,H⟩ := ifp H
      have c24b0 := eq_true c24
      have c24b1 : decide (x4_2 ≤ (l0_0.length : Int)) = true := decide_eq_true c24
      clear c24
      obtain ⟨t124,A250,H⟩ := Option.bind_eq_some_iff.mp H
      have A25 := Aside0.mk A250
      clear A250
      by_cases c26 : t124 = true
      ·subst c26
       rw [if_pos rfl] at H
       obtain rfl := Option.some.inj H
       obtain ⟨hcz27_0,hcz27_1,hcz27_2,hcz27_3,hfz27_0,hfz27_1,hfz27_2,hfz27_3⟩ := cells4 BK115.out
       have p120 : 0 ≤ (x4_2 : Int) := of_decide_eq_true Z105
       have q120 : x4_2 < (l0_0.length : Int) := of_decide_eq_true Z105
       obtain ⟨ad120,e120,hx120_0⟩ := Kd.at_string HR0_0.out x4_2 p120 q120
       cases e120
       replace hx120_0 := (HB.out.cell (World.block_lt_of_cell? w _ hx120_0)).trans hx120_0
       replace p120 := eq_true p120
       replace q120 := eq_true q120
       obtain ⟨i028,hi028,_,hsz28,_⟩ := info_parts info9
       obtain ⟨hcut28,hA28,hC28⟩ := print_take_of (P := Tryd.prog) Value.string (⟨#[]⟩ : ByteArray) 22 9 .i64 Tryd.underlying22 hi028 hsz28 (some ad120) c0_0 l0_0 x4_2 (of_decide_eq_true Z105) (of_decide_eq_true Z105) HC0_0.out
       have HR122 := Aside0.mk (Kd.C_of_reads (h1 := fun _ => rfl) (hA28 _ (Kd.reads_of_C HR0_0.out)))
       have HC122 := Aside0.mk hC28
       clear hA28 hC28 hi028 hsz28
       have p123 : 0 ≤ (x4_2 : Int) := of_decide_eq_true Z105
       have q123 : x4_2 < (l0_0.length : Int) := of_decide_eq_true Z105
       obtain ⟨ad123,e123,hx123_0⟩ := Kd.at_string HR0_0.out x4_2 p123 q123
       obtain rfl : ad120 = ad123 := (by injection e123)
       replace hx123_0 := (HB.out.cell (World.block_lt_of_cell? w _ hx123_0)).trans hx123_0
       replace p123 := eq_true p123
       replace q123 := eq_true q123
       go_wp2_with (first | (go_at_call 27;(with_reducible refine (spec_NameOk.calls k2 (rdOf ByteArray.empty l0_0 x4_2) true _ A21.out).mono ?_);rintro e w' ⟨rfl,⟨nd,rfl⟩⟩;(try first | exact ⟨rfl,_,dD⟩ | exact ⟨rfl,_,dT⟩)) | (go_at_call 28;(with_reducible refine take_at_ (xs := l0_0) (j := x4_2) (of_decide_eq_true Z105) (of_decide_eq_true Z105) ((spec_l9Has.calls k2 _ _ (l0_0.take (x4_2 : Int).toNat) (rdOf ByteArray.empty l0_0 x4_2) true _ ?side1 ?side2 A25.out).mono ?_));(case side1 => exact Z23);(case side2 => exact HC122.out);rintro e w' ⟨rfl,⟨nd,rfl⟩⟩;(try first | exact ⟨rfl,_,dD⟩ | exact ⟨rfl,_,dT⟩)))
       repeat (go_quiet (first | (go_at_call 27;(with_reducible refine (spec_NameOk.calls k2 (rdOf ByteArray.empty l0_0 x4_2) true _ A21.out).mono ?_);rintro e w' ⟨rfl,⟨nd,rfl⟩⟩;(try first | exact ⟨rfl,_,dD⟩ | exact ⟨rfl,_,dT⟩)) | (go_at_call 28;(with_reducible refine take_at_ (xs := l0_0) (j := x4_2) (of_decide_eq_true Z105) (of_decide_eq_true Z105) ((spec_l9Has.calls k2 _ _ (l0_0.take (x4_2 : Int).toNat) (rdOf ByteArray.empty l0_0 x4_2) true _ ?side1 ?side2 A25.out).mono ?_));(case side1 => exact Z23);(case side2 => exact HC122.out);rintro e w' ⟨rfl,⟨nd,rfl⟩⟩;(try first | exact ⟨rfl,_,dD⟩ | exact ⟨rfl,_,dT⟩)));try go_wp2_with (first | (go_at_call 27;(with_reducible refine (spec_NameOk.calls k2 (rdOf ByteArray.empty l0_0 x4_2) true _ A21.out).mono ?_);rintro e w' ⟨rfl,⟨nd,rfl⟩⟩;(try first | exact ⟨rfl,_,dD⟩ | exact ⟨rfl,_,dT⟩)) | (go_at_call 28;(with_reducible refine take_at_ (xs := l0_0) (j := x4_2) (of_decide_eq_true Z105) (of_decide_eq_true Z105) ((spec_l9Has.calls k2 _ _ (l0_0.take (x4_2 : Int).toNat) (rdOf ByteArray.empty l0_0 x4_2) true _ ?side1 ?side2 A25.out).mono ?_));(case side1 => exact Z23);(case side2 => exact HC122.out);rintro e w' ⟨rfl,⟨nd,rfl⟩⟩;(try first | exact ⟨rfl,_,dD⟩ | exact ⟨rfl,_,dT⟩))))
       go_ret
       exact ⟨Z98,Z130⟩
      replace c26 := Bool.eq_false_iff.mpr c26
      subst c26
      rw [if_neg Bool.false_ne_true] at H
      have H' := Aside0.mk H
      clear H
      obtain ⟨hcz29_0,hcz29_1,hcz29_2,hcz29_3,hfz29_0,hfz29_1,hfz29_2,hfz29_3⟩ := cells4 BK115.out
      have p120 : 0 ≤ (x4_2 : Int) := of_decide_eq_true Z105
      have q120 : x4_2 < (l0_0.length : Int) := of_decide_eq_true Z105
      obtain ⟨ad120,e120,hx120_0⟩ := Kd.at_string HR0_0.out x4_2 p120 q120
      cases e120
      replace hx120_0 := (HB.out.cell (World.block_lt_of_cell? w _ hx120_0)).trans hx120_0
      replace p120 := eq_true p120
      replace q120 := eq_true q120
      obtain ⟨i030,hi030,_,hsz30,_⟩ := info_parts info9
      obtain ⟨hcut30,hA30,hC30⟩ := print_take_of (P := Tryd.prog) Value.string (⟨#[]⟩ : ByteArray) 22 9 .i64 Tryd.underlying22 hi030 hsz30 (some ad120) c0_0 l0_0 x4_2 (of_decide_eq_true Z105) (of_decide_eq_true Z105) HC0_0.out
      have HR122 := Aside0.mk (Kd.C_of_reads (h1 := fun _ => rfl) (hA30 _ (Kd.reads_of_C HR0_0.out)))
      have HC122 := Aside0.mk hC30
      clear hA30 hC30 hi030 hsz30
      have p123 : 0 ≤ (x4_2 : Int) := of_decide_eq_true Z105
      have q123 : x4_2 < (l0_0.length : Int) := of_decide_eq_true Z105
      obtain ⟨ad123,e123,hx123_0⟩ := Kd.at_string HR0_0.out x4_2 p123 q123
      obtain rfl : ad120 = ad123 := (by injection e123)
      replace hx123_0 := (HB.out.cell (World.block_lt_of_cell? w _ hx123_0)).trans hx123_0
      replace p123 := eq_true p123
      replace q123 := eq_true q123
      go_wp2_with (first | (go_at_call 27;(with_reducible refine (spec_NameOk.calls k2 (rdOf ByteArray.empty l0_0 x4_2) true _ A21.out).mono ?_);rintro e w' ⟨rfl,⟨nd,rfl⟩⟩;(try first | exact ⟨rfl,_,dD⟩ | exact ⟨rfl,_,dT⟩)) | (go_at_call 28;(with_reducible refine take_at_ (xs := l0_0) (j := x4_2) (of_decide_eq_true Z105) (of_decide_eq_true Z105) ((spec_l9Has.calls k2 _ _ (l0_0.take (x4_2 : Int).toNat) (rdOf ByteArray.empty l0_0 x4_2) false _ ?side1 ?side2 A25.out).mono ?_));(case side1 => exact Z23);(case side2 => exact HC122.out);rintro e w' ⟨rfl,⟨nd,rfl⟩⟩;(try first | exact ⟨rfl,_,dD⟩ | exact ⟨rfl,_,dT⟩)))
      repeat (go_quiet (first | (go_at_call 27;(with_reducible refine (spec_NameOk.calls k2 (rdOf ByteArray.empty l0_0 x4_2) true _ A21.out).mono ?_);rintro e w' ⟨rfl,⟨nd,rfl⟩⟩;(try first | exact ⟨rfl,_,dD⟩ | exact ⟨rfl,_,dT⟩)) | (go_at_call 28;(with_reducible refine take_at_ (xs := l0_0) (j := x4_2) (of_decide_eq_true Z105) (of_decide_eq_true Z105) ((spec_l9Has.calls k2 _ _ (l0_0.take (x4_2 : Int).toNat) (rdOf ByteArray.empty l0_0 x4_2) false _ ?side1 ?side2 A25.out).mono ?_));(case side1 => exact Z23);(case side2 => exact HC122.out);rintro e w' ⟨rfl,⟨nd,rfl⟩⟩;(try first | exact ⟨rfl,_,dD⟩ | exact ⟨rfl,_,dT⟩)));try go_wp2_with (first | (go_at_call 27;(with_reducible refine (spec_NameOk.calls k2 (rdOf ByteArray.empty l0_0 x4_2) true _ A21.out).mono ?_);rintro e w' ⟨rfl,⟨nd,rfl⟩⟩;(try first | exact ⟨rfl,_,dD⟩ | exact ⟨rfl,_,dT⟩)) | (go_at_call 28;(with_reducible refine take_at_ (xs := l0_0) (j := x4_2) (of_decide_eq_true Z105) (of_decide_eq_true Z105) ((spec_l9Has.calls k2 _ _ (l0_0.take (x4_2 : Int).toNat) (rdOf ByteArray.empty l0_0 x4_2) false _ ?side1 ?side2 A25.out).mono ?_));(case side1 => exact Z23);(case side2 => exact HC122.out);rintro e w' ⟨rfl,⟨nd,rfl⟩⟩;(try first | exact ⟨rfl,_,dD⟩ | exact ⟨rfl,_,dT⟩))))
      go_roundg k2
      case measure => have := HJ1.out;have := HK2.out;omega
      case rel => exact ⟨(wrap64 (x4_2 + 1)),Z106,H',⟨Z109⟩,⟨Z112⟩,⟨Z130⟩⟩
     rw [if_neg c18] at H
     have c18b0 : decide (x4_2 < (l0_0.length : Int)) = false := decide_eq_false c18
     clear c18
     have H' := Aside0.mk H
     clear H
     go_wp2
     repeat (go_quiet (fail);try go_wp2)
     go_loopg [5] k2 (fun kq v5 w' => ∃ (x5_3 : Int),v5 = .int .i64 x5_3 ∧ Aside0 (spec_TableOk.l1 kq (l0_0.length : Int) x5_3 l0_0 a0_1 l0_2 l0_3 = some r) ∧ Aside0 (kq ≤ k2) ∧ Aside0 (w'.heap[gb115]? = some (.cells #[(.slice A0_0 l0_0.length c0_0),.string a0_1,(.slice A0_2 l0_2.length c0_2),(.slice A0_3 l0_3.length c0_3)] 29 (0,0))) ∧ Aside0 (Below w.heap.size w w'))
     case atStart => exact ⟨(0),Z106,H',⟨Nat.le_refl _⟩,⟨Z112⟩,⟨Z130⟩⟩
     case round =>
      clear H'
      try clear c1
      try clear p1
      try clear q1
      try clear hx1
      try clear c2
      try clear p2
      try clear c6
      try clear p6
      try clear c8
      try clear c10
      try clear c12
      try clear p12
      try clear q12
      try clear hx12
      try clear c13
      try clear c17
      try clear c18
      try clear c18b0
      try clear c19
      try clear c19b0
      try clear c20
      try clear c20b0
      try clear c22
      try clear c23
      try clear c23b0
      try clear c24
      try clear c24b0
      try clear c24b1
      try clear c26
      try clear hx120_0
      try clear hx123_0
      try clear p120
      try clear p123
      try clear p2
      try clear q120
      try clear q123
      obtain ⟨x5_3,rfl,HA,HK3,BK115,HB⟩ := hrel
      cases gk with
      | zero => exact absurd HA.out (by simp [spec_TableOk.l1])
      | succ k3 =>
       have H := HA.out
       clear HA
       simp only [spec_TableOk.l1] at H
       by_cases c32 : x5_3 < (l0_2.length : Int)
       rotate_left
       ·rw [if_neg c32] at H
        have c32b0 : decide (x5_3 < (l0_2.length : Int)) = false := decide_eq_false c32
        clear c32
        obtain rfl := Option.some.inj H
        obtain ⟨hcz51_0,hcz51_1,hcz51_2,hcz51_3,hfz51_0,hfz51_1,hfz51_2,hfz51_3⟩ := cells4 BK115.out
        go_wp2
        repeat (go_quiet (fail);try go_wp2)
        go_ret
        exact ⟨Z98,Z130⟩
       rw [if_pos c32] at H
       have c32b0 : decide (x5_3 < (l0_2.length : Int)) = true := decide_eq_true c32
       clear c32
       have HC33 := Aside0.mk H
       clear H
       obtain ⟨hcz34_0,hcz34_1,hcz34_2,hcz34_3,hfz34_0,hfz34_1,hfz34_2,hfz34_3⟩ := cells4 BK115.out
       go_upto_region 12 with (fail)
       repeat (go_quiet (fail);go_upto_region 12 with (fail))
       go_cut [89] (fun v89 wc => ∃ (kq : Nat) (x89_32 : Bool),v89 = .bool x89_32 ∧ Aside0 (spec_TableOk.j3 kq (l0_0.length : Int) x5_3 x89_32 l0_0 a0_1 l0_2 l0_3 = some r) ∧ Aside0 (kq ≤ k3) ∧ Aside0 (wc.heap[gb115]? = some (.cells #[(.slice A0_0 l0_0.length c0_0),.string a0_1,(.slice A0_2 l0_2.length c0_2),(.slice A0_3 l0_3.length c0_3)] 29 (0,0))) ∧ Aside0 (Below w.heap.size w wc))
       case first =>
        have H := HC33.out
        clear HC33
        obtain ⟨c35,H⟩ := ifp H
        have c35b0 : decide (0 ≤ x5_3) = true := decide_eq_true c35
        clear c35
        (first | rw [c35b0] | (simp only [i64_w,i32_w];rw [c35b0]) | skip)
        by_cases c36 : ((rd_L2 l0_2 x5_3).length : Int) = (l0_0.length : Int)
        rotate_left
        ·rw [if_neg c36] at H
         have c36b0 : (((rd_L2 l0_2 x5_3).length : Int) == (l0_0.length : Int)) = false := beq_eq_false_iff_ne.mpr c36
         have c36b1 : (((rd_L2 l0_2 x5_3).length : Int) != (l0_0.length : Int)) = true := bne_iff_ne.mpr c36
         have c36b2 : ((rd_L2 l0_2 x5_3).length == l0_0.length) = false := by first | simpa using c36 | (simp at c36 ⊢;omega)
         have H' := Aside0.mk H
         clear H
         obtain ⟨hcz40_0,hcz40_1,hcz40_2,hcz40_3,hfz40_0,hfz40_1,hfz40_2,hfz40_3⟩ := cells4 BK115.out
         have p125 : 0 ≤ (x5_3 : Int) := of_decide_eq_true Z105
         have q125 : x5_3 < (l0_2.length : Int) := of_decide_eq_true Z105
         obtain ⟨ad125,A125_0,c125_0,e125,hx125_0,hl125_0,hi125_0⟩ := at_L2 HR0_2.out x5_3 p125 q125
         cases e125
         replace hx125_0 := (HB.out.cell (World.block_lt_of_cell? w _ hx125_0)).trans hx125_0
         have HR125_0 := Aside0.mk hi125_0
         have HC125_0 := Aside0.mk hl125_0
         clear hi125_0 hl125_0
         replace p125 := eq_true p125
         replace q125 := eq_true q125
         go_wp2
         repeat (go_quiet (fail);try go_wp2)
         go_meet
         case rel => exact ⟨_,(true),Z106,H',⟨Z102⟩,⟨Z112⟩,⟨Z130⟩⟩
        rw [if_pos c36] at H
        have c36b0 : (((rd_L2 l0_2 x5_3).length : Int) == (l0_0.length : Int)) = true := beq_iff_eq.mpr c36
        have c36b1 : (((rd_L2 l0_2 x5_3).length : Int) != (l0_0.length : Int)) = false := bne_eq_false_iff_eq.mpr c36
        have c36b2 : ((rd_L2 l0_2 x5_3).length == l0_0.length) = true := by first | simpa using c36 | (simp at c36 ⊢;omega)
        clear c36
        obtain ⟨c37,H⟩ := ifp H
        have c37b0 : decide (x5_3 < (l0_3.length : Int)) = true := decide_eq_true c37
        clear c37
        obtain ⟨t127,A380,H⟩ := Option.bind_eq_some_iff.mp H
        have A38 := Aside0.mk A380
        clear A380
        have H' := Aside0.mk H
        clear H
        obtain ⟨hcz39_0,hcz39_1,hcz39_2,hcz39_3,hfz39_0,hfz39_1,hfz39_2,hfz39_3⟩ := cells4 BK115.out
        have p125 : 0 ≤ (x5_3 : Int) := of_decide_eq_true Z105
        have q125 : x5_3 < (l0_2.length : Int) := of_decide_eq_true Z105
        obtain ⟨ad125,A125_0,c125_0,e125,hx125_0,hl125_0,hi125_0⟩ := at_L2 HR0_2.out x5_3 p125 q125
        cases e125
        replace hx125_0 := (HB.out.cell (World.block_lt_of_cell? w _ hx125_0)).trans hx125_0
        have HR125_0 := Aside0.mk hi125_0
        have HC125_0 := Aside0.mk hl125_0
        clear hi125_0 hl125_0
        replace p125 := eq_true p125
        replace q125 := eq_true q125
        have p126 : 0 ≤ (x5_3 : Int) := of_decide_eq_true Z105
        have q126 : x5_3 < (l0_3.length : Int) := of_decide_eq_true Z105
        obtain ⟨ad126,e126,hx126_0⟩ := Kd.at_int HR0_3.out x5_3 p126 q126
        cases e126
        replace hx126_0 := (HB.out.cell (World.block_lt_of_cell? w _ hx126_0)).trans hx126_0
        replace p126 := eq_true p126
        replace q126 := eq_true q126
        go_wp2_with (first | (go_at_call 29;(with_reducible refine (spec_l6Value.calls (rd l0_3 x5_3) t127 _ A38.out).mono ?_);rintro e w' ⟨rfl,⟨nd,rfl⟩⟩;(try first | exact ⟨rfl,_,dD⟩ | exact ⟨rfl,_,dT⟩)))
        repeat (go_quiet (first | (go_at_call 29;(with_reducible refine (spec_l6Value.calls (rd l0_3 x5_3) t127 _ A38.out).mono ?_);rintro e w' ⟨rfl,⟨nd,rfl⟩⟩;(try first | exact ⟨rfl,_,dD⟩ | exact ⟨rfl,_,dT⟩)));try go_wp2_with (first | (go_at_call 29;(with_reducible refine (spec_l6Value.calls (rd l0_3 x5_3) t127 _ A38.out).mono ?_);rintro e w' ⟨rfl,⟨nd,rfl⟩⟩;(try first | exact ⟨rfl,_,dD⟩ | exact ⟨rfl,_,dT⟩))))
        go_meet
        case rel => exact ⟨_,(!t127),Z106,H',⟨Z102⟩,⟨Z112⟩,⟨Z130⟩⟩
       case rest =>
        clear HC33
        try clear c1
        try clear p1
        try clear q1
        try clear hx1
        try clear c2
        try clear p2
        try clear c3
        try clear c6
        try clear p6
        try clear c8
        try clear c10
        try clear c12
        try clear p12
        try clear q12
        try clear hx12
        try clear c13
        try clear c17
        try clear c18
        try clear c18b0
        try clear c19
        try clear c19b0
        try clear c20
        try clear c20b0
        try clear c22
        try clear c23
        try clear c23b0
        try clear c24
        try clear c24b0
        try clear c24b1
        try clear c26
        try clear c32
        try clear c32b0
        try clear c35
        try clear c35b0
        try clear c36
        try clear c36b0
        try clear c36b1
        try clear c36b2
        try clear c37
        try clear c37b0
        try clear hx120_0
        try clear hx123_0
        try clear hx125_0
        try clear hx126_0
        try clear p1
        try clear p12
        try clear p120
        try clear p123
        try clear p125
        try clear p126
        try clear p2
        try clear p6
        try clear q1
        try clear q12
        try clear q120
        try clear q123
        try clear q125
        try clear q126
        obtain ⟨kq,x89_32,rfl,HA,HJ32,BK115,HB⟩ := hcut
        cases kq with
        | zero => exact absurd HA.out (by simp [spec_TableOk.j3])
        | succ kj32 =>
         have H := HA.out
         clear HA
         simp only [spec_TableOk.j3] at H
         by_cases c41 : x89_32 = true
         ·subst c41
          rw [if_pos rfl] at H
          obtain rfl := Option.some.inj H
          go_wp2
          repeat (go_quiet (fail);try go_wp2)
          go_ret
          exact ⟨Z98,Z130⟩
         replace c41 := Bool.eq_false_iff.mpr c41
         subst c41
         rw [if_neg Bool.false_ne_true] at H
         have H' := Aside0.mk H
         clear H
         go_wp2
         repeat (go_quiet (fail);try go_wp2)
         go_loopg [6] kj32 (fun kq v6 w' => ∃ (x6_5 : Int),v6 = .int .i64 x6_5 ∧ Aside0 (spec_TableOk.l2 kq (l0_0.length : Int) x5_3 x6_5 l0_0 a0_1 l0_2 l0_3 = some r) ∧ Aside0 (kq ≤ kj32) ∧ Aside0 (w'.heap[gb115]? = some (.cells #[(.slice A0_0 l0_0.length c0_0),.string a0_1,(.slice A0_2 l0_2.length c0_2),(.slice A0_3 l0_3.length c0_3)] 29 (0,0))) ∧ Aside0 (Below w.heap.size w w'))
         case atStart => exact ⟨(0),Z106,H',⟨Nat.le_refl _⟩,⟨Z112⟩,⟨Z130⟩⟩
         case round =>
          clear H'
          try clear c1
          try clear p1
          try clear q1
          try clear hx1
          try clear c2
          try clear p2
          try clear c3
          try clear c4
          try clear c6
          try clear p6
          try clear c8
          try clear c10
          try clear c12
          try clear p12
          try clear q12
          try clear hx12
          try clear c13
          try clear c17
          try clear c18
          try clear c18b0
          try clear c19
          try clear c19b0
          try clear c20
          try clear c20b0
          try clear c22
          try clear c23
          try clear c23b0
          try clear c24
          try clear c24b0
          try clear c24b1
          try clear c26
          try clear c32
          try clear c32b0
          try clear c35
          try clear c35b0
          try clear c36
          try clear c36b0
          try clear c36b1
          try clear c36b2
          try clear c37
          try clear c37b0
          try clear c41
          try clear hx120_0
          try clear hx123_0
          try clear hx125_0
          try clear hx126_0
          try clear p1
          try clear p12
          try clear p120
          try clear p123
          try clear p125
          try clear p126
          try clear p2
          try clear p6
          try clear q1
          try clear q12
          try clear q120
          try clear q123
          try clear q125
          try clear q126
          obtain ⟨x6_5,rfl,HA,HK5,BK115,HB⟩ := hrel
          cases gk with
          | zero => exact absurd HA.out (by simp [spec_TableOk.l2])
          | succ k5 =>
           have H := HA.out
           clear HA
           simp only [spec_TableOk.l2] at H
           by_cases c42 : x6_5 < (l0_0.length : Int)
           rotate_left
           ·rw [if_neg c42] at H
            have c42b0 : decide (x6_5 < (l0_0.length : Int)) = false := decide_eq_false c42
            clear c42
            have H' := Aside0.mk H
            clear H
            go_wp2
            repeat (go_quiet (fail);try go_wp2)
            go_roundg k5
            case measure => have := HJ1.out;have := HK2.out;have := HK3.out;have := HJ32.out;have := HK5.out;omega
            case rel => exact ⟨(wrap64 (x5_3 + 1)),Z106,H',⟨Z101⟩,⟨Z112⟩,⟨Z130⟩⟩
           rw [if_pos c42] at H
           have c42b0 : decide (x6_5 < (l0_0.length : Int)) = true := decide_eq_true c42
           clear c42
           obtain ⟨c43,H⟩ := ifp H
           have c43b0 : decide (0 ≤ x5_3) = true := decide_eq_true c43
           clear c43
           obtain ⟨c44,H⟩ := ifp H
           have c44b0 : decide (x5_3 < (l0_2.length : Int)) = true := decide_eq_true c44
           clear c44
           obtain ⟨c45,H⟩ := ifp H
           have c45b0 : decide (0 ≤ x6_5) = true := decide_eq_true c45
           clear c45
           obtain ⟨c46,H⟩ := ifp H
           have c46b0 : decide (x6_5 < ((rd_L2 l0_2 x5_3).length : Int)) = true := decide_eq_true c46
           clear c46
           obtain ⟨t130,A470,H⟩ := Option.bind_eq_some_iff.mp H
           have A47 := Aside0.mk A470
           clear A470
           by_cases c48 : t130 = true
           rotate_left
           ·replace c48 := Bool.eq_false_iff.mpr c48
            subst c48
            rw [if_neg Bool.false_ne_true] at H
            obtain rfl := Option.some.inj H
            obtain ⟨hcz50_0,hcz50_1,hcz50_2,hcz50_3,hfz50_0,hfz50_1,hfz50_2,hfz50_3⟩ := cells4 BK115.out
            have p128 : 0 ≤ (x5_3 : Int) := of_decide_eq_true Z105
            have q128 : x5_3 < (l0_2.length : Int) := of_decide_eq_true Z105
            obtain ⟨ad128,A128_0,c128_0,e128,hx128_0,hl128_0,hi128_0⟩ := at_L2 HR0_2.out x5_3 p128 q128
            cases e128
            replace hx128_0 := (HB.out.cell (World.block_lt_of_cell? w _ hx128_0)).trans hx128_0
            have HR128_0 := Aside0.mk hi128_0
            have HC128_0 := Aside0.mk hl128_0
            clear hi128_0 hl128_0
            replace p128 := eq_true p128
            replace q128 := eq_true q128
            have p129 : 0 ≤ (x6_5 : Int) := of_decide_eq_true Z105
            have q129 : x6_5 < ((rd_L2 l0_2 x5_3).length : Int) := of_decide_eq_true Z105
            obtain ⟨ad129,e129,hx129_0⟩ := Kd.at_int HR128_0.out x6_5 p129 q129
            cases e129
            replace hx129_0 := (HB.out.cell (World.block_lt_of_cell? w _ hx129_0)).trans hx129_0
            replace p129 := eq_true p129
            replace q129 := eq_true q129
            go_wp2_with (first | (go_at_call 29;(with_reducible refine (spec_l6Value.calls (rd (rd_L2 l0_2 x5_3) x6_5) false _ A47.out).mono ?_);rintro e w' ⟨rfl,⟨nd,rfl⟩⟩;(try first | exact ⟨rfl,_,dD⟩ | exact ⟨rfl,_,dT⟩)))
            repeat (go_quiet (first | (go_at_call 29;(with_reducible refine (spec_l6Value.calls (rd (rd_L2 l0_2 x5_3) x6_5) false _ A47.out).mono ?_);rintro e w' ⟨rfl,⟨nd,rfl⟩⟩;(try first | exact ⟨rfl,_,dD⟩ | exact ⟨rfl,_,dT⟩)));try go_wp2_with (first | (go_at_call 29;(with_reducible refine (spec_l6Value.calls (rd (rd_L2 l0_2 x5_3) x6_5) false _ A47.out).mono ?_);rintro e w' ⟨rfl,⟨nd,rfl⟩⟩;(try first | exact ⟨rfl,_,dD⟩ | exact ⟨rfl,_,dT⟩))))
            go_ret
            exact ⟨Z98,Z130⟩
           subst c48
           rw [if_pos rfl] at H
           have H' := Aside0.mk H
           clear H
           obtain ⟨hcz49_0,hcz49_1,hcz49_2,hcz49_3,hfz49_0,hfz49_1,hfz49_2,hfz49_3⟩ := cells4 BK115.out
           have p128 : 0 ≤ (x5_3 : Int) := of_decide_eq_true Z105
           have q128 : x5_3 < (l0_2.length : Int) := of_decide_eq_true Z105
           obtain ⟨ad128,A128_0,c128_0,e128,hx128_0,hl128_0,hi128_0⟩ := at_L2 HR0_2.out x5_3 p128 q128
           cases e128
           replace hx128_0 := (HB.out.cell (World.block_lt_of_cell? w _ hx128_0)).trans hx128_0
           have HR128_0 := Aside0.mk hi128_0
           have HC128_0 := Aside0.mk hl128_0
           clear hi128_0 hl128_0
           replace p128 := eq_true p128
           replace q128 := eq_true q128
           have p129 : 0 ≤ (x6_5 : Int) := of_decide_eq_true Z105
           have q129 : x6_5 < ((rd_L2 l0_2 x5_3).length : Int) := of_decide_eq_true Z105
           obtain ⟨ad129,e129,hx129_0⟩ := Kd.at_int HR128_0.out x6_5 p129 q129
           cases e129
           replace hx129_0 := (HB.out.cell (World.block_lt_of_cell? w _ hx129_0)).trans hx129_0
           replace p129 := eq_true p129
           replace q129 := eq_true q129
           go_wp2_with (first | (go_at_call 29;(with_reducible refine (spec_l6Value.calls (rd (rd_L2 l0_2 x5_3) x6_5) true _ A47.out).mono ?_);rintro e w' ⟨rfl,⟨nd,rfl⟩⟩;(try first | exact ⟨rfl,_,dD⟩ | exact ⟨rfl,_,dT⟩)))
           repeat (go_quiet (first | (go_at_call 29;(with_reducible refine (spec_l6Value.calls (rd (rd_L2 l0_2 x5_3) x6_5) true _ A47.out).mono ?_);rintro e w' ⟨rfl,⟨nd,rfl⟩⟩;(try first | exact ⟨rfl,_,dD⟩ | exact ⟨rfl,_,dT⟩)));try go_wp2_with (first | (go_at_call 29;(with_reducible refine (spec_l6Value.calls (rd (rd_L2 l0_2 x5_3) x6_5) true _ A47.out).mono ?_);rintro e w' ⟨rfl,⟨nd,rfl⟩⟩;(try first | exact ⟨rfl,_,dD⟩ | exact ⟨rfl,_,dT⟩))))
           go_roundg k5
           case measure => have := HJ1.out;have := HK2.out;have := HK3.out;have := HJ32.out;have := HK5.out;omega
           case rel => exact ⟨(wrap64 (x6_5 + 1)),Z106,H',⟨Z101⟩,⟨Z112⟩,⟨Z130⟩⟩

end Go.Proofs.YtepnbcdbagjmbabDoor.QFnExactTableText
