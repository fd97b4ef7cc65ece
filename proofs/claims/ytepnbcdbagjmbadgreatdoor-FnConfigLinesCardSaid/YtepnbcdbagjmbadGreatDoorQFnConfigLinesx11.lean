/- The machine side of FnConfigLines: what each Go function that it reaches comes to. Conditions: none. -/
import Derived.Test.YtepnbcdbagjmbadGreatDoorQFnConfigLinesx0
import Derived.Test.YtepnbcdbagjmbadGreatDoorQFnConfigLinesx1
import Derived.Test.YtepnbcdbagjmbadGreatDoorQFnConfigLinesx10
namespace Go.Proofs.YtepnbcdbagjmbadGreatDoor.QFnConfigLines
open Go.RowKit Go.Proofs.YtepnbcdbagjmbadGreatDoorW.PrintWords Go.Proofs.YtepnbcdbagjmbadGreatDoorW.PrintLast Go.Proofs.YtepnbcdbagjmbadGreatDoorW.PrintMore
attribute [local go_sem] max2_int min2_int max_two min_two max_three min_three max_four min_four   -- for this text's walks alone
set_option linter.unusedVariables false
set_option linter.unusedSimpArgs false

/-! ### impl_Config_set: function 26 -/
def impl_Config_set.place (a1 : ByteArray) : Nat × Int × Int := if a1.toList = ([114,111,117,110,100,115] : List UInt8) then (0,1,8) else if a1.toList = ([100,101,112,116,104] : List UInt8) then (1,0,4) else if a1.toList = ([98,105,110,115] : List UInt8) then (2,2,8) else if a1.toList = ([108,97,109,98,100,97] : List UInt8) then (3,1,100) else (4,1,20)
def impl_Config_set.num (x0 x1 x2 x3 x4 x5 x6 : Int) (l7 : List Int) (a1 : ByteArray) (n : Int) (i : Nat) : Int × Int × Int × Int × Int × Int × Int × Int × List Int := (0,if i = 0 then n else x0,if i = 1 then n else x1,if i = 2 then n else x2,if i = 3 then n else x3,if i = 4 then n else x4,x5,x6,l7)
def impl_Config_set.f (k : Nat) (x0 x1 x2 x3 x4 x5 x6 : Int) (l7 : List Int) (a1 a2 : ByteArray) : Option (Int × Int × Int × Int × Int × Int × Int × Int × List Int) :=
 if a1.toList = ([115,105,103,110,115] : List UInt8) then (impl_readSigns.f k a2).bind fun t => (if t.2 = true then some (0,x0,x1,x2,x3,x4,x5,x6,t.1) else some (14,x0,x1,x2,x3,x4,x5,x6,l7))
 else if a1.toList = ([114,97,116,101] : List UInt8) then (strings_Cut.f a2 (⟨#[47]⟩ : ByteArray)).bind fun t => (impl_Number.f t.1).bind fun n => (impl_Number.f t.2.1).bind fun d => (if n.2 = true then (if d.2 = true then (impl_within.f d.1 1 1000).bind fun b => (if b = true then (impl_within.f n.1 1 d.1).bind fun c => (if c = true then some (0,x0,x1,x2,x3,x4,n.1,d.1,l7) else some (13,x0,x1,x2,x3,x4,x5,x6,l7)) else some (13,x0,x1,x2,x3,x4,x5,x6,l7)) else some (12,x0,x1,x2,x3,x4,x5,x6,l7)) else some (12,x0,x1,x2,x3,x4,x5,x6,l7))
 else (impl_Number.f a2).bind fun n => (if n.2 = true then (impl_within.f n.1 (impl_Config_set.place a1).2.1 (impl_Config_set.place a1).2.2).bind fun b => (if b = true then some (impl_Config_set.num x0 x1 x2 x3 x4 x5 x6 l7 a1 n.1 (impl_Config_set.place a1).1) else some (13,x0,x1,x2,x3,x4,x5,x6,l7)) else some (12,x0,x1,x2,x3,x4,x5,x6,l7))
theorem impl_Config_set.mono : ∀ x0 x1 x2 x3 x4 x5 x6 l7 a1 a2 k,LeO (impl_Config_set.f k x0 x1 x2 x3 x4 x5 x6 l7 a1 a2) (impl_Config_set.f (k + 1) x0 x1 x2 x3 x4 x5 x6 l7 a1 a2) := by
 intro x0 x1 x2 x3 x4 x5 x6 l7 a1 a2 k
 unfold impl_Config_set.f
 exact LeO.ite (LeO.bind (impl_readSigns.mono _ _) (fun _ => LeO.refl _)) (LeO.refl _)
set_option maxHeartbeats 8000000 in
set_option maxRecDepth 100000 in
theorem impl_Config_set.place_calls (g : Nat) (a1 : ByteArray) (w : World) : Calls Tryz.prog 45 #[.pointer (some ⟨g,0,none⟩),.string a1] w fun e w' => e = .returned (.tuple #[.pointer (some ⟨g,(impl_Config_set.place a1).1,none⟩),.int .i64 (impl_Config_set.place a1).2.1,.int .i64 (impl_Config_set.place a1).2.2]) ∧ Drawn0 w w' := by
 have hu := Tryz.underlying26
 unfold impl_Config_set.place
 by_cases c0 : a1.toList = ([114,111,117,110,100,115] : List UInt8)
 ·rw [if_pos c0]
  have b0 : (a1.toList == ([114,111,117,110,100,115] : List UInt8)) = true := beq_iff_eq.mpr c0
  go_enter Tryz.func45,Tryz.ntmps45
  go_wp2
  go_ret3
  exact ⟨rfl,⟨0,rfl⟩⟩
 rw [if_neg c0]
 have b0 : (a1.toList == ([114,111,117,110,100,115] : List UInt8)) = false := beq_eq_false_iff_ne.mpr c0
 by_cases c1 : a1.toList = ([100,101,112,116,104] : List UInt8)
 ·rw [if_pos c1]
  have b1 : (a1.toList == ([100,101,112,116,104] : List UInt8)) = true := beq_iff_eq.mpr c1
  go_enter Tryz.func45,Tryz.ntmps45
  go_wp2
  go_ret3
  exact ⟨rfl,⟨0,rfl⟩⟩
 rw [if_neg c1]
 have b1 : (a1.toList == ([100,101,112,116,104] : List UInt8)) = false := beq_eq_false_iff_ne.mpr c1
 by_cases c2 : a1.toList = ([98,105,110,115] : List UInt8)
 ·rw [if_pos c2]
  have b2 : (a1.toList == ([98,105,110,115] : List UInt8)) = true := beq_iff_eq.mpr c2
  go_enter Tryz.func45,Tryz.ntmps45
  go_wp2
  go_ret3
  exact ⟨rfl,⟨0,rfl⟩⟩
 rw [if_neg c2]
 have b2 : (a1.toList == ([98,105,110,115] : List UInt8)) = false := beq_eq_false_iff_ne.mpr c2
 by_cases c3 : a1.toList = ([108,97,109,98,100,97] : List UInt8)
 ·rw [if_pos c3]
  have b3 : (a1.toList == ([108,97,109,98,100,97] : List UInt8)) = true := beq_iff_eq.mpr c3
  go_enter Tryz.func45,Tryz.ntmps45
  go_wp2
  go_ret3
  exact ⟨rfl,⟨0,rfl⟩⟩
 rw [if_neg c3]
 have b3 : (a1.toList == ([108,97,109,98,100,97] : List UInt8)) = false := beq_eq_false_iff_ne.mpr c3
 go_enter Tryz.func45,Tryz.ntmps45
 go_wp2
 go_ret3
 exact ⟨rfl,⟨0,rfl⟩⟩
def impl_Config_set.At (w0 w : World) (g : Nat) (cs : Array Value) (u : Value) (l : List Int) (W : World) : Prop := W.heap[g]? = some (.cells cs 26 (0,0)) ∧ Kd.R (Kd.int .i64) 3 W w0.heap.size (fun _ => True) u l ∧ Below w0.heap.size w0 W ∧ KeepBut w W g none
theorem impl_Config_set.at_ {w0 w W : World} {g : Nat} {cs : Array Value} {u : Value} {l : List Int} (hc : w.heap[g]? = some (.cells cs 26 (0,0))) (ho : Kd.R (Kd.int .i64) 3 w w0.heap.size (fun _ => True) u l) (hB : Below w0.heap.size w0 w) (HB : Below w.heap.size w W) : impl_Config_set.At w0 w g cs u l W :=
 ⟨blk_below hc HB,Kd.R_below ho HB,below_step hB HB,KeepBut.of_below HB g none⟩
theorem impl_Config_set.put {w0 w W : World} {g : Nat} {cs cs' : Array Value} {u : Value} {l : List Int} (H : impl_Config_set.At w0 w g cs u l W) (hg : w0.heap.size ≤ g) (j : Nat) (x : Value) (e : cs.setIfInBounds j x = cs') : impl_Config_set.At w0 w g cs' u l (W.setCell ⟨g,j,none⟩ x) :=
 ⟨blk_put H.1 j x e,Kd.R_mono (Kd.R_far (p := ⟨g,j,none⟩) (Kd.R_types H.2.1 H.1 Z163) (fun _ hk => hk.2) x) (fun _ _ => trivial),below_set H.2.2.1 hg,H.2.2.2.set_ j x⟩
theorem impl_Config_set.row {w0 w W : World} {g : Nat} {cs : Array Value} {u u' : Value} {l l' : List Int} (H : impl_Config_set.At w0 w g cs u l W) (hr : Kd.R (Kd.int .i64) 3 W w0.heap.size (fun _ => True) u' l') : impl_Config_set.At w0 w g cs u' l' W := ⟨H.1,hr,H.2.2.1,H.2.2.2⟩
set_option maxHeartbeats 8000000 in
set_option maxRecDepth 100000 in
theorem impl_Config_set.calls (k : Nat) (g : Nat) (x0 x1 x2 x3 x4 x5 x6 : Int) (l7 : List Int) (u7 : Value) (a1 a2 : ByteArray) (r0 y0 y1 y2 y3 y4 y5 y6 : Int) (ys : List Int) (w0 w : World) (hg : w0.heap.size ≤ g) (hc : w.heap[g]? = some (.cells #[.int .i64 x0,.int .i64 x1,.int .i64 x2,.int .i64 x3,.int .i64 x4,.int .i64 x5,.int .i64 x6,u7] 26 (0,0))) (ho : Kd.R (Kd.int .i64) 3 w w0.heap.size (fun _ => True) u7 l7) (hB : Below w0.heap.size w0 w) (hG : GT w0) (h : impl_Config_set.f k x0 x1 x2 x3 x4 x5 x6 l7 a1 a2 = some (r0,y0,y1,y2,y3,y4,y5,y6,ys)) :
  Calls Tryz.prog 26 #[.pointer (some ⟨g,0,none⟩),.string a1,.string a2] w fun e w' => ∃ v_ : Value,e = .returned (.int .i64 r0) ∧ w'.heap[g]? = some (.cells #[.int .i64 y0,.int .i64 y1,.int .i64 y2,.int .i64 y3,.int .i64 y4,.int .i64 y5,.int .i64 y6,v_] 26 (0,0)) ∧ Kd.R (Kd.int .i64) 3 w' w0.heap.size (fun _ => True) v_ ys ∧ Below w0.heap.size w0 w' ∧ KeepBut w w' g none := by
 have HG := Aside0.mk (GT_below hG hB)
 have HC := Aside0.mk hc
 have HO := Aside0.mk ho
 have HB0 := Aside0.mk hB
 have HB := Aside0.mk (Below.refl w.heap.size w)
 have hu := Tryz.underlying26
 clear hG hc ho hB
 unfold impl_Config_set.f at h
 by_cases cs : a1.toList = ([115,105,103,110,115] : List UInt8)
 ·rw [if_pos cs] at h
  have bs : (a1.toList == ([115,105,103,110,115] : List UInt8)) = true := beq_iff_eq.mpr cs
  obtain ⟨⟨l,ok⟩,h1,h⟩ := Option.bind_eq_some_iff.mp h
  have A1 := Aside0.mk h1
  clear h1
  cases ok with
  | true =>
   rw [if_pos rfl] at h
   simp only [Option.some.injEq,Prod.mk.injEq] at h;obtain ⟨rfl,rfl,rfl,rfl,rfl,rfl,rfl,rfl,rfl⟩ := h
   go_enter Tryz.func26,Tryz.ntmps26
   go_wp2_with (first
    | (go_at_call 43;(with_reducible refine (impl_readSigns.calls k a2 l true _ (GT_below HG.out Z169) A1.out).mono ?_);rintro e w1 ⟨v,rfl,hr,hb⟩;have HR := Aside0.mk (Kd.R_lower hr (Nat.le_trans HB0.out.size (below_size Z169)));clear hr;obtain ⟨Av_,cv_,ev_⟩ := Kd.R_slice HR.out;subst ev_;have n0_ := Aside0.mk (below_step Z169 hb);clear HB;have HB := n0_;clear n0_ hb;have hcz1_7 := (blk_cell (blk_below HC.out HB.out) 7).trans rfl;have hfz1_7 := blk_frozen (blk_below HC.out HB.out) 7))
   go_ret
   exact ⟨_,rfl,impl_Config_set.put (impl_Config_set.row (impl_Config_set.at_ HC.out HO.out HB0.out Z169) HR.out) hg 7 _ rfl⟩
  | false =>
   rw [if_neg Z164] at h
   simp only [Option.some.injEq,Prod.mk.injEq] at h;obtain ⟨rfl,rfl,rfl,rfl,rfl,rfl,rfl,rfl,rfl⟩ := h
   go_enter Tryz.func26,Tryz.ntmps26
   go_wp2_with (first
    | (go_at_call 43;(with_reducible refine (impl_readSigns.calls k a2 l false _ (GT_below HG.out Z169) A1.out).mono ?_);rintro e w1 ⟨v,rfl,hr,hb⟩;have HR := Aside0.mk (Kd.R_lower hr (Nat.le_trans HB0.out.size (below_size Z169)));clear hr;obtain ⟨Av_,cv_,ev_⟩ := Kd.R_slice HR.out;subst ev_;have n0_ := Aside0.mk (below_step Z169 hb);clear HB;have HB := n0_;clear n0_ hb;have hcz1_7 := (blk_cell (blk_below HC.out HB.out) 7).trans rfl;have hfz1_7 := blk_frozen (blk_below HC.out HB.out) 7))
   go_ret
   exact ⟨u7,rfl,(impl_Config_set.at_ HC.out HO.out HB0.out Z169)⟩
 rw [if_neg cs] at h
 have bs : (a1.toList == ([115,105,103,110,115] : List UInt8)) = false := beq_eq_false_iff_ne.mpr cs
 by_cases cr : a1.toList = ([114,97,116,101] : List UInt8)
 ·rw [if_pos cr] at h
  have br : (a1.toList == ([114,97,116,101] : List UInt8)) = true := beq_iff_eq.mpr cr
  obtain ⟨⟨f1,f2,fo⟩,h1,h⟩ := Option.bind_eq_some_iff.mp h
  obtain ⟨⟨n,on⟩,h2,h⟩ := Option.bind_eq_some_iff.mp h
  obtain ⟨⟨d,od⟩,h3,h⟩ := Option.bind_eq_some_iff.mp h
  have A1 := Aside0.mk h1
  have A2 := Aside0.mk h2
  have A3 := Aside0.mk h3
  clear h1 h2 h3
  (try dsimp only at A2 A3 h)
  cases on with
  | false =>
   rw [if_neg Z164] at h
   simp only [Option.some.injEq,Prod.mk.injEq] at h;obtain ⟨rfl,rfl,rfl,rfl,rfl,rfl,rfl,rfl,rfl⟩ := h
   go_enter Tryz.func26,Tryz.ntmps26
   go_wp2_with (first
    | (go_at_call 24;(with_reducible refine (strings_Cut.calls a2 _ f1 f2 fo _ (GT_below HG.out Z169) A1.out).mono ?_);rintro e w1 ⟨rfl,hb⟩;have n0_ := Aside0.mk (below_step Z169 hb);clear HB;have HB := n0_;clear n0_ hb)
    | (go_at_call 44;(with_reducible refine (impl_Number.calls f1 n false _ (GT_below HG.out Z169) A2.out).mono ?_);rintro e w2 ⟨rfl,hb⟩;have n0_ := Aside0.mk (below_step Z169 hb);clear HB;have HB := n0_;clear n0_ hb)
    | (go_at_call 44;(with_reducible refine (impl_Number.calls f2 d od _ (GT_below HG.out Z169) A3.out).mono ?_);rintro e w3 ⟨rfl,hb⟩;have n0_ := Aside0.mk (below_step Z169 hb);clear HB;have HB := n0_;clear n0_ hb;have hcz3_5 := (blk_cell (blk_below HC.out HB.out) 5).trans rfl;have hfz3_5 := blk_frozen (blk_below HC.out HB.out) 5;have hcz3_6 := (blk_cell (blk_below HC.out HB.out) 6).trans rfl;have hfz3_6 := blk_frozen (blk_below HC.out HB.out) 6))
   go_ret
   exact ⟨u7,rfl,(impl_Config_set.at_ HC.out HO.out HB0.out Z169)⟩
  | true =>
   rw [if_pos rfl] at h
   cases od with
   | false =>
    rw [if_neg Z164] at h
    simp only [Option.some.injEq,Prod.mk.injEq] at h;obtain ⟨rfl,rfl,rfl,rfl,rfl,rfl,rfl,rfl,rfl⟩ := h
    go_enter Tryz.func26,Tryz.ntmps26
    go_wp2_with (first
     | (go_at_call 24;(with_reducible refine (strings_Cut.calls a2 _ f1 f2 fo _ (GT_below HG.out Z169) A1.out).mono ?_);rintro e w1 ⟨rfl,hb⟩;have n0_ := Aside0.mk (below_step Z169 hb);clear HB;have HB := n0_;clear n0_ hb)
     | (go_at_call 44;(with_reducible refine (impl_Number.calls f1 n true _ (GT_below HG.out Z169) A2.out).mono ?_);rintro e w2 ⟨rfl,hb⟩;have n0_ := Aside0.mk (below_step Z169 hb);clear HB;have HB := n0_;clear n0_ hb)
     | (go_at_call 44;(with_reducible refine (impl_Number.calls f2 d false _ (GT_below HG.out Z169) A3.out).mono ?_);rintro e w3 ⟨rfl,hb⟩;have n0_ := Aside0.mk (below_step Z169 hb);clear HB;have HB := n0_;clear n0_ hb;have hcz3_5 := (blk_cell (blk_below HC.out HB.out) 5).trans rfl;have hfz3_5 := blk_frozen (blk_below HC.out HB.out) 5;have hcz3_6 := (blk_cell (blk_below HC.out HB.out) 6).trans rfl;have hfz3_6 := blk_frozen (blk_below HC.out HB.out) 6))
    go_ret
    exact ⟨u7,rfl,(impl_Config_set.at_ HC.out HO.out HB0.out Z169)⟩
   | true =>
    rw [if_pos rfl] at h
    obtain ⟨b,h4,h⟩ := Option.bind_eq_some_iff.mp h
    have A4 := Aside0.mk h4
    clear h4
    (try dsimp only at A4)
    cases b with
    | false =>
     rw [if_neg Z164] at h
     simp only [Option.some.injEq,Prod.mk.injEq] at h;obtain ⟨rfl,rfl,rfl,rfl,rfl,rfl,rfl,rfl,rfl⟩ := h
     go_enter Tryz.func26,Tryz.ntmps26
     go_wp2_with (first
      | (go_at_call 24;(with_reducible refine (strings_Cut.calls a2 _ f1 f2 fo _ (GT_below HG.out Z169) A1.out).mono ?_);rintro e w1 ⟨rfl,hb⟩;have n0_ := Aside0.mk (below_step Z169 hb);clear HB;have HB := n0_;clear n0_ hb)
      | (go_at_call 44;(with_reducible refine (impl_Number.calls f1 n true _ (GT_below HG.out Z169) A2.out).mono ?_);rintro e w2 ⟨rfl,hb⟩;have n0_ := Aside0.mk (below_step Z169 hb);clear HB;have HB := n0_;clear n0_ hb)
      | (go_at_call 44;(with_reducible refine (impl_Number.calls f2 d true _ (GT_below HG.out Z169) A3.out).mono ?_);rintro e w3 ⟨rfl,hb⟩;have n0_ := Aside0.mk (below_step Z169 hb);clear HB;have HB := n0_;clear n0_ hb;have hcz3_5 := (blk_cell (blk_below HC.out HB.out) 5).trans rfl;have hfz3_5 := blk_frozen (blk_below HC.out HB.out) 5;have hcz3_6 := (blk_cell (blk_below HC.out HB.out) 6).trans rfl;have hfz3_6 := blk_frozen (blk_below HC.out HB.out) 6)
      | (go_at_call 31;(with_reducible refine (impl_within.calls d 1 1000 false _ A4.out).mono ?_);rintro e w_ ⟨rfl,⟨nd,rfl⟩⟩))
     go_ret
     exact ⟨u7,rfl,(impl_Config_set.at_ HC.out HO.out HB0.out Z169)⟩
    | true =>
     rw [if_pos rfl] at h
     obtain ⟨c,h5,h⟩ := Option.bind_eq_some_iff.mp h
     have A5 := Aside0.mk h5
     clear h5
     (try dsimp only at A5)
     cases c with
     | false =>
      rw [if_neg Z164] at h
      simp only [Option.some.injEq,Prod.mk.injEq] at h;obtain ⟨rfl,rfl,rfl,rfl,rfl,rfl,rfl,rfl,rfl⟩ := h
      go_enter Tryz.func26,Tryz.ntmps26
      go_wp2_with (first
       | (go_at_call 24;(with_reducible refine (strings_Cut.calls a2 _ f1 f2 fo _ (GT_below HG.out Z169) A1.out).mono ?_);rintro e w1 ⟨rfl,hb⟩;have n0_ := Aside0.mk (below_step Z169 hb);clear HB;have HB := n0_;clear n0_ hb)
       | (go_at_call 44;(with_reducible refine (impl_Number.calls f1 n true _ (GT_below HG.out Z169) A2.out).mono ?_);rintro e w2 ⟨rfl,hb⟩;have n0_ := Aside0.mk (below_step Z169 hb);clear HB;have HB := n0_;clear n0_ hb)
       | (go_at_call 44;(with_reducible refine (impl_Number.calls f2 d true _ (GT_below HG.out Z169) A3.out).mono ?_);rintro e w3 ⟨rfl,hb⟩;have n0_ := Aside0.mk (below_step Z169 hb);clear HB;have HB := n0_;clear n0_ hb;have hcz3_5 := (blk_cell (blk_below HC.out HB.out) 5).trans rfl;have hfz3_5 := blk_frozen (blk_below HC.out HB.out) 5;have hcz3_6 := (blk_cell (blk_below HC.out HB.out) 6).trans rfl;have hfz3_6 := blk_frozen (blk_below HC.out HB.out) 6)
       | (go_at_call 31;(with_reducible refine (impl_within.calls d 1 1000 true _ A4.out).mono ?_);rintro e w_ ⟨rfl,⟨nd,rfl⟩⟩)
       | (go_at_call 31;(with_reducible refine (impl_within.calls n 1 d false _ A5.out).mono ?_);rintro e w_ ⟨rfl,⟨nd,rfl⟩⟩))
      go_ret
      exact ⟨u7,rfl,(impl_Config_set.at_ HC.out HO.out HB0.out Z169)⟩
     | true =>
      rw [if_pos rfl] at h
      simp only [Option.some.injEq,Prod.mk.injEq] at h;obtain ⟨rfl,rfl,rfl,rfl,rfl,rfl,rfl,rfl,rfl⟩ := h
      go_enter Tryz.func26,Tryz.ntmps26
      go_wp2_with (first
       | (go_at_call 24;(with_reducible refine (strings_Cut.calls a2 _ f1 f2 fo _ (GT_below HG.out Z169) A1.out).mono ?_);rintro e w1 ⟨rfl,hb⟩;have n0_ := Aside0.mk (below_step Z169 hb);clear HB;have HB := n0_;clear n0_ hb)
       | (go_at_call 44;(with_reducible refine (impl_Number.calls f1 n true _ (GT_below HG.out Z169) A2.out).mono ?_);rintro e w2 ⟨rfl,hb⟩;have n0_ := Aside0.mk (below_step Z169 hb);clear HB;have HB := n0_;clear n0_ hb)
       | (go_at_call 44;(with_reducible refine (impl_Number.calls f2 d true _ (GT_below HG.out Z169) A3.out).mono ?_);rintro e w3 ⟨rfl,hb⟩;have n0_ := Aside0.mk (below_step Z169 hb);clear HB;have HB := n0_;clear n0_ hb;have hcz3_5 := (blk_cell (blk_below HC.out HB.out) 5).trans rfl;have hfz3_5 := blk_frozen (blk_below HC.out HB.out) 5;have hcz3_6 := (blk_cell (blk_below HC.out HB.out) 6).trans rfl;have hfz3_6 := blk_frozen (blk_below HC.out HB.out) 6)
       | (go_at_call 31;(with_reducible refine (impl_within.calls d 1 1000 true _ A4.out).mono ?_);rintro e w_ ⟨rfl,⟨nd,rfl⟩⟩)
       | (go_at_call 31;(with_reducible refine (impl_within.calls n 1 d true _ A5.out).mono ?_);rintro e w_ ⟨rfl,⟨nd,rfl⟩⟩))
      go_ret
      exact ⟨u7,rfl,impl_Config_set.put (impl_Config_set.put (impl_Config_set.at_ HC.out HO.out HB0.out Z169) hg 5 (.int .i64 n) rfl) hg 6 (.int .i64 d) rfl⟩
 rw [if_neg cr] at h
 have br : (a1.toList == ([114,97,116,101] : List UInt8)) = false := beq_eq_false_iff_ne.mpr cr
 obtain ⟨⟨n,on⟩,h1,h⟩ := Option.bind_eq_some_iff.mp h
 have A1 := Aside0.mk h1
 clear h1
 cases on with
 | false =>
  rw [if_neg Z164] at h
  simp only [Option.some.injEq,Prod.mk.injEq] at h;obtain ⟨rfl,rfl,rfl,rfl,rfl,rfl,rfl,rfl,rfl⟩ := h
  go_enter Tryz.func26,Tryz.ntmps26
  go_wp2_with (first
   | (go_at_call 44;(with_reducible refine (impl_Number.calls a2 n false _ (GT_below HG.out Z169) A1.out).mono ?_);rintro e w1 ⟨rfl,hb⟩;have n0_ := Aside0.mk (below_step Z169 hb);clear HB;have HB := n0_;clear n0_ hb;have hcz1_0 := (blk_cell (blk_below HC.out HB.out) 0).trans rfl;have hfz1_0 := blk_frozen (blk_below HC.out HB.out) 0;have hcz1_1 := (blk_cell (blk_below HC.out HB.out) 1).trans rfl;have hfz1_1 := blk_frozen (blk_below HC.out HB.out) 1;have hcz1_2 := (blk_cell (blk_below HC.out HB.out) 2).trans rfl;have hfz1_2 := blk_frozen (blk_below HC.out HB.out) 2;have hcz1_3 := (blk_cell (blk_below HC.out HB.out) 3).trans rfl;have hfz1_3 := blk_frozen (blk_below HC.out HB.out) 3;have hcz1_4 := (blk_cell (blk_below HC.out HB.out) 4).trans rfl;have hfz1_4 := blk_frozen (blk_below HC.out HB.out) 4))
  go_ret
  exact ⟨u7,rfl,(impl_Config_set.at_ HC.out HO.out HB0.out Z169)⟩
 | true =>
  rw [if_pos rfl] at h
  obtain ⟨b,h2,h⟩ := Option.bind_eq_some_iff.mp h
  have A2 := Aside0.mk h2
  clear h2
  have hp : (impl_Config_set.place a1).1 = 0 ∨ (impl_Config_set.place a1).1 = 1 ∨ (impl_Config_set.place a1).1 = 2 ∨ (impl_Config_set.place a1).1 = 3 ∨ (impl_Config_set.place a1).1 = 4 := by
   unfold impl_Config_set.place
   repeat (first | (split) | simp)
  obtain ⟨i,lo,hi,hpl⟩ : ∃ i lo hi,impl_Config_set.place a1 = (i,lo,hi) := ⟨_,_,_,rfl⟩
  have PC := fun w => impl_Config_set.place_calls g a1 w
  rw [hpl] at A2 hp h
  simp only [hpl] at PC
  (try dsimp only at A2 hp h)
  cases b with
  | false =>
   rw [if_neg Z164] at h
   simp only [Option.some.injEq,Prod.mk.injEq] at h;obtain ⟨rfl,rfl,rfl,rfl,rfl,rfl,rfl,rfl,rfl⟩ := h
   go_enter Tryz.func26,Tryz.ntmps26
   go_wp2_with (first
    | (go_at_call 44;(with_reducible refine (impl_Number.calls a2 n true _ (GT_below HG.out Z169) A1.out).mono ?_);rintro e w1 ⟨rfl,hb⟩;have n0_ := Aside0.mk (below_step Z169 hb);clear HB;have HB := n0_;clear n0_ hb;have hcz1_0 := (blk_cell (blk_below HC.out HB.out) 0).trans rfl;have hfz1_0 := blk_frozen (blk_below HC.out HB.out) 0;have hcz1_1 := (blk_cell (blk_below HC.out HB.out) 1).trans rfl;have hfz1_1 := blk_frozen (blk_below HC.out HB.out) 1;have hcz1_2 := (blk_cell (blk_below HC.out HB.out) 2).trans rfl;have hfz1_2 := blk_frozen (blk_below HC.out HB.out) 2;have hcz1_3 := (blk_cell (blk_below HC.out HB.out) 3).trans rfl;have hfz1_3 := blk_frozen (blk_below HC.out HB.out) 3;have hcz1_4 := (blk_cell (blk_below HC.out HB.out) 4).trans rfl;have hfz1_4 := blk_frozen (blk_below HC.out HB.out) 4)
    | (go_at_call 45;(with_reducible refine (PC _).mono ?_);rintro e w_ ⟨rfl,⟨nd,rfl⟩⟩)
    | (go_at_call 31;(with_reducible refine (impl_within.calls n lo hi false _ A2.out).mono ?_);rintro e w_ ⟨rfl,⟨nd,rfl⟩⟩))
   go_ret
   exact ⟨u7,rfl,(impl_Config_set.at_ HC.out HO.out HB0.out Z169)⟩
  | true =>
   rw [if_pos rfl] at h
   unfold impl_Config_set.num at h
   rcases hp with rfl | rfl | rfl | rfl | rfl
   ·simp only [show ((0 : Nat) = 0) = True from by decide,show ((0 : Nat) = 1) = False from by decide,show ((0 : Nat) = 2) = False from by decide,show ((0 : Nat) = 3) = False from by decide,show ((0 : Nat) = 4) = False from by decide,if_true,if_false] at h
    simp only [Option.some.injEq,Prod.mk.injEq] at h;obtain ⟨rfl,rfl,rfl,rfl,rfl,rfl,rfl,rfl,rfl⟩ := h
    go_enter Tryz.func26,Tryz.ntmps26
    go_wp2_with (first
     | (go_at_call 44;(with_reducible refine (impl_Number.calls a2 n true _ (GT_below HG.out Z169) A1.out).mono ?_);rintro e w1 ⟨rfl,hb⟩;have n0_ := Aside0.mk (below_step Z169 hb);clear HB;have HB := n0_;clear n0_ hb;have hcz1_0 := (blk_cell (blk_below HC.out HB.out) 0).trans rfl;have hfz1_0 := blk_frozen (blk_below HC.out HB.out) 0;have hcz1_1 := (blk_cell (blk_below HC.out HB.out) 1).trans rfl;have hfz1_1 := blk_frozen (blk_below HC.out HB.out) 1;have hcz1_2 := (blk_cell (blk_below HC.out HB.out) 2).trans rfl;have hfz1_2 := blk_frozen (blk_below HC.out HB.out) 2;have hcz1_3 := (blk_cell (blk_below HC.out HB.out) 3).trans rfl;have hfz1_3 := blk_frozen (blk_below HC.out HB.out) 3;have hcz1_4 := (blk_cell (blk_below HC.out HB.out) 4).trans rfl;have hfz1_4 := blk_frozen (blk_below HC.out HB.out) 4)
     | (go_at_call 45;(with_reducible refine (PC _).mono ?_);rintro e w_ ⟨rfl,⟨nd,rfl⟩⟩)
     | (go_at_call 31;(with_reducible refine (impl_within.calls n lo hi true _ A2.out).mono ?_);rintro e w_ ⟨rfl,⟨nd,rfl⟩⟩))
    go_ret
    exact ⟨u7,rfl,impl_Config_set.put (impl_Config_set.at_ HC.out HO.out HB0.out Z169) hg 0 (.int .i64 n) rfl⟩
   ·simp only [show ((1 : Nat) = 0) = False from by decide,show ((1 : Nat) = 1) = True from by decide,show ((1 : Nat) = 2) = False from by decide,show ((1 : Nat) = 3) = False from by decide,show ((1 : Nat) = 4) = False from by decide,if_true,if_false] at h
    simp only [Option.some.injEq,Prod.mk.injEq] at h;obtain ⟨rfl,rfl,rfl,rfl,rfl,rfl,rfl,rfl,rfl⟩ := h
    go_enter Tryz.func26,Tryz.ntmps26
    go_wp2_with (first
     | (go_at_call 44;(with_reducible refine (impl_Number.calls a2 n true _ (GT_below HG.out Z169) A1.out).mono ?_);rintro e w1 ⟨rfl,hb⟩;have n0_ := Aside0.mk (below_step Z169 hb);clear HB;have HB := n0_;clear n0_ hb;have hcz1_0 := (blk_cell (blk_below HC.out HB.out) 0).trans rfl;have hfz1_0 := blk_frozen (blk_below HC.out HB.out) 0;have hcz1_1 := (blk_cell (blk_below HC.out HB.out) 1).trans rfl;have hfz1_1 := blk_frozen (blk_below HC.out HB.out) 1;have hcz1_2 := (blk_cell (blk_below HC.out HB.out) 2).trans rfl;have hfz1_2 := blk_frozen (blk_below HC.out HB.out) 2;have hcz1_3 := (blk_cell (blk_below HC.out HB.out) 3).trans rfl;have hfz1_3 := blk_frozen (blk_below HC.out HB.out) 3;have hcz1_4 := (blk_cell (blk_below HC.out HB.out) 4).trans rfl;have hfz1_4 := blk_frozen (blk_below HC.out HB.out) 4)
     | (go_at_call 45;(with_reducible refine (PC _).mono ?_);rintro e w_ ⟨rfl,⟨nd,rfl⟩⟩)
     | (go_at_call 31;(with_reducible refine (impl_within.calls n lo hi true _ A2.out).mono ?_);rintro e w_ ⟨rfl,⟨nd,rfl⟩⟩))
    go_ret
    exact ⟨u7,rfl,impl_Config_set.put (impl_Config_set.at_ HC.out HO.out HB0.out Z169) hg 1 (.int .i64 n) rfl⟩
   ·simp only [show ((2 : Nat) = 0) = False from by decide,show ((2 : Nat) = 1) = False from by decide,show ((2 : Nat) = 2) = True from by decide,show ((2 : Nat) = 3) = False from by decide,show ((2 : Nat) = 4) = False from by decide,if_true,if_false] at h
    simp only [Option.some.injEq,Prod.mk.injEq] at h;obtain ⟨rfl,rfl,rfl,rfl,rfl,rfl,rfl,rfl,rfl⟩ := h
    go_enter Tryz.func26,Tryz.ntmps26
    go_wp2_with (first
     | (go_at_call 44;(with_reducible refine (impl_Number.calls a2 n true _ (GT_below HG.out Z169) A1.out).mono ?_);rintro e w1 ⟨rfl,hb⟩;have n0_ := Aside0.mk (below_step Z169 hb);clear HB;have HB := n0_;clear n0_ hb;have hcz1_0 := (blk_cell (blk_below HC.out HB.out) 0).trans rfl;have hfz1_0 := blk_frozen (blk_below HC.out HB.out) 0;have hcz1_1 := (blk_cell (blk_below HC.out HB.out) 1).trans rfl;have hfz1_1 := blk_frozen (blk_below HC.out HB.out) 1;have hcz1_2 := (blk_cell (blk_below HC.out HB.out) 2).trans rfl;have hfz1_2 := blk_frozen (blk_below HC.out HB.out) 2;have hcz1_3 := (blk_cell (blk_below HC.out HB.out) 3).trans rfl;have hfz1_3 := blk_frozen (blk_below HC.out HB.out) 3;have hcz1_4 := (blk_cell (blk_below HC.out HB.out) 4).trans rfl;have hfz1_4 := blk_frozen (blk_below HC.out HB.out) 4)
     | (go_at_call 45;(with_reducible refine (PC _).mono ?_);rintro e w_ ⟨rfl,⟨nd,rfl⟩⟩)
     | (go_at_call 31;(with_reducible refine (impl_within.calls n lo hi true _ A2.out).mono ?_);rintro e w_ ⟨rfl,⟨nd,rfl⟩⟩))
    go_ret
    exact ⟨u7,rfl,impl_Config_set.put (impl_Config_set.at_ HC.out HO.out HB0.out Z169) hg 2 (.int .i64 n) rfl⟩
   ·simp only [show ((3 : Nat) = 0) = False from by decide,show ((3 : Nat) = 1) = False from by decide,show ((3 : Nat) = 2) = False from by decide,show ((3 : Nat) = 3) = True from by decide,show ((3 : Nat) = 4) = False from by decide,if_true,if_false] at h
    simp only [Option.some.injEq,Prod.mk.injEq] at h;obtain ⟨rfl,rfl,rfl,rfl,rfl,rfl,rfl,rfl,rfl⟩ := h
    go_enter Tryz.func26,Tryz.ntmps26
    go_wp2_with (first
     | (go_at_call 44;(with_reducible refine (impl_Number.calls a2 n true _ (GT_below HG.out Z169) A1.out).mono ?_);rintro e w1 ⟨rfl,hb⟩;have n0_ := Aside0.mk (below_step Z169 hb);clear HB;have HB := n0_;clear n0_ hb;have hcz1_0 := (blk_cell (blk_below HC.out HB.out) 0).trans rfl;have hfz1_0 := blk_frozen (blk_below HC.out HB.out) 0;have hcz1_1 := (blk_cell (blk_below HC.out HB.out) 1).trans rfl;have hfz1_1 := blk_frozen (blk_below HC.out HB.out) 1;have hcz1_2 := (blk_cell (blk_below HC.out HB.out) 2).trans rfl;have hfz1_2 := blk_frozen (blk_below HC.out HB.out) 2;have hcz1_3 := (blk_cell (blk_below HC.out HB.out) 3).trans rfl;have hfz1_3 := blk_frozen (blk_below HC.out HB.out) 3;have hcz1_4 := (blk_cell (blk_below HC.out HB.out) 4).trans rfl;have hfz1_4 := blk_frozen (blk_below HC.out HB.out) 4)
     | (go_at_call 45;(with_reducible refine (PC _).mono ?_);rintro e w_ ⟨rfl,⟨nd,rfl⟩⟩)
     | (go_at_call 31;(with_reducible refine (impl_within.calls n lo hi true _ A2.out).mono ?_);rintro e w_ ⟨rfl,⟨nd,rfl⟩⟩))
    go_ret
    exact ⟨u7,rfl,impl_Config_set.put (impl_Config_set.at_ HC.out HO.out HB0.out Z169) hg 3 (.int .i64 n) rfl⟩
   simp only [show ((4 : Nat) = 0) = False from by decide,show ((4 : Nat) = 1) = False from by decide,show ((4 : Nat) = 2) = False from by decide,show ((4 : Nat) = 3) = False from by decide,show ((4 : Nat) = 4) = True from by decide,if_true,if_false] at h
   simp only [Option.some.injEq,Prod.mk.injEq] at h;obtain ⟨rfl,rfl,rfl,rfl,rfl,rfl,rfl,rfl,rfl⟩ := h
   go_enter Tryz.func26,Tryz.ntmps26
   go_wp2_with (first
    | (go_at_call 44;(with_reducible refine (impl_Number.calls a2 n true _ (GT_below HG.out Z169) A1.out).mono ?_);rintro e w1 ⟨rfl,hb⟩;have n0_ := Aside0.mk (below_step Z169 hb);clear HB;have HB := n0_;clear n0_ hb;have hcz1_0 := (blk_cell (blk_below HC.out HB.out) 0).trans rfl;have hfz1_0 := blk_frozen (blk_below HC.out HB.out) 0;have hcz1_1 := (blk_cell (blk_below HC.out HB.out) 1).trans rfl;have hfz1_1 := blk_frozen (blk_below HC.out HB.out) 1;have hcz1_2 := (blk_cell (blk_below HC.out HB.out) 2).trans rfl;have hfz1_2 := blk_frozen (blk_below HC.out HB.out) 2;have hcz1_3 := (blk_cell (blk_below HC.out HB.out) 3).trans rfl;have hfz1_3 := blk_frozen (blk_below HC.out HB.out) 3;have hcz1_4 := (blk_cell (blk_below HC.out HB.out) 4).trans rfl;have hfz1_4 := blk_frozen (blk_below HC.out HB.out) 4)
    | (go_at_call 45;(with_reducible refine (PC _).mono ?_);rintro e w_ ⟨rfl,⟨nd,rfl⟩⟩)
    | (go_at_call 31;(with_reducible refine (impl_within.calls n lo hi true _ A2.out).mono ?_);rintro e w_ ⟨rfl,⟨nd,rfl⟩⟩))
   go_ret
   exact ⟨u7,rfl,impl_Config_set.put (impl_Config_set.at_ HC.out HO.out HB0.out Z169) hg 4 (.int .i64 n) rfl⟩

/-! ### impl_ReadConfig: function 11 -/
def impl_ReadConfig.l0 : Nat → List ByteArray → List ByteArray → Int → Int → Int → Int → Int → Int → Int → Int → Int → List Int → Option (Int × Int × Int × Int × Int × Int × Int × List Int × Int × Int × Int)
 | 0,_,_,_,_,_,_,_,_,_,_,_,_ => none
 | k + 1,x5,x20,x21,x22,x409000,x409001,x409002,x409003,x409004,x409005,x409006,x409007 => if x22 < x21 then (if 0 ≤ x22 then (if x22 < (x20.length : Int) then (if (rdOf ByteArray.empty x20 x22).toList = ([] : List UInt8) then (impl_ReadConfig.l0 k x5 x20 x21 (wrap64 (x22 + 1)) x409000 x409001 x409002 x409003 x409004 x409005 x409006 x409007) else ((strings_Cut.f (rdOf ByteArray.empty x20 x22) (⟨#[61]⟩ : ByteArray)).bind fun bt413 => (if bt413.2.2 = true then ((slices_Contains_string_string.f k (([(⟨#[114,111,117,110,100,115]⟩ : ByteArray),(⟨#[100,101,112,116,104]⟩ : ByteArray),(⟨#[98,105,110,115]⟩ : ByteArray),(⟨#[108,97,109,98,100,97]⟩ : ByteArray),(⟨#[114,111,119,115]⟩ : ByteArray),(⟨#[114,97,116,101]⟩ : ByteArray),(⟨#[115,105,103,110,115]⟩ : ByteArray)] : List ByteArray)) bt413.1).bind fun t419 => (if t419 = true then ((slices_Contains_string_string.f k x5 bt413.1).bind fun t420 => (if t420 = true then (if 6 = 0 then (if x5.length < 8796093022208 then (impl_ReadConfig.l0 k (x5 ++ [bt413.1]) x20 x21 (wrap64 (x22 + 1)) x409000 x409001 x409002 x409003 x409004 x409005 x409006 x409007) else (none)) else (some (0,0,0,0,0,0,0,([] : List Int),6,x22,0))) else ((impl_Config_set.f k x409000 x409001 x409002 x409003 x409004 x409005 x409006 x409007 bt413.1 bt413.2.1).bind fun bt424 => (if bt424.1 = 0 then (if x5.length < 8796093022208 then (impl_ReadConfig.l0 k (x5 ++ [bt413.1]) x20 x21 (wrap64 (x22 + 1)) bt424.2.1 bt424.2.2.1 bt424.2.2.2.1 bt424.2.2.2.2.1 bt424.2.2.2.2.2.1 bt424.2.2.2.2.2.2.1 bt424.2.2.2.2.2.2.2.1 bt424.2.2.2.2.2.2.2.2) else (none)) else (some (0,0,0,0,0,0,0,([] : List Int),bt424.1,x22,0)))))) else (if 11 = 0 then (if x5.length < 8796093022208 then (impl_ReadConfig.l0 k (x5 ++ [bt413.1]) x20 x21 (wrap64 (x22 + 1)) x409000 x409001 x409002 x409003 x409004 x409005 x409006 x409007) else (none)) else (some (0,0,0,0,0,0,0,([] : List Int),11,x22,0))))) else (if 10 = 0 then (if x5.length < 8796093022208 then (impl_ReadConfig.l0 k (x5 ++ [bt413.1]) x20 x21 (wrap64 (x22 + 1)) x409000 x409001 x409002 x409003 x409004 x409005 x409006 x409007) else (none)) else (some (0,0,0,0,0,0,0,([] : List Int),10,x22,0)))))) else (none)) else (none)) else (some (x409000,x409001,x409002,x409003,x409004,x409005,x409006,x409007,0,0,0))
def impl_ReadConfig.f (k : Nat) (a0 : ByteArray) : Option (Int × Int × Int × Int × Int × Int × Int × List Int × Int × Int × Int) := if (a0.size : Int) > 4000 then (some (0,0,0,0,0,0,0,([] : List Int),1,0,0)) else ((impl_UsualConfig.f).bind fun bt395 => ((impl_Parts.f a0 10).bind fun t409 => (impl_ReadConfig.l0 k (([] : List ByteArray)) t409 (t409.length : Int) 0 bt395.1 bt395.2.1 bt395.2.2.1 bt395.2.2.2.1 bt395.2.2.2.2.1 bt395.2.2.2.2.2.1 bt395.2.2.2.2.2.2.1 bt395.2.2.2.2.2.2.2)))
theorem impl_ReadConfig.mono_l : ∀ k,(∀ y0 y1 y2 y3 y4 y5 y6 y7 y8 y9 y10 y11,LeO (impl_ReadConfig.l0 k y0 y1 y2 y3 y4 y5 y6 y7 y8 y9 y10 y11) (impl_ReadConfig.l0 (k + 1) y0 y1 y2 y3 y4 y5 y6 y7 y8 y9 y10 y11))
 | 0 => fun _ _ _ _ _ _ _ _ _ _ _ _ r h => by simp [impl_ReadConfig.l0] at h
 | k + 1 => by
  have ih0 := impl_ReadConfig.mono_l k
  ·intro y0 y1 y2 y3 y4 y5 y6 y7 y8 y9 y10 y11
   unfold impl_ReadConfig.l0
   repeat' first
   | (with_reducible exact ih0 _ _ _ _ _ _ _ _ _ _ _ _)
   | (with_reducible exact impl_Config_set.mono _ _ _ _ _ _ _ _ _ _ _)
   | (with_reducible exact slices_Contains_string_string.mono _ _ _)
   | (with_reducible exact LeO.refl _)
   | (with_reducible exact LeO.none _)
   | (with_reducible refine LeO.ite ?_ ?_)
   | (with_reducible refine LeO.bind ?_ (fun _ => ?_))
   | exact ih0 _ _ _ _ _ _ _ _ _ _ _ _
   | exact impl_Config_set.mono _ _ _ _ _ _ _ _ _ _ _
   | exact slices_Contains_string_string.mono _ _ _
   | exact LeO.none _
   | refine LeO.ite ?_ ?_
   | refine LeO.bind ?_ (fun _ => ?_)
theorem impl_ReadConfig.mono : ∀ a0 k,LeO (impl_ReadConfig.f k a0) (impl_ReadConfig.f (k + 1) a0) := by
 intro a0 k
 have ih0 := impl_ReadConfig.mono_l k
 unfold impl_ReadConfig.f
 repeat' first
   | (with_reducible exact ih0 _ _ _ _ _ _ _ _ _ _ _ _)
   | (with_reducible exact impl_Config_set.mono _ _ _ _ _ _ _ _ _ _ _)
   | (with_reducible exact slices_Contains_string_string.mono _ _ _)
   | (with_reducible exact LeO.refl _)
   | (with_reducible exact LeO.none _)
   | (with_reducible refine LeO.ite ?_ ?_)
   | (with_reducible refine LeO.bind ?_ (fun _ => ?_))
   | exact ih0 _ _ _ _ _ _ _ _ _ _ _ _
   | exact impl_Config_set.mono _ _ _ _ _ _ _ _ _ _ _
   | exact slices_Contains_string_string.mono _ _ _
   | exact LeO.none _
   | refine LeO.ite ?_ ?_
   | refine LeO.bind ?_ (fun _ => ?_)
set_option maxHeartbeats 8000000 in
set_option maxRecDepth 100000 in
theorem impl_ReadConfig.calls (k : Nat) (a0 : ByteArray) (r1 : Int) (r2 : Int) (r3 : Int) (r4 : Int) (r5 : Int) (r6 : Int) (r7 : Int) (r8 : List Int) (r9 : Int) (r10 : Int) (r11 : Int) (w : World) (hG : GT w) (h : impl_ReadConfig.f k a0 = some (r1,r2,r3,r4,r5,r6,r7,r8,r9,r10,r11)) :
  Calls Tryz.prog 11 #[.string a0] w fun e w' => ∃ v7_ : Value,e = .returned (.tuple #[.agg #[.int .i64 r1,.int .i64 r2,.int .i64 r3,.int .i64 r4,.int .i64 r5,.int .i64 r6,.int .i64 r7,v7_],.agg #[.int .i64 r9,.int .i64 r10,.int .i64 r11]]) ∧ Kd.R (Kd.int .i64) 3 w' w.heap.size (fun _ => True) v7_ r8 ∧ Below w.heap.size w w' := by
 have HG := Aside0.mk hG
 clear hG
 have hu26 := Tryz.underlying26
 have hu34 := Tryz.underlying34
 have HB := Aside0.mk (Below.refl w.heap.size w)
 have H : (if (a0.size : Int) > 4000 then (some (0,0,0,0,0,0,0,([] : List Int),1,0,0)) else ((impl_UsualConfig.f).bind fun bt395 => ((impl_Parts.f a0 10).bind fun t409 => (impl_ReadConfig.l0 k (([] : List ByteArray)) t409 (t409.length : Int) 0 bt395.1 bt395.2.1 bt395.2.2.1 bt395.2.2.2.1 bt395.2.2.2.2.1 bt395.2.2.2.2.2.1 bt395.2.2.2.2.2.2.1 bt395.2.2.2.2.2.2.2)))) = some (r1,r2,r3,r4,r5,r6,r7,r8,r9,r10,r11) := h
 clear h
 by_cases c2 : (a0.size : Int) > 4000
 ·rw [if_pos c2] at H
  have c2b0 : decide (4000 < (a0.size : Int)) = true := decide_eq_true c2
  have c2b1 : decide (4000 < a0.size) = true := decide_eq_true Z115
  clear c2
  simp only [Option.some.injEq,Prod.mk.injEq] at H
  obtain ⟨rfl,rfl,rfl,rfl,rfl,rfl,rfl,rfl,rfl,rfl,rfl⟩ := H
  go_enter Tryz.func11,Tryz.ntmps11
  go_wp2_with (first | ((with_reducible refine gate_dst (N := 2) rfl ?_);refine bE 2 #[.int .i64 0,.int .i64 0,.int .i64 0,.int .i64 0,.int .i64 0,.int .i64 0,.int .i64 0,.slice none 0 0] 26 (h := ?_);intro gb393 hg wq1 hbox hb;have n_ := Z21;clear HB;obtain ⟨HB,BK393,GW393,GE393⟩ := n_;clear hb hbox hg) | ((with_reducible refine gate_dst (N := 3) rfl ?_);refine bE 3 #[.int .i64 0,.int .i64 0,.int .i64 0] 34 (h := ?_);intro gb394 hg wq2 hbox hb;have n_ := Z8;clear BK393 HB;obtain ⟨BK393,HB,BK394,GW394,GE394,NB393_394,NB394_393⟩ := n_;clear hb hbox hg;have hnbq3 := NB393_394.out;have hncq3 := NB394_393.out;obtain ⟨hczq4_0,hczq4_1,hczq4_2,hczq4_3,hczq4_4,hczq4_5,hczq4_6,hczq4_7,hfzq4_0,hfzq4_1,hfzq4_2,hfzq4_3,hfzq4_4,hfzq4_5,hfzq4_6,hfzq4_7⟩ := cells8 BK393.out;obtain ⟨hczq5_0,hczq5_1,hczq5_2,hfzq5_0,hfzq5_1,hfzq5_2⟩ := cells3 BK394.out))
  refine bodyPost_ret (results_cc rfl _ _ gb393 gb394 26 34 #[.int .i64 0,.int .i64 0,.int .i64 0,.int .i64 0,.int .i64 0,.int .i64 0,.int .i64 0,.slice none 0 0] #[.int .i64 1,.int .i64 0,.int .i64 0] (0,0) (0,0) _ _ rfl (by refine bP ?_;refine blk_far ?_ NB393_394.out _;refine bP ?_;refine blk_far ?_ NB393_394.out _;refine bP ?_;refine blk_far ?_ NB393_394.out _;refine bP ?_;refine blk_put (cs := #[.int .i64 0,.int .i64 0,.int .i64 0,.int .i64 0,.int .i64 0,.int .i64 0,.int .i64 0,.slice none 0 0]) ?_ 7 _ rfl;refine bP ?_;refine blk_put (cs := #[.int .i64 0,.int .i64 0,.int .i64 0,.int .i64 0,.int .i64 0,.int .i64 0,.int .i64 0,.slice none 0 0]) ?_ 6 _ rfl;refine bP ?_;refine blk_put (cs := #[.int .i64 0,.int .i64 0,.int .i64 0,.int .i64 0,.int .i64 0,.int .i64 0,.int .i64 0,.slice none 0 0]) ?_ 5 _ rfl;refine bP ?_;refine blk_put (cs := #[.int .i64 0,.int .i64 0,.int .i64 0,.int .i64 0,.int .i64 0,.int .i64 0,.int .i64 0,.slice none 0 0]) ?_ 4 _ rfl;refine bP ?_;refine blk_put (cs := #[.int .i64 0,.int .i64 0,.int .i64 0,.int .i64 0,.int .i64 0,.int .i64 0,.int .i64 0,.slice none 0 0]) ?_ 3 _ rfl;refine bP ?_;refine blk_put (cs := #[.int .i64 0,.int .i64 0,.int .i64 0,.int .i64 0,.int .i64 0,.int .i64 0,.int .i64 0,.slice none 0 0]) ?_ 2 _ rfl;refine bP ?_;refine blk_put (cs := #[.int .i64 0,.int .i64 0,.int .i64 0,.int .i64 0,.int .i64 0,.int .i64 0,.int .i64 0,.slice none 0 0]) ?_ 1 _ rfl;refine bP ?_;refine blk_put (cs := #[.int .i64 0,.int .i64 0,.int .i64 0,.int .i64 0,.int .i64 0,.int .i64 0,.int .i64 0,.slice none 0 0]) ?_ 0 _ rfl;refine bP ?_;exact BK393.out) Tryz.underlying26 rfl Z114 rfl (by refine bP ?_;refine blk_put (cs := #[.int .i64 1,.int .i64 0,.int .i64 0]) ?_ 2 _ rfl;refine bP ?_;refine blk_put (cs := #[.int .i64 1,.int .i64 0,.int .i64 0]) ?_ 1 _ rfl;refine bP ?_;refine blk_put (cs := #[.int .i64 0,.int .i64 0,.int .i64 0]) ?_ 0 _ rfl;refine bP ?_;refine blk_far ?_ NB394_393.out _;refine bP ?_;refine blk_far ?_ NB394_393.out _;refine bP ?_;refine blk_far ?_ NB394_393.out _;refine bP ?_;refine blk_far ?_ NB394_393.out _;refine bP ?_;refine blk_far ?_ NB394_393.out _;refine bP ?_;refine blk_far ?_ NB394_393.out _;refine bP ?_;refine blk_far ?_ NB394_393.out _;refine bP ?_;refine blk_far ?_ NB394_393.out _;refine bP ?_;exact BK394.out) Tryz.underlying34 rfl Z114) rfl ?_
  exact ⟨_,Z92,Z73,Z130⟩
 rw [if_neg c2] at H
 have c2b0 : decide (4000 < (a0.size : Int)) = false := decide_eq_false c2
 have c2b1 : decide (4000 < a0.size) = false := decide_eq_false Z115
 clear c2
 obtain ⟨⟨t395,t396,t397,t398,t399,t400,t401,t402⟩,A80,H⟩ := Option.bind_eq_some_iff.mp H
 try dsimp only at H
 have A8 := Aside0.mk A80
 clear A80
 obtain ⟨y405,hyy⟩ : ∃ y_ : List ByteArray,y_ = (([] : List ByteArray)) := ⟨_,rfl⟩
 replace H : ((impl_Parts.f a0 10).bind fun t409 => (impl_ReadConfig.l0 k y405 t409 (t409.length : Int) 0 t395 t396 t397 t398 t399 t400 t401 t402)) = some (r1,r2,r3,r4,r5,r6,r7,r8,r9,r10,r11) := zR
 have Ny405 := Aside0.mk hyy
 clear hyy
 obtain ⟨t409,A90,H⟩ := Option.bind_eq_some_iff.mp H
 have A9 := Aside0.mk A90
 clear A90
 have H' := Aside0.mk H
 clear H
 go_enter Tryz.func11,Tryz.ntmps11
 go_wp2_with (first | ((with_reducible refine gate_dst (N := 2) rfl ?_);refine bE 2 #[.int .i64 0,.int .i64 0,.int .i64 0,.int .i64 0,.int .i64 0,.int .i64 0,.int .i64 0,.slice none 0 0] 26 (h := ?_);intro gb393 hg w10 hbox hb;have n_ := Z21;clear HB;obtain ⟨HB,BK393,GW393,GE393⟩ := n_;clear hb hbox hg) | ((with_reducible refine gate_dst (N := 3) rfl ?_);refine bE 3 #[.int .i64 0,.int .i64 0,.int .i64 0] 34 (h := ?_);intro gb394 hg w11 hbox hb;have n_ := Z8;clear BK393 HB;obtain ⟨BK393,HB,BK394,GW394,GE394,NB393_394,NB394_393⟩ := n_;clear hb hbox hg) | ((with_reducible refine gate_callee (f := 22) rfl ?_);refine goesL_ (some 17) rfl rfl Tryz.func22 Z114 rfl #[] rfl Z74 ?_;(with_reducible refine (impl_UsualConfig.calls  t395 t396 t397 t398 t399 t400 t401 t402 _ A8.out).mono ?_);rintro e w12 ⟨v403,rfl,ho0,hb⟩;refine ⟨_,rfl,?_⟩;have n_ := jA (Kd.R_lower ho0 (below_size Z130)) (jA (blk_below (g := gb393) (o := .cells #[.int .i64 0,.int .i64 0,.int .i64 0,.int .i64 0,.int .i64 0,.int .i64 0,.int .i64 0,.slice none 0 0] 26 (0,0)) Z170 hb) (jA (blk_below (g := gb394) (o := .cells #[.int .i64 0,.int .i64 0,.int .i64 0] 34 (0,0)) Z157 hb) (Aside0.mk (below_step Z130 hb))));clear BK393 BK394 HB;obtain ⟨HO404,BK393,BK394,HB⟩ := n_;(try clear hb);(try clear hb2);(try clear hk);(try clear hi);(try clear ho0)) | ((with_reducible refine gate_dst (N := 18) rfl ?_);refine Kd.R_lit Kd.string _ 9 ?hg (N := 18) ?hd (xs := ([] : List ByteArray)) (inner := []) (ok := fun _ => True) (okp := fun _ => True) ?hr ?hp (fun _ hk => hk) trivial (Below.refl _ _) (Nat.le_refl _) Z164 ?_;(case hd => rfl);(case hg => rfl);(case hr => exact Z101);(case hp => exact Z112);intro v406 w13 ho14 hb hg_ hnew_;clear hg_ hnew_;(first | rw [← Ny405.out] at ho14 | (simp only [Int.reduceToNat] at ho14;rw [← Ny405.out] at ho14));have n_ := jA (Kd.R_below Z84 hb) (jA (Kd.R_lower ho14 (below_size Z130)) (jA (blk_below (g := gb393) (o := .cells #[.int .i64 0,.int .i64 0,.int .i64 0,.int .i64 0,.int .i64 0,.int .i64 0,.int .i64 0,.slice none 0 0] 26 (0,0)) Z170 hb) (jA (blk_below (g := gb394) (o := .cells #[.int .i64 0,.int .i64 0,.int .i64 0] 34 (0,0)) Z157 hb) (Aside0.mk (below_step Z130 hb)))));clear HO404 BK393 BK394 HB;obtain ⟨HO404,HO407,BK393,BK394,HB⟩ := n_;clear hb ho14) | ((with_reducible refine gate_dst (N := 4) rfl ?_);refine bE 4 #[.int .i64 0,.int .i64 0,.int .i64 0,.int .i64 0,.int .i64 0,.int .i64 0,.int .i64 0,.slice none 0 0] 26 (h := ?_);intro gb408 hg w15 hbox hb;have n_ := jA (Kd.R_below Z84 hb) (jA (Kd.R_below (by (with_reducible repeat (first | apply Kd.R_alloc | apply Kd.R_drewN | apply Kd.R_drew));exact HO407.out) hb) (jA (blk_below (g := gb393) (o := .cells #[.int .i64 0,.int .i64 0,.int .i64 0,.int .i64 0,.int .i64 0,.int .i64 0,.int .i64 0,.slice none 0 0] 26 (0,0)) Z170 hb) (jA (blk_below (g := gb394) (o := .cells #[.int .i64 0,.int .i64 0,.int .i64 0] 34 (0,0)) Z157 hb) (jA (below_step Z130 hb) (jA (hbox) (jA ((Z41 : w.heap.size ≤ gb408)) (jA ((Z41 : w.heap.size ≤ gb408)) (jA ((Z126 : gb393 ≠ gb408)) (jA ((Z127 : gb408 ≠ gb393)) (jA ((by rw [hg];exact Nat.ne_of_lt (blk_lt (g := gb394) (o := .cells #[.int .i64 0,.int .i64 0,.int .i64 0] 34 (0,0)) Z157) : gb394 ≠ gb408)) (Aside0.mk ((by rw [hg];exact Nat.ne_of_gt (blk_lt (g := gb394) (o := .cells #[.int .i64 0,.int .i64 0,.int .i64 0] 34 (0,0)) Z157) : gb408 ≠ gb394)))))))))))));clear HO404 HO407 BK393 BK394 HB;obtain ⟨HO404,HO407,BK393,BK394,HB,BK408,GW408,GE408,NB393_408,NB408_393,NB394_408,NB408_394⟩ := n_;clear hb hbox hg;have hnb16 := NB408_393.out;have hnc16 := NB393_408.out;have hnb17 := NB408_394.out;have hnc17 := NB394_408.out;obtain ⟨hcz18_0,hcz18_1,hcz18_2,hcz18_3,hcz18_4,hcz18_5,hcz18_6,hcz18_7,hfz18_0,hfz18_1,hfz18_2,hfz18_3,hfz18_4,hfz18_5,hfz18_6,hfz18_7⟩ := cells8 BK408.out;obtain ⟨Ao19,co19,eo19⟩ := Kd.R_slice HO404.out;subst eo19) | ((with_reducible refine gate_callee (f := 23) rfl ?_);refine goesL_ (some 20) rfl rfl Tryz.func23 Z114 rfl #[.string a0,.int .u8 10] rfl Z74 ?_;(with_reducible refine (impl_Parts.calls a0 10 t409 _ ?side1 A9.out).mono ?_);(case side1 => exact Z31);rintro e w20 ⟨v410,rfl,ho0,hb⟩;refine ⟨_,rfl,?_⟩;have n_ := jA (Kd.R_below (by (with_reducible repeat (first | apply Kd.R_alloc | apply Kd.R_drewN | apply Kd.R_drew));exact (Kd.R_mono (Kd.R_far (p := ⟨gb408,7,none⟩) (Kd.R_far (p := ⟨gb408,6,none⟩) (Kd.R_far (p := ⟨gb408,5,none⟩) (Kd.R_far (p := ⟨gb408,4,none⟩) (Kd.R_far (p := ⟨gb408,3,none⟩) (Kd.R_far (p := ⟨gb408,2,none⟩) (Kd.R_far (p := ⟨gb408,1,none⟩) (Kd.R_far (p := ⟨gb408,0,none⟩) (Kd.R_types HO404.out BK408.out Z163) (fun _ hk => hk.2) (.int .i64 t395)) (fun _ hk => hk.2) (.int .i64 t396)) (fun _ hk => hk.2) (.int .i64 t397)) (fun _ hk => hk.2) (.int .i64 t398)) (fun _ hk => hk.2) (.int .i64 t399)) (fun _ hk => hk.2) (.int .i64 t400)) (fun _ hk => hk.2) (.int .i64 t401)) (fun _ hk => hk.2) (.slice Ao19 t402.length co19)) (fun _ h_ => h_.1))) hb) (jA (Kd.R_elder' Z16 (Kd.R_base ho0) hb) (jA (Kd.R_lower (Kd.R_new' ho0 (Kd.R_lt Z16)) (below_size Z122)) (jA (blk_below (g := gb393) (o := .cells #[.int .i64 0,.int .i64 0,.int .i64 0,.int .i64 0,.int .i64 0,.int .i64 0,.int .i64 0,.slice none 0 0] 26 (0,0)) (by refine bP ?_;refine blk_far ?_ NB393_408.out _;refine bP ?_;refine blk_far ?_ NB393_408.out _;refine bP ?_;refine blk_far ?_ NB393_408.out _;refine bP ?_;refine blk_far ?_ NB393_408.out _;refine bP ?_;refine blk_far ?_ NB393_408.out _;refine bP ?_;refine blk_far ?_ NB393_408.out _;refine bP ?_;refine blk_far ?_ NB393_408.out _;refine bP ?_;refine blk_far ?_ NB393_408.out _;refine bP ?_;exact BK393.out) hb) (jA (blk_below (g := gb394) (o := .cells #[.int .i64 0,.int .i64 0,.int .i64 0] 34 (0,0)) (by refine bP ?_;refine blk_far ?_ NB394_408.out _;refine bP ?_;refine blk_far ?_ NB394_408.out _;refine bP ?_;refine blk_far ?_ NB394_408.out _;refine bP ?_;refine blk_far ?_ NB394_408.out _;refine bP ?_;refine blk_far ?_ NB394_408.out _;refine bP ?_;refine blk_far ?_ NB394_408.out _;refine bP ?_;refine blk_far ?_ NB394_408.out _;refine bP ?_;refine blk_far ?_ NB394_408.out _;refine bP ?_;exact BK394.out) hb) (jA (blk_below (g := gb408) (o := .cells #[.int .i64 t395,.int .i64 t396,.int .i64 t397,.int .i64 t398,.int .i64 t399,.int .i64 t400,.int .i64 t401,.slice Ao19 t402.length co19] 26 (0,0)) (by refine bP ?_;refine blk_put (cs := #[.int .i64 t395,.int .i64 t396,.int .i64 t397,.int .i64 t398,.int .i64 t399,.int .i64 t400,.int .i64 t401,.slice none 0 0]) ?_ 7 _ rfl;refine bP ?_;refine blk_put (cs := #[.int .i64 t395,.int .i64 t396,.int .i64 t397,.int .i64 t398,.int .i64 t399,.int .i64 t400,.int .i64 0,.slice none 0 0]) ?_ 6 _ rfl;refine bP ?_;refine blk_put (cs := #[.int .i64 t395,.int .i64 t396,.int .i64 t397,.int .i64 t398,.int .i64 t399,.int .i64 0,.int .i64 0,.slice none 0 0]) ?_ 5 _ rfl;refine bP ?_;refine blk_put (cs := #[.int .i64 t395,.int .i64 t396,.int .i64 t397,.int .i64 t398,.int .i64 0,.int .i64 0,.int .i64 0,.slice none 0 0]) ?_ 4 _ rfl;refine bP ?_;refine blk_put (cs := #[.int .i64 t395,.int .i64 t396,.int .i64 t397,.int .i64 0,.int .i64 0,.int .i64 0,.int .i64 0,.slice none 0 0]) ?_ 3 _ rfl;refine bP ?_;refine blk_put (cs := #[.int .i64 t395,.int .i64 t396,.int .i64 0,.int .i64 0,.int .i64 0,.int .i64 0,.int .i64 0,.slice none 0 0]) ?_ 2 _ rfl;refine bP ?_;refine blk_put (cs := #[.int .i64 t395,.int .i64 0,.int .i64 0,.int .i64 0,.int .i64 0,.int .i64 0,.int .i64 0,.slice none 0 0]) ?_ 1 _ rfl;refine bP ?_;refine blk_put (cs := #[.int .i64 0,.int .i64 0,.int .i64 0,.int .i64 0,.int .i64 0,.int .i64 0,.int .i64 0,.slice none 0 0]) ?_ 0 _ rfl;refine bP ?_;exact BK408.out) hb) (Aside0.mk (below_step Z122 hb)))))));clear HO404 HO407 BK393 BK394 BK408 HB;obtain ⟨HO404,HO407,HO411,BK393,BK394,BK408,HB⟩ := n_;(try clear hb);(try clear hb2);(try clear hk);(try clear hi);(try clear ho0);obtain ⟨Ao21,co21,eo21⟩ := Kd.R_slice HO411.out;subst eo21))
 go_loopg [5,22] k (fun kq v5 v22 w' => ∃ (x5_1 : List ByteArray) (x22_1 : Int) (x394000_1 : Int) (x394001_1 : Int) (x394002_1 : Int) (x394003_1 : Int) (x394004_1 : Int) (x394005_1 : Int) (x394006_1 : Int) (x395000_1 : Int) (x395001_1 : Int) (x395002_1 : Int) (x409000_1 : Int) (x409001_1 : Int) (x409002_1 : Int) (x409003_1 : Int) (x409004_1 : Int) (x409005_1 : Int) (x409006_1 : Int) (x409007_1 : List Int) (u409007 : Value),v22 = .int .i64 x22_1 ∧ Aside0 (impl_ReadConfig.l0 kq x5_1 t409 (t409.length : Int) x22_1 x409000_1 x409001_1 x409002_1 x409003_1 x409004_1 x409005_1 x409006_1 x409007_1 = some (r1,r2,r3,r4,r5,r6,r7,r8,r9,r10,r11)) ∧ Aside0 (kq ≤ k) ∧ Aside0 (Kd.R Kd.string 9 w' w.heap.size (fun k_ => some k_ ≠ ((.slice Ao21 t409.length co21) : Value).ownBlock) v5 x5_1) ∧ Aside0 (Kd.R Kd.string 9 w' w.heap.size (fun k_ => some k_ ≠ (v5 : Value).ownBlock) (.slice Ao21 t409.length co21) t409) ∧ Aside0 (Kd.R (Kd.int .i64) 3 w' w.heap.size (fun _ => True) u409007 x409007_1) ∧ Aside0 (w'.heap[gb393]? = some (.cells #[.int .i64 x394000_1,.int .i64 x394001_1,.int .i64 x394002_1,.int .i64 x394003_1,.int .i64 x394004_1,.int .i64 x394005_1,.int .i64 x394006_1,(.slice none 0 0)] 26 (0,0))) ∧ Aside0 (w'.heap[gb394]? = some (.cells #[.int .i64 x395000_1,.int .i64 x395001_1,.int .i64 x395002_1] 34 (0,0))) ∧ Aside0 (w'.heap[gb408]? = some (.cells #[.int .i64 x409000_1,.int .i64 x409001_1,.int .i64 x409002_1,.int .i64 x409003_1,.int .i64 x409004_1,.int .i64 x409005_1,.int .i64 x409006_1,u409007] 26 (0,0))) ∧ Aside0 (Below w.heap.size w w'))
 case atStart => exact ⟨(y405),(0),(0),(0),(0),(0),(0),(0),(0),(0),(0),(0),(t395),(t396),(t397),(t398),(t399),(t400),(t401),(t402),(.slice Ao19 t402.length co19),Z100,H',⟨Nat.le_refl _⟩,⟨by (with_reducible repeat (first | apply Kd.R_alloc | apply Kd.R_drewN | apply Kd.R_drew));exact Kd.R_mono HO407.out (fun _ hk => hk.2)⟩,⟨by (with_reducible repeat (first | apply Kd.R_alloc | apply Kd.R_drewN | apply Kd.R_drew));exact Kd.R_mono HO411.out (fun _ hk => hk.2)⟩,⟨Z84⟩,⟨Z170⟩,⟨Z157⟩,⟨Z161⟩,⟨Z122⟩⟩
 case round =>
  clear H'
  try clear c1
  try clear c2
  try clear c2b0
  try clear c2b1
  try clear p2
  try clear c5
  try clear c11
  try clear c16
  try clear c17
  obtain ⟨x5_1,x22_1,x394000_1,x394001_1,x394002_1,x394003_1,x394004_1,x394005_1,x394006_1,x395000_1,x395001_1,x395002_1,x409000_1,x409001_1,x409002_1,x409003_1,x409004_1,x409005_1,x409006_1,x409007_1,u409007,rfl,HA,HK1,HO_5,HO_20,HO_409007,BK393,BK394,BK408,HB⟩ := hrel
  cases gk with
  | zero => exact absurd HA.out (by simp [impl_ReadConfig.l0])
  | succ k1 =>
   have H := HA.out
   clear HA
   simp only [impl_ReadConfig.l0] at H
   by_cases c22 : x22_1 < (t409.length : Int)
   rotate_left
   ·rw [if_neg c22] at H
    have c22b0 : decide (x22_1 < (t409.length : Int)) = false := decide_eq_false c22
    clear c22
    simp only [Option.some.injEq,Prod.mk.injEq] at H
    obtain ⟨rfl,rfl,rfl,rfl,rfl,rfl,rfl,rfl,rfl,rfl,rfl⟩ := H
    have hnb97 := NB408_393.out
    have hnc97 := NB393_408.out
    have hnb98 := NB408_394.out
    have hnc98 := NB394_408.out
    obtain ⟨hcz99_0,hcz99_1,hcz99_2,hcz99_3,hcz99_4,hcz99_5,hcz99_6,hcz99_7,hfz99_0,hfz99_1,hfz99_2,hfz99_3,hfz99_4,hfz99_5,hfz99_6,hfz99_7⟩ := cells8 BK408.out
    have hnb100 := NB393_394.out
    have hnc100 := NB394_393.out
    obtain ⟨hcz101_0,hcz101_1,hcz101_2,hcz101_3,hcz101_4,hcz101_5,hcz101_6,hcz101_7,hfz101_0,hfz101_1,hfz101_2,hfz101_3,hfz101_4,hfz101_5,hfz101_6,hfz101_7⟩ := cells8 BK393.out
    obtain ⟨Ao102,co102,eo102⟩ := Kd.R_slice HO_409007.out
    subst eo102
    obtain ⟨hcz103_0,hcz103_1,hcz103_2,hfz103_0,hfz103_1,hfz103_2⟩ := cells3 BK394.out
    go_wp2
    refine bodyPost_ret (results_cc rfl _ _ gb393 gb394 26 34 #[.int .i64 x409000_1,.int .i64 x409001_1,.int .i64 x409002_1,.int .i64 x409003_1,.int .i64 x409004_1,.int .i64 x409005_1,.int .i64 x409006_1,.slice Ao102 x409007_1.length co102] #[.int .i64 0,.int .i64 0,.int .i64 0] (0,0) (0,0) _ _ rfl (by refine bP ?_;refine blk_far ?_ NB393_394.out _;refine bP ?_;refine blk_far ?_ NB393_394.out _;refine bP ?_;refine blk_far ?_ NB393_394.out _;refine bP ?_;refine blk_put (cs := #[.int .i64 x409000_1,.int .i64 x409001_1,.int .i64 x409002_1,.int .i64 x409003_1,.int .i64 x409004_1,.int .i64 x409005_1,.int .i64 x409006_1,.slice none 0 0]) ?_ 7 _ rfl;refine bP ?_;refine blk_put (cs := #[.int .i64 x409000_1,.int .i64 x409001_1,.int .i64 x409002_1,.int .i64 x409003_1,.int .i64 x409004_1,.int .i64 x409005_1,.int .i64 x394006_1,.slice none 0 0]) ?_ 6 _ rfl;refine bP ?_;refine blk_put (cs := #[.int .i64 x409000_1,.int .i64 x409001_1,.int .i64 x409002_1,.int .i64 x409003_1,.int .i64 x409004_1,.int .i64 x394005_1,.int .i64 x394006_1,.slice none 0 0]) ?_ 5 _ rfl;refine bP ?_;refine blk_put (cs := #[.int .i64 x409000_1,.int .i64 x409001_1,.int .i64 x409002_1,.int .i64 x409003_1,.int .i64 x394004_1,.int .i64 x394005_1,.int .i64 x394006_1,.slice none 0 0]) ?_ 4 _ rfl;refine bP ?_;refine blk_put (cs := #[.int .i64 x409000_1,.int .i64 x409001_1,.int .i64 x409002_1,.int .i64 x394003_1,.int .i64 x394004_1,.int .i64 x394005_1,.int .i64 x394006_1,.slice none 0 0]) ?_ 3 _ rfl;refine bP ?_;refine blk_put (cs := #[.int .i64 x409000_1,.int .i64 x409001_1,.int .i64 x394002_1,.int .i64 x394003_1,.int .i64 x394004_1,.int .i64 x394005_1,.int .i64 x394006_1,.slice none 0 0]) ?_ 2 _ rfl;refine bP ?_;refine blk_put (cs := #[.int .i64 x409000_1,.int .i64 x394001_1,.int .i64 x394002_1,.int .i64 x394003_1,.int .i64 x394004_1,.int .i64 x394005_1,.int .i64 x394006_1,.slice none 0 0]) ?_ 1 _ rfl;refine bP ?_;refine blk_put (cs := #[.int .i64 x394000_1,.int .i64 x394001_1,.int .i64 x394002_1,.int .i64 x394003_1,.int .i64 x394004_1,.int .i64 x394005_1,.int .i64 x394006_1,.slice none 0 0]) ?_ 0 _ rfl;refine bP ?_;exact BK393.out) Tryz.underlying26 rfl Z114 rfl (by refine bP ?_;refine blk_put (cs := #[.int .i64 0,.int .i64 0,.int .i64 x395002_1]) ?_ 2 _ rfl;refine bP ?_;refine blk_put (cs := #[.int .i64 0,.int .i64 x395001_1,.int .i64 x395002_1]) ?_ 1 _ rfl;refine bP ?_;refine blk_put (cs := #[.int .i64 x395000_1,.int .i64 x395001_1,.int .i64 x395002_1]) ?_ 0 _ rfl;refine bP ?_;refine blk_far ?_ NB394_393.out _;refine bP ?_;refine blk_far ?_ NB394_393.out _;refine bP ?_;refine blk_far ?_ NB394_393.out _;refine bP ?_;refine blk_far ?_ NB394_393.out _;refine bP ?_;refine blk_far ?_ NB394_393.out _;refine bP ?_;refine blk_far ?_ NB394_393.out _;refine bP ?_;refine blk_far ?_ NB394_393.out _;refine bP ?_;refine blk_far ?_ NB394_393.out _;refine bP ?_;exact BK394.out) Tryz.underlying34 rfl Z114) rfl ?_
    exact ⟨_,Z92,by (with_reducible repeat (first | apply Kd.R_alloc | apply Kd.R_drewN | apply Kd.R_drew));exact Kd.R_mono (Kd.R_far (p := ⟨gb394,2,none⟩) (Kd.R_far (p := ⟨gb394,1,none⟩) (Kd.R_far (p := ⟨gb394,0,none⟩) (Kd.R_far (p := ⟨gb393,7,none⟩) (Kd.R_far (p := ⟨gb393,6,none⟩) (Kd.R_far (p := ⟨gb393,5,none⟩) (Kd.R_far (p := ⟨gb393,4,none⟩) (Kd.R_far (p := ⟨gb393,3,none⟩) (Kd.R_far (p := ⟨gb393,2,none⟩) (Kd.R_far (p := ⟨gb393,1,none⟩) (Kd.R_far (p := ⟨gb393,0,none⟩) (Kd.R_types (Kd.R_types HO_409007.out BK393.out Z163) BK394.out Z163) (fun _ hk => hk.1.2) (.int .i64 x409000_1)) (fun _ hk => hk.1.2) (.int .i64 x409001_1)) (fun _ hk => hk.1.2) (.int .i64 x409002_1)) (fun _ hk => hk.1.2) (.int .i64 x409003_1)) (fun _ hk => hk.1.2) (.int .i64 x409004_1)) (fun _ hk => hk.1.2) (.int .i64 x409005_1)) (fun _ hk => hk.1.2) (.int .i64 x409006_1)) (fun _ hk => hk.1.2) (.slice Ao102 x409007_1.length co102)) (fun _ hk => hk.2) (.int .i64 0)) (fun _ hk => hk.2) (.int .i64 0)) (fun _ hk => hk.2) (.int .i64 0)) (fun _ hk => trivial),Z122⟩
   rw [if_pos c22] at H
   have c22b0 : decide (x22_1 < (t409.length : Int)) = true := decide_eq_true c22
   clear c22
   obtain ⟨c23,H⟩ := ifp H
   have c23b0 : decide (0 ≤ x22_1) = true := decide_eq_true c23
   clear c23
   obtain ⟨c24,H⟩ := ifp H
   have c24b0 : decide (x22_1 < (t409.length : Int)) = true := decide_eq_true c24
   clear c24
   by_cases c25 : (rdOf ByteArray.empty t409 x22_1).toList = ([] : List UInt8)
   ·rw [if_pos c25] at H
    have c25b0 : ((rdOf ByteArray.empty t409 x22_1).toList == ([] : List UInt8)) = true := beq_iff_eq.mpr c25
    have c25b1 : ((rdOf ByteArray.empty t409 x22_1).toList != ([] : List UInt8)) = false := bne_eq_false_iff_eq.mpr c25
    clear c25
    have H' := Aside0.mk H
    clear H
    have p412 : 0 ≤ (x22_1 : Int) := of_decide_eq_true Z99
    have q412 : x22_1 < (t409.length : Int) := of_decide_eq_true Z99
    obtain ⟨ad412,e412,hx412_0⟩ := Kd.at_string (Kd.R_reads' HO_20.out).2.2 x22_1 p412 q412
    cases e412
    replace p412 := eq_true p412
    replace q412 := eq_true q412
    go_wp2
    go_roundg k1
    case measure => have := HK1.out;omega
    case rel => exact ⟨(x5_1),(wrap64 (x22_1 + 1)),(x394000_1),(x394001_1),(x394002_1),(x394003_1),(x394004_1),(x394005_1),(x394006_1),(x395000_1),(x395001_1),(x395002_1),(x409000_1),(x409001_1),(x409002_1),(x409003_1),(x409004_1),(x409005_1),(x409006_1),(x409007_1),(u409007),Z100,H',⟨Z111⟩,⟨Z152⟩,⟨Z147⟩,⟨Z144⟩,⟨Z170⟩,⟨Z157⟩,⟨Z161⟩,⟨Z122⟩⟩
   rw [if_neg c25] at H
   have c25b0 : ((rdOf ByteArray.empty t409 x22_1).toList == ([] : List UInt8)) = false := beq_eq_false_iff_ne.mpr c25
   have c25b1 : ((rdOf ByteArray.empty t409 x22_1).toList != ([] : List UInt8)) = true := bne_iff_ne.mpr c25
   obtain ⟨⟨t413,t414,t415⟩,A260,H⟩ := Option.bind_eq_some_iff.mp H
   try dsimp only at H
   have A26 := Aside0.mk A260
   clear A260
   by_cases c27 : t415 = true
   rotate_left
   ·replace c27 := Bool.eq_false_iff.mpr c27
    subst c27
    rw [if_neg Bool.false_ne_true] at H
    by_cases c87 : 10 = 0
    ·exact absurd c87 Z163
    rw [if_neg c87] at H
    have c87b0 : (10 == 0) = false := beq_eq_false_iff_ne.mpr c87
    have c87b1 : (10 != 0) = true := bne_iff_ne.mpr c87
    simp only [Option.some.injEq,Prod.mk.injEq] at H
    obtain ⟨rfl,rfl,rfl,rfl,rfl,rfl,rfl,rfl,rfl,rfl,rfl⟩ := H
    have p412 : 0 ≤ (x22_1 : Int) := of_decide_eq_true Z99
    have q412 : x22_1 < (t409.length : Int) := of_decide_eq_true Z99
    obtain ⟨ad412,e412,hx412_0⟩ := Kd.at_string (Kd.R_reads' HO_20.out).2.2 x22_1 p412 q412
    cases e412
    replace p412 := eq_true p412
    replace q412 := eq_true q412
    go_wp2_with (first | ((with_reducible refine gate_callee (f := 24) rfl ?_);refine goesL_ (some 31) rfl rfl Tryz.func24 Z114 rfl #[.string (rdOf ByteArray.empty t409 x22_1),.string (⟨#[61]⟩ : ByteArray)] rfl Z74 ?_;(with_reducible refine (strings_Cut.calls (rdOf ByteArray.empty t409 x22_1) (⟨#[61]⟩ : ByteArray) t413 t414 false _ ?side1 A26.out).mono ?_);(case side1 => exact Z31);rintro e wq1 ⟨rfl,hb⟩;refine ⟨_,rfl,?_⟩;have n_ := Z9;clear HO_5 HO_20 HO_409007 BK393 BK394 BK408 HB;obtain ⟨HO_5,HO_20,HO_409007,BK393,BK394,BK408,HB⟩ := n_;(try clear hb);(try clear hb2);(try clear hk);(try clear hi);have hnbq2 := NB393_394.out;have hncq2 := NB394_393.out;have hnbq3 := NB393_408.out;have hncq3 := NB408_393.out;obtain ⟨hczq4_0,hczq4_1,hczq4_2,hczq4_3,hczq4_4,hczq4_5,hczq4_6,hczq4_7,hfzq4_0,hfzq4_1,hfzq4_2,hfzq4_3,hfzq4_4,hfzq4_5,hfzq4_6,hfzq4_7⟩ := cells8 BK393.out;have hnbq5 := NB394_408.out;have hncq5 := NB408_394.out;obtain ⟨hczq6_0,hczq6_1,hczq6_2,hfzq6_0,hfzq6_1,hfzq6_2⟩ := cells3 BK394.out))
    refine bodyPost_ret (results_cc rfl _ _ gb393 gb394 26 34 #[.int .i64 0,.int .i64 0,.int .i64 0,.int .i64 0,.int .i64 0,.int .i64 0,.int .i64 0,.slice none 0 0] #[.int .i64 10,.int .i64 x22_1,.int .i64 0] (0,0) (0,0) _ _ rfl Z6 Tryz.underlying26 rfl Z114 rfl (by refine bP ?_;refine blk_put (cs := #[.int .i64 10,.int .i64 x22_1,.int .i64 x395002_1]) ?_ 2 _ rfl;refine bP ?_;refine blk_put (cs := #[.int .i64 10,.int .i64 x395001_1,.int .i64 x395002_1]) ?_ 1 _ rfl;refine bP ?_;refine blk_put (cs := #[.int .i64 x395000_1,.int .i64 x395001_1,.int .i64 x395002_1]) ?_ 0 _ rfl;refine bP ?_;refine blk_far ?_ NB394_393.out _;refine bP ?_;refine blk_far ?_ NB394_393.out _;refine bP ?_;refine blk_far ?_ NB394_393.out _;refine bP ?_;refine blk_far ?_ NB394_393.out _;refine bP ?_;refine blk_far ?_ NB394_393.out _;refine bP ?_;refine blk_far ?_ NB394_393.out _;refine bP ?_;refine blk_far ?_ NB394_393.out _;refine bP ?_;refine blk_far ?_ NB394_393.out _;refine bP ?_;exact BK394.out) Tryz.underlying34 rfl Z114) rfl ?_
    exact ⟨_,Z92,Z73,Z122⟩
   subst c27
   rw [if_pos rfl] at H
   obtain ⟨y416,hyy⟩ : ∃ y_ : List ByteArray,y_ = (([(⟨#[114,111,117,110,100,115]⟩ : ByteArray),(⟨#[100,101,112,116,104]⟩ : ByteArray),(⟨#[98,105,110,115]⟩ : ByteArray),(⟨#[108,97,109,98,100,97]⟩ : ByteArray),(⟨#[114,111,119,115]⟩ : ByteArray),(⟨#[114,97,116,101]⟩ : ByteArray),(⟨#[115,105,103,110,115]⟩ : ByteArray)] : List ByteArray)) := ⟨_,rfl⟩
   replace H : ((slices_Contains_string_string.f k1 y416 t413).bind fun t419 => (if t419 = true then ((slices_Contains_string_string.f k1 x5_1 t413).bind fun t420 => (if t420 = true then (if 6 = 0 then (if x5_1.length < 8796093022208 then (impl_ReadConfig.l0 k1 (x5_1 ++ [t413]) t409 (t409.length : Int) (wrap64 (x22_1 + 1)) x409000_1 x409001_1 x409002_1 x409003_1 x409004_1 x409005_1 x409006_1 x409007_1) else (none)) else (some (0,0,0,0,0,0,0,([] : List Int),6,x22_1,0))) else ((impl_Config_set.f k1 x409000_1 x409001_1 x409002_1 x409003_1 x409004_1 x409005_1 x409006_1 x409007_1 t413 t414).bind fun bt424 => (if bt424.1 = 0 then (if x5_1.length < 8796093022208 then (impl_ReadConfig.l0 k1 (x5_1 ++ [t413]) t409 (t409.length : Int) (wrap64 (x22_1 + 1)) bt424.2.1 bt424.2.2.1 bt424.2.2.2.1 bt424.2.2.2.2.1 bt424.2.2.2.2.2.1 bt424.2.2.2.2.2.2.1 bt424.2.2.2.2.2.2.2.1 bt424.2.2.2.2.2.2.2.2) else (none)) else (some (0,0,0,0,0,0,0,([] : List Int),bt424.1,x22_1,0)))))) else (if 11 = 0 then (if x5_1.length < 8796093022208 then (impl_ReadConfig.l0 k1 (x5_1 ++ [t413]) t409 (t409.length : Int) (wrap64 (x22_1 + 1)) x409000_1 x409001_1 x409002_1 x409003_1 x409004_1 x409005_1 x409006_1 x409007_1) else (none)) else (some (0,0,0,0,0,0,0,([] : List Int),11,x22_1,0))))) = some (r1,r2,r3,r4,r5,r6,r7,r8,r9,r10,r11) := zR
   have Ny416 := Aside0.mk hyy
   clear hyy
   obtain ⟨t419,A280,H⟩ := Option.bind_eq_some_iff.mp H
   have A28 := Aside0.mk A280
   clear A280
   by_cases c29 : t419 = true
   rotate_left
   ·replace c29 := Bool.eq_false_iff.mpr c29
    subst c29
    rw [if_neg Bool.false_ne_true] at H
    by_cases c71 : 11 = 0
    ·exact absurd c71 Z163
    rw [if_neg c71] at H
    have c71b0 : (11 == 0) = false := beq_eq_false_iff_ne.mpr c71
    have c71b1 : (11 != 0) = true := bne_iff_ne.mpr c71
    simp only [Option.some.injEq,Prod.mk.injEq] at H
    obtain ⟨rfl,rfl,rfl,rfl,rfl,rfl,rfl,rfl,rfl,rfl,rfl⟩ := H
    have p412 : 0 ≤ (x22_1 : Int) := of_decide_eq_true Z99
    have q412 : x22_1 < (t409.length : Int) := of_decide_eq_true Z99
    obtain ⟨ad412,e412,hx412_0⟩ := Kd.at_string (Kd.R_reads' HO_20.out).2.2 x22_1 p412 q412
    cases e412
    replace p412 := eq_true p412
    replace q412 := eq_true q412
    go_wp2_with (first | ((with_reducible refine gate_callee (f := 24) rfl ?_);refine goesL_ (some 31) rfl rfl Tryz.func24 Z114 rfl #[.string (rdOf ByteArray.empty t409 x22_1),.string (⟨#[61]⟩ : ByteArray)] rfl Z74 ?_;(with_reducible refine (strings_Cut.calls (rdOf ByteArray.empty t409 x22_1) (⟨#[61]⟩ : ByteArray) t413 t414 true _ ?side1 A26.out).mono ?_);(case side1 => exact Z31);rintro e wq1 ⟨rfl,hb⟩;refine ⟨_,rfl,?_⟩;have n_ := Z9;clear HO_5 HO_20 HO_409007 BK393 BK394 BK408 HB;obtain ⟨HO_5,HO_20,HO_409007,BK393,BK394,BK408,HB⟩ := n_;(try clear hb);(try clear hb2);(try clear hk);(try clear hi)) | ((with_reducible refine gate_dst (N := 42) rfl ?_);refine Kd.R_lit Kd.string _ 9 ?hg (N := 42) ?hd (xs := ([(⟨#[114,111,117,110,100,115]⟩ : ByteArray),(⟨#[100,101,112,116,104]⟩ : ByteArray),(⟨#[98,105,110,115]⟩ : ByteArray),(⟨#[108,97,109,98,100,97]⟩ : ByteArray),(⟨#[114,111,119,115]⟩ : ByteArray),(⟨#[114,97,116,101]⟩ : ByteArray),(⟨#[115,105,103,110,115]⟩ : ByteArray)] : List ByteArray)) (inner := [.string (⟨#[114,111,117,110,100,115]⟩ : ByteArray),.string (⟨#[100,101,112,116,104]⟩ : ByteArray),.string (⟨#[98,105,110,115]⟩ : ByteArray),.string (⟨#[108,97,109,98,100,97]⟩ : ByteArray),.string (⟨#[114,111,119,115]⟩ : ByteArray),.string (⟨#[114,97,116,101]⟩ : ByteArray),.string (⟨#[115,105,103,110,115]⟩ : ByteArray)]) (ok := fun _ => True) (okp := fun _ => True) ?hr ?hp (fun _ hk => hk) trivial (Below.refl _ _) (Nat.le_refl _) Z164 ?_;(case hd => rfl);(case hg => rfl);(case hr => exact Z101);(case hp => exact Z13);intro vq2 wq3 hoq4 hb hg_ hnew_;clear hg_ hnew_;(first | rw [← Ny416.out] at hoq4 | (simp only [Int.reduceToNat] at hoq4;rw [← Ny416.out] at hoq4));have n_ := Z3;clear HO_5 HO_20 HO_409007 BK393 BK394 BK408 HB;obtain ⟨HO_5,HO_20,HO_409007,HO418,BK393,BK394,BK408,HB⟩ := n_;clear hb hoq4;obtain ⟨Aoq5,coq5,eoq5⟩ := Kd.R_slice HO418.out;subst eoq5) | ((with_reducible refine gate_callee (f := 25) rfl ?_);refine goesL_ (some 44) rfl rfl Tryz.func25 Z114 rfl #[.slice Aoq5 y416.length coq5,.string t413] rfl Z74 ?_;(with_reducible refine (slices_Contains_string_string.calls k1 _ _ y416 t413 false _ ?side1 ?side2 A28.out).mono ?_);(case side1 => exact Z58);(case side2 => exact Z105);rintro e w' ⟨rfl,⟨nd,rfl⟩⟩;refine ⟨_,rfl,?_⟩;(iterate 4 (try (rw [drewN_self wq3];generalize hq_ : World.drewN wq3 _ = wq3;have n0_ : Aside0 (Kd.R Kd.string 9 wq3 w.heap.size (fun k_ => some k_ ≠ (.slice (some ad412) t409.length co21 : Value).ownBlock ∧ some k_ ≠ (u5 : Value).ownBlock) (.slice Aoq5 y416.length coq5) y416) := ⟨Z61⟩;have n1_ : Aside0 (Kd.R Kd.string 9 wq3 w.heap.size (fun k_ => some k_ ≠ (.slice Aoq5 y416.length coq5 : Value).ownBlock ∧ some k_ ≠ (u5 : Value).ownBlock) (.slice (some ad412) t409.length co21) t409) := ⟨Z62⟩;have n2_ : Aside0 (Kd.R (Kd.int .i64) 3 wq3 w.heap.size (fun _ => True) u409007 x409007_1) := ⟨Z75⟩;have n3_ : Aside0 (Kd.R Kd.string 9 wq3 w.heap.size (fun k_ => some k_ ≠ (.slice Aoq5 y416.length coq5 : Value).ownBlock ∧ some k_ ≠ (.slice (some ad412) t409.length co21 : Value).ownBlock) u5 x5_1) := ⟨Z63⟩;have n4_ : Aside0 (wq3.heap[gb393]? = some (.cells #[.int .i64 x394000_1,.int .i64 x394001_1,.int .i64 x394002_1,.int .i64 x394003_1,.int .i64 x394004_1,.int .i64 x394005_1,.int .i64 x394006_1,.slice none 0 0] 26 (0,0))) := ⟨Z97⟩;have n5_ : Aside0 (wq3.heap[gb394]? = some (.cells #[.int .i64 x395000_1,.int .i64 x395001_1,.int .i64 x395002_1] 34 (0,0))) := ⟨Z96⟩;have n6_ : Aside0 (wq3.heap[gb408]? = some (.cells #[.int .i64 x409000_1,.int .i64 x409001_1,.int .i64 x409002_1,.int .i64 x409003_1,.int .i64 x409004_1,.int .i64 x409005_1,.int .i64 x409006_1,u409007] 26 (0,0))) := ⟨Z95⟩;have n7_ : Aside0 (Below w.heap.size w wq3) := ⟨Z32⟩;clear HO418 HO_20 HO_409007 HO_5 BK393 BK394 BK408 HB hq_;have HO418 := n0_;have HO_20 := n1_;have HO_409007 := n2_;have HO_5 := n3_;have BK393 := n4_;have BK394 := n5_;have BK408 := n6_;have HB := n7_;clear n0_ n1_ n2_ n3_ n4_ n5_ n6_ n7_)));have hnbq6 := NB393_394.out;have hncq6 := NB394_393.out;have hnbq7 := NB393_408.out;have hncq7 := NB408_393.out;obtain ⟨hczq8_0,hczq8_1,hczq8_2,hczq8_3,hczq8_4,hczq8_5,hczq8_6,hczq8_7,hfzq8_0,hfzq8_1,hfzq8_2,hfzq8_3,hfzq8_4,hfzq8_5,hfzq8_6,hfzq8_7⟩ := cells8 BK393.out;have hnbq9 := NB394_408.out;have hncq9 := NB408_394.out;obtain ⟨hczq10_0,hczq10_1,hczq10_2,hfzq10_0,hfzq10_1,hfzq10_2⟩ := cells3 BK394.out))
    refine bodyPost_ret (results_cc rfl _ _ gb393 gb394 26 34 #[.int .i64 0,.int .i64 0,.int .i64 0,.int .i64 0,.int .i64 0,.int .i64 0,.int .i64 0,.slice none 0 0] #[.int .i64 11,.int .i64 x22_1,.int .i64 0] (0,0) (0,0) _ _ rfl Z6 Tryz.underlying26 rfl Z114 rfl (by refine bP ?_;refine blk_put (cs := #[.int .i64 11,.int .i64 x22_1,.int .i64 x395002_1]) ?_ 2 _ rfl;refine bP ?_;refine blk_put (cs := #[.int .i64 11,.int .i64 x395001_1,.int .i64 x395002_1]) ?_ 1 _ rfl;refine bP ?_;refine blk_put (cs := #[.int .i64 x395000_1,.int .i64 x395001_1,.int .i64 x395002_1]) ?_ 0 _ rfl;refine bP ?_;refine blk_far ?_ NB394_393.out _;refine bP ?_;refine blk_far ?_ NB394_393.out _;refine bP ?_;refine blk_far ?_ NB394_393.out _;refine bP ?_;refine blk_far ?_ NB394_393.out _;refine bP ?_;refine blk_far ?_ NB394_393.out _;refine bP ?_;refine blk_far ?_ NB394_393.out _;refine bP ?_;refine blk_far ?_ NB394_393.out _;refine bP ?_;refine blk_far ?_ NB394_393.out _;refine bP ?_;exact BK394.out) Tryz.underlying34 rfl Z114) rfl ?_
    exact ⟨_,Z92,Z73,Z122⟩
   subst c29
   rw [if_pos rfl] at H
   obtain ⟨t420,A300,H⟩ := Option.bind_eq_some_iff.mp H
   have A30 := Aside0.mk A300
   clear A300
   by_cases c31 : t420 = true
   ·subst c31
    rw [if_pos rfl] at H
    by_cases c32 : 6 = 0
    ·exact absurd c32 Z163
    rw [if_neg c32] at H
    have c32b0 : (6 == 0) = false := beq_eq_false_iff_ne.mpr c32
    have c32b1 : (6 != 0) = true := bne_iff_ne.mpr c32
    simp only [Option.some.injEq,Prod.mk.injEq] at H
    obtain ⟨rfl,rfl,rfl,rfl,rfl,rfl,rfl,rfl,rfl,rfl,rfl⟩ := H
    have p412 : 0 ≤ (x22_1 : Int) := of_decide_eq_true Z99
    have q412 : x22_1 < (t409.length : Int) := of_decide_eq_true Z99
    obtain ⟨ad412,e412,hx412_0⟩ := Kd.at_string (Kd.R_reads' HO_20.out).2.2 x22_1 p412 q412
    cases e412
    replace p412 := eq_true p412
    replace q412 := eq_true q412
    go_wp2_with (first | ((with_reducible refine gate_callee (f := 24) rfl ?_);refine goesL_ (some 31) rfl rfl Tryz.func24 Z114 rfl #[.string (rdOf ByteArray.empty t409 x22_1),.string (⟨#[61]⟩ : ByteArray)] rfl Z74 ?_;(with_reducible refine (strings_Cut.calls (rdOf ByteArray.empty t409 x22_1) (⟨#[61]⟩ : ByteArray) t413 t414 true _ ?side1 A26.out).mono ?_);(case side1 => exact Z31);rintro e wq1 ⟨rfl,hb⟩;refine ⟨_,rfl,?_⟩;have n_ := Z9;clear HO_5 HO_20 HO_409007 BK393 BK394 BK408 HB;obtain ⟨HO_5,HO_20,HO_409007,BK393,BK394,BK408,HB⟩ := n_;(try clear hb);(try clear hb2);(try clear hk);(try clear hi)) | ((with_reducible refine gate_dst (N := 42) rfl ?_);refine Kd.R_lit Kd.string _ 9 ?hg (N := 42) ?hd (xs := ([(⟨#[114,111,117,110,100,115]⟩ : ByteArray),(⟨#[100,101,112,116,104]⟩ : ByteArray),(⟨#[98,105,110,115]⟩ : ByteArray),(⟨#[108,97,109,98,100,97]⟩ : ByteArray),(⟨#[114,111,119,115]⟩ : ByteArray),(⟨#[114,97,116,101]⟩ : ByteArray),(⟨#[115,105,103,110,115]⟩ : ByteArray)] : List ByteArray)) (inner := [.string (⟨#[114,111,117,110,100,115]⟩ : ByteArray),.string (⟨#[100,101,112,116,104]⟩ : ByteArray),.string (⟨#[98,105,110,115]⟩ : ByteArray),.string (⟨#[108,97,109,98,100,97]⟩ : ByteArray),.string (⟨#[114,111,119,115]⟩ : ByteArray),.string (⟨#[114,97,116,101]⟩ : ByteArray),.string (⟨#[115,105,103,110,115]⟩ : ByteArray)]) (ok := fun _ => True) (okp := fun _ => True) ?hr ?hp (fun _ hk => hk) trivial (Below.refl _ _) (Nat.le_refl _) Z164 ?_;(case hd => rfl);(case hg => rfl);(case hr => exact Z101);(case hp => exact Z13);intro vq2 wq3 hoq4 hb hg_ hnew_;clear hg_ hnew_;(first | rw [← Ny416.out] at hoq4 | (simp only [Int.reduceToNat] at hoq4;rw [← Ny416.out] at hoq4));have n_ := Z3;clear HO_5 HO_20 HO_409007 BK393 BK394 BK408 HB;obtain ⟨HO_5,HO_20,HO_409007,HO418,BK393,BK394,BK408,HB⟩ := n_;clear hb hoq4;obtain ⟨Aoq5,coq5,eoq5⟩ := Kd.R_slice HO418.out;subst eoq5) | ((with_reducible refine gate_callee (f := 25) rfl ?_);refine goesL_ (some 44) rfl rfl Tryz.func25 Z114 rfl #[.slice Aoq5 y416.length coq5,.string t413] rfl Z74 ?_;(with_reducible refine (slices_Contains_string_string.calls k1 _ _ y416 t413 true _ ?side1 ?side2 A28.out).mono ?_);(case side1 => exact Z58);(case side2 => exact Z105);rintro e w' ⟨rfl,⟨nd,rfl⟩⟩;refine ⟨_,rfl,?_⟩;(iterate 4 (try (rw [drewN_self wq3];generalize hq_ : World.drewN wq3 _ = wq3;have n0_ : Aside0 (Kd.R Kd.string 9 wq3 w.heap.size (fun k_ => some k_ ≠ (.slice (some ad412) t409.length co21 : Value).ownBlock ∧ some k_ ≠ (u5 : Value).ownBlock) (.slice Aoq5 y416.length coq5) y416) := ⟨Z61⟩;have n1_ : Aside0 (Kd.R Kd.string 9 wq3 w.heap.size (fun k_ => some k_ ≠ (.slice Aoq5 y416.length coq5 : Value).ownBlock ∧ some k_ ≠ (u5 : Value).ownBlock) (.slice (some ad412) t409.length co21) t409) := ⟨Z62⟩;have n2_ : Aside0 (Kd.R (Kd.int .i64) 3 wq3 w.heap.size (fun _ => True) u409007 x409007_1) := ⟨Z75⟩;have n3_ : Aside0 (Kd.R Kd.string 9 wq3 w.heap.size (fun k_ => some k_ ≠ (.slice Aoq5 y416.length coq5 : Value).ownBlock ∧ some k_ ≠ (.slice (some ad412) t409.length co21 : Value).ownBlock) u5 x5_1) := ⟨Z63⟩;have n4_ : Aside0 (wq3.heap[gb393]? = some (.cells #[.int .i64 x394000_1,.int .i64 x394001_1,.int .i64 x394002_1,.int .i64 x394003_1,.int .i64 x394004_1,.int .i64 x394005_1,.int .i64 x394006_1,.slice none 0 0] 26 (0,0))) := ⟨Z97⟩;have n5_ : Aside0 (wq3.heap[gb394]? = some (.cells #[.int .i64 x395000_1,.int .i64 x395001_1,.int .i64 x395002_1] 34 (0,0))) := ⟨Z96⟩;have n6_ : Aside0 (wq3.heap[gb408]? = some (.cells #[.int .i64 x409000_1,.int .i64 x409001_1,.int .i64 x409002_1,.int .i64 x409003_1,.int .i64 x409004_1,.int .i64 x409005_1,.int .i64 x409006_1,u409007] 26 (0,0))) := ⟨Z95⟩;have n7_ : Aside0 (Below w.heap.size w wq3) := ⟨Z32⟩;clear HO418 HO_20 HO_409007 HO_5 BK393 BK394 BK408 HB hq_;have HO418 := n0_;have HO_20 := n1_;have HO_409007 := n2_;have HO_5 := n3_;have BK393 := n4_;have BK394 := n5_;have BK408 := n6_;have HB := n7_;clear n0_ n1_ n2_ n3_ n4_ n5_ n6_ n7_)));obtain ⟨Aoq6,coq6,eoq6⟩ := Kd.R_slice HO_5.out;subst eoq6) | ((with_reducible refine gate_callee (f := 25) rfl ?_);refine goesL_ (some 49) rfl rfl Tryz.func25 Z114 rfl #[.slice Aoq6 x5_1.length coq6,.string t413] rfl Z74 ?_;(with_reducible refine (slices_Contains_string_string.calls k1 _ _ x5_1 t413 true _ ?side1 ?side2 A30.out).mono ?_);(case side1 => exact Z60);(case side2 => exact (Kd.R_reads' HO_5.out).2.1);rintro e w' ⟨rfl,⟨nd,rfl⟩⟩;refine ⟨_,rfl,?_⟩;(iterate 4 (try (rw [drewN_self wq3];generalize hq_ : World.drewN wq3 _ = wq3;have n0_ : Aside0 (Kd.R Kd.string 9 wq3 w.heap.size (fun k_ => some k_ ≠ (.slice (some ad412) t409.length co21 : Value).ownBlock ∧ some k_ ≠ (.slice Aoq6 x5_1.length coq6 : Value).ownBlock) (.slice Aoq5 y416.length coq5) y416) := ⟨Z61⟩;have n1_ : Aside0 (Kd.R Kd.string 9 wq3 w.heap.size (fun k_ => some k_ ≠ (.slice Aoq5 y416.length coq5 : Value).ownBlock ∧ some k_ ≠ (.slice Aoq6 x5_1.length coq6 : Value).ownBlock) (.slice (some ad412) t409.length co21) t409) := ⟨Z62⟩;have n2_ : Aside0 (Kd.R (Kd.int .i64) 3 wq3 w.heap.size (fun _ => True) u409007 x409007_1) := ⟨Z75⟩;have n3_ : Aside0 (Kd.R Kd.string 9 wq3 w.heap.size (fun k_ => some k_ ≠ (.slice Aoq5 y416.length coq5 : Value).ownBlock ∧ some k_ ≠ (.slice (some ad412) t409.length co21 : Value).ownBlock) (.slice Aoq6 x5_1.length coq6) x5_1) := ⟨Z63⟩;have n4_ : Aside0 (wq3.heap[gb393]? = some (.cells #[.int .i64 x394000_1,.int .i64 x394001_1,.int .i64 x394002_1,.int .i64 x394003_1,.int .i64 x394004_1,.int .i64 x394005_1,.int .i64 x394006_1,.slice none 0 0] 26 (0,0))) := ⟨Z97⟩;have n5_ : Aside0 (wq3.heap[gb394]? = some (.cells #[.int .i64 x395000_1,.int .i64 x395001_1,.int .i64 x395002_1] 34 (0,0))) := ⟨Z96⟩;have n6_ : Aside0 (wq3.heap[gb408]? = some (.cells #[.int .i64 x409000_1,.int .i64 x409001_1,.int .i64 x409002_1,.int .i64 x409003_1,.int .i64 x409004_1,.int .i64 x409005_1,.int .i64 x409006_1,u409007] 26 (0,0))) := ⟨Z95⟩;have n7_ : Aside0 (Below w.heap.size w wq3) := ⟨Z32⟩;clear HO418 HO_20 HO_409007 HO_5 BK393 BK394 BK408 HB hq_;have HO418 := n0_;have HO_20 := n1_;have HO_409007 := n2_;have HO_5 := n3_;have BK393 := n4_;have BK394 := n5_;have BK408 := n6_;have HB := n7_;clear n0_ n1_ n2_ n3_ n4_ n5_ n6_ n7_)));have hnbq7 := NB393_394.out;have hncq7 := NB394_393.out;have hnbq8 := NB393_408.out;have hncq8 := NB408_393.out;obtain ⟨hczq9_0,hczq9_1,hczq9_2,hczq9_3,hczq9_4,hczq9_5,hczq9_6,hczq9_7,hfzq9_0,hfzq9_1,hfzq9_2,hfzq9_3,hfzq9_4,hfzq9_5,hfzq9_6,hfzq9_7⟩ := cells8 BK393.out;have hnbq10 := NB394_408.out;have hncq10 := NB408_394.out;obtain ⟨hczq11_0,hczq11_1,hczq11_2,hfzq11_0,hfzq11_1,hfzq11_2⟩ := cells3 BK394.out))
    refine bodyPost_ret (results_cc rfl _ _ gb393 gb394 26 34 #[.int .i64 0,.int .i64 0,.int .i64 0,.int .i64 0,.int .i64 0,.int .i64 0,.int .i64 0,.slice none 0 0] #[.int .i64 6,.int .i64 x22_1,.int .i64 0] (0,0) (0,0) _ _ rfl Z6 Tryz.underlying26 rfl Z114 rfl (by refine bP ?_;refine blk_put (cs := #[.int .i64 6,.int .i64 x22_1,.int .i64 x395002_1]) ?_ 2 _ rfl;refine bP ?_;refine blk_put (cs := #[.int .i64 6,.int .i64 x395001_1,.int .i64 x395002_1]) ?_ 1 _ rfl;refine bP ?_;refine blk_put (cs := #[.int .i64 x395000_1,.int .i64 x395001_1,.int .i64 x395002_1]) ?_ 0 _ rfl;refine bP ?_;refine blk_far ?_ NB394_393.out _;refine bP ?_;refine blk_far ?_ NB394_393.out _;refine bP ?_;refine blk_far ?_ NB394_393.out _;refine bP ?_;refine blk_far ?_ NB394_393.out _;refine bP ?_;refine blk_far ?_ NB394_393.out _;refine bP ?_;refine blk_far ?_ NB394_393.out _;refine bP ?_;refine blk_far ?_ NB394_393.out _;refine bP ?_;refine blk_far ?_ NB394_393.out _;refine bP ?_;exact BK394.out) Tryz.underlying34 rfl Z114) rfl ?_
    exact ⟨_,Z92,Z73,Z122⟩
   replace c31 := Bool.eq_false_iff.mpr c31
   subst c31
   rw [if_neg Bool.false_ne_true] at H
   obtain ⟨⟨t424,t425,t426,t427,t428,t429,t430,t431,t432⟩,A500,H⟩ := Option.bind_eq_some_iff.mp H
   try dsimp only at H
   have A50 := Aside0.mk A500
   clear A500
   by_cases c51 : t424 = 0
   ·rw [if_pos c51] at H
    have c51b0 : (t424 == 0) = true := beq_iff_eq.mpr c51
    have c51b1 : (t424 != 0) = false := bne_eq_false_iff_eq.mpr c51
    clear c51
    obtain ⟨c52,H⟩ := ifp H
    have LMc52 := Aside0.mk c52
    clear c52
    obtain ⟨y435,hyy⟩ : ∃ y_ : List ByteArray,y_ = (x5_1 ++ [t413]) := ⟨_,rfl⟩
    replace H : (impl_ReadConfig.l0 k1 y435 t409 (t409.length : Int) (wrap64 (x22_1 + 1)) t425 t426 t427 t428 t429 t430 t431 t432) = some (r1,r2,r3,r4,r5,r6,r7,r8,r9,r10,r11) := zR
    have Ny435 := Aside0.mk hyy
    clear hyy
    have H' := Aside0.mk H
    clear H
    have p412 : 0 ≤ (x22_1 : Int) := of_decide_eq_true Z99
    have q412 : x22_1 < (t409.length : Int) := of_decide_eq_true Z99
    obtain ⟨ad412,e412,hx412_0⟩ := Kd.at_string (Kd.R_reads' HO_20.out).2.2 x22_1 p412 q412
    cases e412
    replace p412 := eq_true p412
    replace q412 := eq_true q412
    go_wp2_with (first | ((with_reducible refine gate_callee (f := 24) rfl ?_);refine goesL_ (some 31) rfl rfl Tryz.func24 Z114 rfl #[.string (rdOf ByteArray.empty t409 x22_1),.string (⟨#[61]⟩ : ByteArray)] rfl Z74 ?_;(with_reducible refine (strings_Cut.calls (rdOf ByteArray.empty t409 x22_1) (⟨#[61]⟩ : ByteArray) t413 t414 true _ ?side1 A26.out).mono ?_);(case side1 => exact Z31);rintro e w53 ⟨rfl,hb⟩;refine ⟨_,rfl,?_⟩;have n_ := Z9;clear HO_5 HO_20 HO_409007 BK393 BK394 BK408 HB;obtain ⟨HO_5,HO_20,HO_409007,BK393,BK394,BK408,HB⟩ := n_;(try clear hb);(try clear hb2);(try clear hk);(try clear hi)) | ((with_reducible refine gate_dst (N := 42) rfl ?_);refine Kd.R_lit Kd.string _ 9 ?hg (N := 42) ?hd (xs := ([(⟨#[114,111,117,110,100,115]⟩ : ByteArray),(⟨#[100,101,112,116,104]⟩ : ByteArray),(⟨#[98,105,110,115]⟩ : ByteArray),(⟨#[108,97,109,98,100,97]⟩ : ByteArray),(⟨#[114,111,119,115]⟩ : ByteArray),(⟨#[114,97,116,101]⟩ : ByteArray),(⟨#[115,105,103,110,115]⟩ : ByteArray)] : List ByteArray)) (inner := [.string (⟨#[114,111,117,110,100,115]⟩ : ByteArray),.string (⟨#[100,101,112,116,104]⟩ : ByteArray),.string (⟨#[98,105,110,115]⟩ : ByteArray),.string (⟨#[108,97,109,98,100,97]⟩ : ByteArray),.string (⟨#[114,111,119,115]⟩ : ByteArray),.string (⟨#[114,97,116,101]⟩ : ByteArray),.string (⟨#[115,105,103,110,115]⟩ : ByteArray)]) (ok := fun _ => True) (okp := fun _ => True) ?hr ?hp (fun _ hk => hk) trivial (Below.refl _ _) (Nat.le_refl _) Z164 ?_;(case hd => rfl);(case hg => rfl);(case hr => exact Z101);(case hp => exact Z13);intro v417 w54 ho55 hb hg_ hnew_;clear hg_ hnew_;(first | rw [← Ny416.out] at ho55 | (simp only [Int.reduceToNat] at ho55;rw [← Ny416.out] at ho55));have n_ := jA (Kd.R_elder' Z152 (Kd.R_base ho55) hb) (jA (Kd.R_elder' Z147 (Kd.R_base ho55) hb) (jA (Kd.R_below Z144 hb) (jA (Kd.R_lower (Kd.R_new' (Kd.R_new' ho55 (Kd.R_lt Z152)) (Kd.R_lt Z147)) (below_size Z122)) (jA (blk_below (g := gb393) (o := .cells #[.int .i64 x394000_1,.int .i64 x394001_1,.int .i64 x394002_1,.int .i64 x394003_1,.int .i64 x394004_1,.int .i64 x394005_1,.int .i64 x394006_1,.slice none 0 0] 26 (0,0)) Z170 hb) (jA (blk_below (g := gb394) (o := .cells #[.int .i64 x395000_1,.int .i64 x395001_1,.int .i64 x395002_1] 34 (0,0)) Z157 hb) (jA (blk_below (g := gb408) (o := .cells #[.int .i64 x409000_1,.int .i64 x409001_1,.int .i64 x409002_1,.int .i64 x409003_1,.int .i64 x409004_1,.int .i64 x409005_1,.int .i64 x409006_1,u409007] 26 (0,0)) Z161 hb) (Aside0.mk (below_step Z122 hb))))))));clear HO_5 HO_20 HO_409007 BK393 BK394 BK408 HB;obtain ⟨HO_5,HO_20,HO_409007,HO418,BK393,BK394,BK408,HB⟩ := n_;clear hb ho55;obtain ⟨Ao56,co56,eo56⟩ := Kd.R_slice HO418.out;subst eo56) | ((with_reducible refine gate_callee (f := 25) rfl ?_);refine goesL_ (some 44) rfl rfl Tryz.func25 Z114 rfl #[.slice Ao56 y416.length co56,.string t413] rfl Z74 ?_;(with_reducible refine (slices_Contains_string_string.calls k1 _ _ y416 t413 true _ ?side1 ?side2 A28.out).mono ?_);(case side1 => exact Z58);(case side2 => exact Z105);rintro e w' ⟨rfl,⟨nd,rfl⟩⟩;refine ⟨_,rfl,?_⟩;obtain ⟨Ao57,co57,eo57⟩ := Kd.R_slice HO_5.out;subst eo57) | ((with_reducible refine gate_callee (f := 25) rfl ?_);refine goesL_ (some 49) rfl rfl Tryz.func25 Z114 rfl #[.slice Ao57 x5_1.length co57,.string t413] rfl Z74 ?_;(with_reducible refine (slices_Contains_string_string.calls k1 _ _ x5_1 t413 false _ ?side1 ?side2 A30.out).mono ?_);(case side1 => exact Z60);(case side2 => exact (Kd.R_reads' HO_5.out).2.1);rintro e w' ⟨rfl,⟨nd,rfl⟩⟩;refine ⟨_,rfl,?_⟩) | ((with_reducible refine gate_callee (f := 26) rfl ?_);refine goesL_ (some 37) rfl rfl Tryz.func26 Z114 rfl #[.pointer (some ⟨gb408,0,none⟩),.string t413,.string t414] rfl Z74 ?_;(with_reducible refine (impl_Config_set.calls k1 gb408 x409000_1 x409001_1 x409002_1 x409003_1 x409004_1 x409005_1 x409006_1 x409007_1 u409007 t413 t414 t424 t425 t426 t427 t428 t429 t430 t431 t432 w _ ?side1 ?side2 ?side3 ?side4 ?side5 A50.out).mono ?_);(case side1 => exact GE408.out);(case side2 => exact Z161);(case side3 => exact Z77);(case side4 => exact Z122);(case side5 => exact HG.out);rintro e w58 ⟨v433,rfl,hi,hy,hb,hk⟩;refine ⟨_,rfl,?_⟩;have n_ := Z10;clear HO_5 HO_20 BK393 BK394 HO418 HB BK408 HO_409007;obtain ⟨HO_5,HO_20,BK393,BK394,HO418,HB,BK408,HO434⟩ := n_;(try clear hb);(try clear hk);(try clear hi);(try clear hy)) | ((with_reducible refine gate_builtin (b := .append) (xs := #[.tmp 56,.tmp 58]) rfl ?_);at_builtin;refine Kd.R_append Kd.string (w0 := w) w.heap.size rfl (.tmp 56) (.tmp 58) 29 9 (.string ⟨#[]⟩) 16 rfl Tryz.underlying29 info9 rfl Z163 Z115 (.slice Ao57 x5_1.length co57) x5_1 t413 [.string t413] (fun k_ => some k_ ≠ (.slice (some ad412) t409.length co21 : Value).ownBlock ∧ some k_ ≠ (.slice Ao56 y416.length co56 : Value).ownBlock) (fun _ => False) rfl rfl ?aP (fun _ hk => hk.elim) ?aF ?aO ?aB ?aS ?aL ?_;(case aP => exact rfl);(case aB => exact Z122);(case aF => exact (fun k_ hk => ⟨Kd.fresh' (Kd.R_lt Z147) k_ hk,Kd.fresh' (Kd.R_lt Z150) k_ hk⟩));(case aO => exact Z78);(case aS => exact (below_size Z122));(case aL => have := LMc52.out;omega);intro v436 w59 ho hb hg hat;rw [← Ny435.out] at ho;have n_ := jA (Kd.R_after (ok := (fun k_ => some k_ ≠ (.slice Ao56 y416.length co56 : Value).ownBlock)) Z142 hg hat) (jA (blk_grown (g := gb393) (o := .cells #[.int .i64 x394000_1,.int .i64 x394001_1,.int .i64 x394002_1,.int .i64 x394003_1,.int .i64 x394004_1,.int .i64 x394005_1,.int .i64 x394006_1,.slice none 0 0] 26 (0,0)) Z170 hg (Kd.R_ne HO_5.out BK393.out Z163)) (jA (blk_grown (g := gb394) (o := .cells #[.int .i64 x395000_1,.int .i64 x395001_1,.int .i64 x395002_1] 34 (0,0)) Z157 hg (Kd.R_ne HO_5.out BK394.out Z163)) (jA (blk_grown (g := gb408) (o := .cells #[.int .i64 t425,.int .i64 t426,.int .i64 t427,.int .i64 t428,.int .i64 t429,.int .i64 t430,.int .i64 t431,v433] 26 (0,0)) Z161 hg (Kd.R_ne HO_5.out BK408.out Z163)) (jA (Kd.R_after (ok := (fun k_ => some k_ ≠ (.slice (some ad412) t409.length co21 : Value).ownBlock)) Z141 hg hat) (jA (Kd.R_over' Z88 (Kd.R_typed Z152) Z163 hg) (jA (hb) (Aside0.mk (ho))))))));clear HO_20 BK393 BK394 BK408 HO418 HO434 HB HO_5;obtain ⟨HO_20,BK393,BK394,BK408,HO418,HO434,HB,HO437⟩ := n_;clear ho hb hg hat))
    go_roundg k1
    case measure => have := HK1.out;omega
    case rel => exact ⟨(y435),(wrap64 (x22_1 + 1)),(x394000_1),(x394001_1),(x394002_1),(x394003_1),(x394004_1),(x394005_1),(x394006_1),(x395000_1),(x395001_1),(x395002_1),(t425),(t426),(t427),(t428),(t429),(t430),(t431),(t432),(v433),Z100,H',⟨Z111⟩,⟨by (with_reducible repeat (first | apply Kd.R_alloc | apply Kd.R_drewN | apply Kd.R_drew));exact Kd.R_mono HO437.out (fun _ hk => hk.1)⟩,⟨by (with_reducible repeat (first | apply Kd.R_alloc | apply Kd.R_drewN | apply Kd.R_drew));exact Kd.R_mono HO_20.out (fun _ hk => hk.2)⟩,⟨Z88⟩,⟨Z170⟩,⟨Z157⟩,⟨Z161⟩,⟨Z122⟩⟩
   rw [if_neg c51] at H
   have c51b0 : (t424 == 0) = false := beq_eq_false_iff_ne.mpr c51
   have c51b1 : (t424 != 0) = true := bne_iff_ne.mpr c51
   simp only [Option.some.injEq,Prod.mk.injEq] at H
   obtain ⟨rfl,rfl,rfl,rfl,rfl,rfl,rfl,rfl,rfl,rfl,rfl⟩ := H
   have p412 : 0 ≤ (x22_1 : Int) := of_decide_eq_true Z99
   have q412 : x22_1 < (t409.length : Int) := of_decide_eq_true Z99
   obtain ⟨ad412,e412,hx412_0⟩ := Kd.at_string (Kd.R_reads' HO_20.out).2.2 x22_1 p412 q412
   cases e412
   replace p412 := eq_true p412
   replace q412 := eq_true q412
   go_wp2_with (first | ((with_reducible refine gate_callee (f := 24) rfl ?_);refine goesL_ (some 31) rfl rfl Tryz.func24 Z114 rfl #[.string (rdOf ByteArray.empty t409 x22_1),.string (⟨#[61]⟩ : ByteArray)] rfl Z74 ?_;(with_reducible refine (strings_Cut.calls (rdOf ByteArray.empty t409 x22_1) (⟨#[61]⟩ : ByteArray) t413 t414 true _ ?side1 A26.out).mono ?_);(case side1 => exact Z31);rintro e wq1 ⟨rfl,hb⟩;refine ⟨_,rfl,?_⟩;have n_ := Z9;clear HO_5 HO_20 HO_409007 BK393 BK394 BK408 HB;obtain ⟨HO_5,HO_20,HO_409007,BK393,BK394,BK408,HB⟩ := n_;(try clear hb);(try clear hb2);(try clear hk);(try clear hi)) | ((with_reducible refine gate_dst (N := 42) rfl ?_);refine Kd.R_lit Kd.string _ 9 ?hg (N := 42) ?hd (xs := ([(⟨#[114,111,117,110,100,115]⟩ : ByteArray),(⟨#[100,101,112,116,104]⟩ : ByteArray),(⟨#[98,105,110,115]⟩ : ByteArray),(⟨#[108,97,109,98,100,97]⟩ : ByteArray),(⟨#[114,111,119,115]⟩ : ByteArray),(⟨#[114,97,116,101]⟩ : ByteArray),(⟨#[115,105,103,110,115]⟩ : ByteArray)] : List ByteArray)) (inner := [.string (⟨#[114,111,117,110,100,115]⟩ : ByteArray),.string (⟨#[100,101,112,116,104]⟩ : ByteArray),.string (⟨#[98,105,110,115]⟩ : ByteArray),.string (⟨#[108,97,109,98,100,97]⟩ : ByteArray),.string (⟨#[114,111,119,115]⟩ : ByteArray),.string (⟨#[114,97,116,101]⟩ : ByteArray),.string (⟨#[115,105,103,110,115]⟩ : ByteArray)]) (ok := fun _ => True) (okp := fun _ => True) ?hr ?hp (fun _ hk => hk) trivial (Below.refl _ _) (Nat.le_refl _) Z164 ?_;(case hd => rfl);(case hg => rfl);(case hr => exact Z101);(case hp => exact Z13);intro vq2 wq3 hoq4 hb hg_ hnew_;clear hg_ hnew_;(first | rw [← Ny416.out] at hoq4 | (simp only [Int.reduceToNat] at hoq4;rw [← Ny416.out] at hoq4));have n_ := Z3;clear HO_5 HO_20 HO_409007 BK393 BK394 BK408 HB;obtain ⟨HO_5,HO_20,HO_409007,HO418,BK393,BK394,BK408,HB⟩ := n_;clear hb hoq4;obtain ⟨Aoq5,coq5,eoq5⟩ := Kd.R_slice HO418.out;subst eoq5) | ((with_reducible refine gate_callee (f := 25) rfl ?_);refine goesL_ (some 44) rfl rfl Tryz.func25 Z114 rfl #[.slice Aoq5 y416.length coq5,.string t413] rfl Z74 ?_;(with_reducible refine (slices_Contains_string_string.calls k1 _ _ y416 t413 true _ ?side1 ?side2 A28.out).mono ?_);(case side1 => exact Z58);(case side2 => exact Z105);rintro e w' ⟨rfl,⟨nd,rfl⟩⟩;refine ⟨_,rfl,?_⟩;(iterate 4 (try (rw [drewN_self wq3];generalize hq_ : World.drewN wq3 _ = wq3;have n0_ : Aside0 (Kd.R Kd.string 9 wq3 w.heap.size (fun k_ => some k_ ≠ (.slice (some ad412) t409.length co21 : Value).ownBlock ∧ some k_ ≠ (u5 : Value).ownBlock) (.slice Aoq5 y416.length coq5) y416) := ⟨Z61⟩;have n1_ : Aside0 (Kd.R Kd.string 9 wq3 w.heap.size (fun k_ => some k_ ≠ (.slice Aoq5 y416.length coq5 : Value).ownBlock ∧ some k_ ≠ (u5 : Value).ownBlock) (.slice (some ad412) t409.length co21) t409) := ⟨Z62⟩;have n2_ : Aside0 (Kd.R (Kd.int .i64) 3 wq3 w.heap.size (fun _ => True) u409007 x409007_1) := ⟨Z75⟩;have n3_ : Aside0 (Kd.R Kd.string 9 wq3 w.heap.size (fun k_ => some k_ ≠ (.slice Aoq5 y416.length coq5 : Value).ownBlock ∧ some k_ ≠ (.slice (some ad412) t409.length co21 : Value).ownBlock) u5 x5_1) := ⟨Z63⟩;have n4_ : Aside0 (wq3.heap[gb393]? = some (.cells #[.int .i64 x394000_1,.int .i64 x394001_1,.int .i64 x394002_1,.int .i64 x394003_1,.int .i64 x394004_1,.int .i64 x394005_1,.int .i64 x394006_1,.slice none 0 0] 26 (0,0))) := ⟨Z97⟩;have n5_ : Aside0 (wq3.heap[gb394]? = some (.cells #[.int .i64 x395000_1,.int .i64 x395001_1,.int .i64 x395002_1] 34 (0,0))) := ⟨Z96⟩;have n6_ : Aside0 (wq3.heap[gb408]? = some (.cells #[.int .i64 x409000_1,.int .i64 x409001_1,.int .i64 x409002_1,.int .i64 x409003_1,.int .i64 x409004_1,.int .i64 x409005_1,.int .i64 x409006_1,u409007] 26 (0,0))) := ⟨Z95⟩;have n7_ : Aside0 (Below w.heap.size w wq3) := ⟨Z32⟩;clear HO418 HO_20 HO_409007 HO_5 BK393 BK394 BK408 HB hq_;have HO418 := n0_;have HO_20 := n1_;have HO_409007 := n2_;have HO_5 := n3_;have BK393 := n4_;have BK394 := n5_;have BK408 := n6_;have HB := n7_;clear n0_ n1_ n2_ n3_ n4_ n5_ n6_ n7_)));obtain ⟨Aoq6,coq6,eoq6⟩ := Kd.R_slice HO_5.out;subst eoq6) | ((with_reducible refine gate_callee (f := 25) rfl ?_);refine goesL_ (some 49) rfl rfl Tryz.func25 Z114 rfl #[.slice Aoq6 x5_1.length coq6,.string t413] rfl Z74 ?_;(with_reducible refine (slices_Contains_string_string.calls k1 _ _ x5_1 t413 false _ ?side1 ?side2 A30.out).mono ?_);(case side1 => exact Z60);(case side2 => exact (Kd.R_reads' HO_5.out).2.1);rintro e w' ⟨rfl,⟨nd,rfl⟩⟩;refine ⟨_,rfl,?_⟩;(iterate 4 (try (rw [drewN_self wq3];generalize hq_ : World.drewN wq3 _ = wq3;have n0_ : Aside0 (Kd.R Kd.string 9 wq3 w.heap.size (fun k_ => some k_ ≠ (.slice (some ad412) t409.length co21 : Value).ownBlock ∧ some k_ ≠ (.slice Aoq6 x5_1.length coq6 : Value).ownBlock) (.slice Aoq5 y416.length coq5) y416) := ⟨Z61⟩;have n1_ : Aside0 (Kd.R Kd.string 9 wq3 w.heap.size (fun k_ => some k_ ≠ (.slice Aoq5 y416.length coq5 : Value).ownBlock ∧ some k_ ≠ (.slice Aoq6 x5_1.length coq6 : Value).ownBlock) (.slice (some ad412) t409.length co21) t409) := ⟨Z62⟩;have n2_ : Aside0 (Kd.R (Kd.int .i64) 3 wq3 w.heap.size (fun _ => True) u409007 x409007_1) := ⟨Z75⟩;have n3_ : Aside0 (Kd.R Kd.string 9 wq3 w.heap.size (fun k_ => some k_ ≠ (.slice Aoq5 y416.length coq5 : Value).ownBlock ∧ some k_ ≠ (.slice (some ad412) t409.length co21 : Value).ownBlock) (.slice Aoq6 x5_1.length coq6) x5_1) := ⟨Z63⟩;have n4_ : Aside0 (wq3.heap[gb393]? = some (.cells #[.int .i64 x394000_1,.int .i64 x394001_1,.int .i64 x394002_1,.int .i64 x394003_1,.int .i64 x394004_1,.int .i64 x394005_1,.int .i64 x394006_1,.slice none 0 0] 26 (0,0))) := ⟨Z97⟩;have n5_ : Aside0 (wq3.heap[gb394]? = some (.cells #[.int .i64 x395000_1,.int .i64 x395001_1,.int .i64 x395002_1] 34 (0,0))) := ⟨Z96⟩;have n6_ : Aside0 (wq3.heap[gb408]? = some (.cells #[.int .i64 x409000_1,.int .i64 x409001_1,.int .i64 x409002_1,.int .i64 x409003_1,.int .i64 x409004_1,.int .i64 x409005_1,.int .i64 x409006_1,u409007] 26 (0,0))) := ⟨Z95⟩;have n7_ : Aside0 (Below w.heap.size w wq3) := ⟨Z32⟩;clear HO418 HO_20 HO_409007 HO_5 BK393 BK394 BK408 HB hq_;have HO418 := n0_;have HO_20 := n1_;have HO_409007 := n2_;have HO_5 := n3_;have BK393 := n4_;have BK394 := n5_;have BK408 := n6_;have HB := n7_;clear n0_ n1_ n2_ n3_ n4_ n5_ n6_ n7_)))) | ((with_reducible refine gate_callee (f := 26) rfl ?_);refine goesL_ (some 37) rfl rfl Tryz.func26 Z114 rfl #[.pointer (some ⟨gb408,0,none⟩),.string t413,.string t414] rfl Z74 ?_;(with_reducible refine (impl_Config_set.calls k1 gb408 x409000_1 x409001_1 x409002_1 x409003_1 x409004_1 x409005_1 x409006_1 x409007_1 u409007 t413 t414 t424 t425 t426 t427 t428 t429 t430 t431 t432 w _ ?side1 ?side2 ?side3 ?side4 ?side5 A50.out).mono ?_);(case side1 => exact GE408.out);(case side2 => exact Z161);(case side3 => exact Z77);(case side4 => exact Z122);(case side5 => exact HG.out);rintro e wq7 ⟨vq8,rfl,hi,hy,hb,hk⟩;refine ⟨_,rfl,?_⟩;have n_ := Z10;clear HO_5 HO_20 BK393 BK394 HO418 HB BK408 HO_409007;obtain ⟨HO_5,HO_20,BK393,BK394,HO418,HB,BK408,HO434⟩ := n_;(try clear hb);(try clear hk);(try clear hi);(try clear hy);have hnbq9 := NB393_394.out;have hncq9 := NB394_393.out;have hnbq10 := NB393_408.out;have hncq10 := NB408_393.out;obtain ⟨hczq11_0,hczq11_1,hczq11_2,hczq11_3,hczq11_4,hczq11_5,hczq11_6,hczq11_7,hfzq11_0,hfzq11_1,hfzq11_2,hfzq11_3,hfzq11_4,hfzq11_5,hfzq11_6,hfzq11_7⟩ := cells8 BK393.out;have hnbq12 := NB394_408.out;have hncq12 := NB408_394.out;obtain ⟨hczq13_0,hczq13_1,hczq13_2,hfzq13_0,hfzq13_1,hfzq13_2⟩ := cells3 BK394.out))
   refine bodyPost_ret (results_cc rfl _ _ gb393 gb394 26 34 #[.int .i64 0,.int .i64 0,.int .i64 0,.int .i64 0,.int .i64 0,.int .i64 0,.int .i64 0,.slice none 0 0] #[.int .i64 t424,.int .i64 x22_1,.int .i64 0] (0,0) (0,0) _ _ rfl Z6 Tryz.underlying26 rfl Z114 rfl (by refine bP ?_;refine blk_put (cs := #[.int .i64 t424,.int .i64 x22_1,.int .i64 x395002_1]) ?_ 2 _ rfl;refine bP ?_;refine blk_put (cs := #[.int .i64 t424,.int .i64 x395001_1,.int .i64 x395002_1]) ?_ 1 _ rfl;refine bP ?_;refine blk_put (cs := #[.int .i64 x395000_1,.int .i64 x395001_1,.int .i64 x395002_1]) ?_ 0 _ rfl;refine bP ?_;refine blk_far ?_ NB394_393.out _;refine bP ?_;refine blk_far ?_ NB394_393.out _;refine bP ?_;refine blk_far ?_ NB394_393.out _;refine bP ?_;refine blk_far ?_ NB394_393.out _;refine bP ?_;refine blk_far ?_ NB394_393.out _;refine bP ?_;refine blk_far ?_ NB394_393.out _;refine bP ?_;refine blk_far ?_ NB394_393.out _;refine bP ?_;refine blk_far ?_ NB394_393.out _;refine bP ?_;exact BK394.out) Tryz.underlying34 rfl Z114) rfl ?_
   exact ⟨_,Z92,Z73,Z122⟩

/-! ### spec_l8Ints: function 27 -/
def spec_l8Ints.l0 : Nat → List Int → List Int → Int → Option (Bool)
 | 0,_,_,_ => none
 | k + 1,x0,x1,x5 => if x5 < (x0.length : Int) then (if 0 ≤ x5 then (if x5 < (x1.length : Int) then (if (rd x0 x5) = (rd x1 x5) then (spec_l8Ints.l0 k x0 x1 (wrap64 (x5 + 1))) else (some false)) else (none)) else (none)) else (some true)
def spec_l8Ints.f (k : Nat) (l0 : List Int) (l1 : List Int) : Option (Bool) := if (l0.length : Int) = (l1.length : Int) then (spec_l8Ints.l0 k l0 l1 0) else (some false)
theorem spec_l8Ints.mono_l : ∀ k,(∀ y0 y1 y2,LeO (spec_l8Ints.l0 k y0 y1 y2) (spec_l8Ints.l0 (k + 1) y0 y1 y2))
 | 0 => fun _ _ _ r h => by simp [spec_l8Ints.l0] at h
 | k + 1 => by
  have ih0 := spec_l8Ints.mono_l k
  ·intro y0 y1 y2
   unfold spec_l8Ints.l0
   repeat' first
   | (with_reducible exact ih0 _ _ _)
   | (with_reducible exact LeO.refl _)
   | (with_reducible exact LeO.none _)
   | (with_reducible refine LeO.ite ?_ ?_)
   | (with_reducible refine LeO.bind ?_ (fun _ => ?_))
   | exact ih0 _ _ _
   | exact LeO.none _
   | refine LeO.ite ?_ ?_
   | refine LeO.bind ?_ (fun _ => ?_)
theorem spec_l8Ints.mono : ∀ a0 a1 k,LeO (spec_l8Ints.f k a0 a1) (spec_l8Ints.f (k + 1) a0 a1) := by
 intro a0 a1 k
 have ih0 := spec_l8Ints.mono_l k
 unfold spec_l8Ints.f
 repeat' first
   | (with_reducible exact ih0 _ _ _)
   | (with_reducible exact LeO.refl _)
   | (with_reducible exact LeO.none _)
   | (with_reducible refine LeO.ite ?_ ?_)
   | (with_reducible refine LeO.bind ?_ (fun _ => ?_))
   | exact ih0 _ _ _
   | exact LeO.none _
   | refine LeO.ite ?_ ?_
   | refine LeO.bind ?_ (fun _ => ?_)
set_option maxHeartbeats 8000000 in
set_option maxRecDepth 100000 in
theorem spec_l8Ints.calls (k : Nat) (A0 : Option Addr) (c0 : Nat) (l0 : List Int) (A1 : Option Addr) (c1 : Nat) (l1 : List Int) (r : Bool) (w : World) (hr0 : Kd.C (Kd.int .i64) w A0 l0.length l0) (hc0 : l0.length ≤ c0) (hr1 : Kd.C (Kd.int .i64) w A1 l1.length l1) (hc1 : l1.length ≤ c1) (h : spec_l8Ints.f k l0 l1 = some r) :
  Calls Tryz.prog 27 #[.slice A0 l0.length c0,.slice A1 l1.length c1] w fun e w' => e = .returned (.bool r) ∧ Drawn0 w w' := by
 have HR0 := Aside0.mk hr0
 have HC0 := Aside0.mk hc0
 clear hr0 hc0
 have HR1 := Aside0.mk hr1
 have HC1 := Aside0.mk hc1
 clear hr1 hc1
 have H := h
 clear h
 unfold spec_l8Ints.f at H
 by_cases c3 : (l0.length : Int) = (l1.length : Int)
 rotate_left
 ·rw [if_neg c3] at H
  have c3b0 : ((l0.length : Int) == (l1.length : Int)) = false := beq_eq_false_iff_ne.mpr c3
  have c3b1 : ((l0.length : Int) != (l1.length : Int)) = true := bne_iff_ne.mpr c3
  have c3b2 : (l0.length == l1.length) = false := by first | simpa using c3 | (simp at c3 ⊢;omega)
  obtain rfl := Option.some.inj H
  go_enter Tryz.func27,Tryz.ntmps27
  go_wp2
  repeat (go_quiet (fail);try go_wp2)
  go_ret
  exact ⟨Z100,Z94⟩
 rw [if_pos c3] at H
 have c3b0 : ((l0.length : Int) == (l1.length : Int)) = true := beq_iff_eq.mpr c3
 have c3b1 : ((l0.length : Int) != (l1.length : Int)) = false := bne_eq_false_iff_eq.mpr c3
 have c3b2 : (l0.length == l1.length) = true := by first | simpa using c3 | (simp at c3 ⊢;omega)
 clear c3
 have H' := Aside0.mk H
 clear H
 go_enter Tryz.func27,Tryz.ntmps27
 go_wp2
 repeat (go_quiet (fail);try go_wp2)
 go_loopg [5] k (fun kq v5 w' => ∃ (x5_1 : Int),v5 = .int .i64 x5_1 ∧ Aside0 (spec_l8Ints.l0 kq l0 l1 x5_1 = some r) ∧ Aside0 (kq ≤ k) ∧ Drawn0 w w')
 case atStart => exact ⟨(0),Z100,H',⟨Nat.le_refl _⟩,Z94⟩
 case round =>
  clear H'
  try clear c1
  try clear c2
  try clear p2
  try clear c3
  try clear c3b0
  try clear c3b1
  try clear c3b2
  obtain ⟨x5_1,rfl,HA,HK1,⟨m1,rfl⟩⟩ := hrel
  cases gk with
  | zero => exact absurd HA.out (by simp [spec_l8Ints.l0])
  | succ k1 =>
   have H := HA.out
   clear HA
   simp only [spec_l8Ints.l0] at H
   by_cases c4 : x5_1 < (l0.length : Int)
   rotate_left
   ·rw [if_neg c4] at H
    have c4b0 : decide (x5_1 < (l0.length : Int)) = false := decide_eq_false c4
    clear c4
    obtain rfl := Option.some.inj H
    go_wp2
    repeat (go_quiet (fail);try go_wp2)
    go_ret
    exact ⟨Z100,Z94⟩
   rw [if_pos c4] at H
   have c4b0 : decide (x5_1 < (l0.length : Int)) = true := decide_eq_true c4
   clear c4
   obtain ⟨c5,H⟩ := ifp H
   have c5b0 : decide (0 ≤ x5_1) = true := decide_eq_true c5
   clear c5
   obtain ⟨c6,H⟩ := ifp H
   have c6b0 : decide (x5_1 < (l1.length : Int)) = true := decide_eq_true c6
   clear c6
   by_cases c7 : (rd l0 x5_1) = (rd l1 x5_1)
   rotate_left
   ·rw [if_neg c7] at H
    have c7b0 : ((rd l0 x5_1) == (rd l1 x5_1)) = false := beq_eq_false_iff_ne.mpr c7
    have c7b1 : ((rd l0 x5_1) != (rd l1 x5_1)) = true := bne_iff_ne.mpr c7
    obtain rfl := Option.some.inj H
    have p444 : 0 ≤ (x5_1 : Int) := of_decide_eq_true Z99
    have q444 : x5_1 < (l0.length : Int) := of_decide_eq_true Z99
    obtain ⟨ad444,e444,hx444_0⟩ := Kd.at_int HR0.out x5_1 p444 q444
    cases e444
    replace p444 := eq_true p444
    replace q444 := eq_true q444
    have p445 : 0 ≤ (x5_1 : Int) := of_decide_eq_true Z99
    have q445 : x5_1 < (l1.length : Int) := of_decide_eq_true Z99
    obtain ⟨ad445,e445,hx445_0⟩ := Kd.at_int HR1.out x5_1 p445 q445
    cases e445
    replace p445 := eq_true p445
    replace q445 := eq_true q445
    go_wp2
    repeat (go_quiet (fail);try go_wp2)
    go_ret
    exact ⟨Z100,Z94⟩
   rw [if_pos c7] at H
   have c7b0 : ((rd l0 x5_1) == (rd l1 x5_1)) = true := beq_iff_eq.mpr c7
   have c7b1 : ((rd l0 x5_1) != (rd l1 x5_1)) = false := bne_eq_false_iff_eq.mpr c7
   clear c7
   have H' := Aside0.mk H
   clear H
   have p444 : 0 ≤ (x5_1 : Int) := of_decide_eq_true Z99
   have q444 : x5_1 < (l0.length : Int) := of_decide_eq_true Z99
   obtain ⟨ad444,e444,hx444_0⟩ := Kd.at_int HR0.out x5_1 p444 q444
   cases e444
   replace p444 := eq_true p444
   replace q444 := eq_true q444
   have p445 : 0 ≤ (x5_1 : Int) := of_decide_eq_true Z99
   have q445 : x5_1 < (l1.length : Int) := of_decide_eq_true Z99
   obtain ⟨ad445,e445,hx445_0⟩ := Kd.at_int HR1.out x5_1 p445 q445
   cases e445
   replace p445 := eq_true p445
   replace q445 := eq_true q445
   go_wp2
   repeat (go_quiet (fail);try go_wp2)
   go_roundg k1
   case measure => have := HK1.out;omega
   case rel => exact ⟨(wrap64 (x5_1 + 1)),Z100,H',⟨Z111⟩,Z94⟩

end Go.Proofs.YtepnbcdbagjmbadGreatDoor.QFnConfigLines
