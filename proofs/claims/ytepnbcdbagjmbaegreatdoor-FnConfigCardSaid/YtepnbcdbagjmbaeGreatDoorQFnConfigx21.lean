/- The machine side of FnConfig: what each Go function that it reaches comes to. Conditions: none. -/
import Derived.Test.YtepnbcdbagjmbaeGreatDoorQFnConfigx0
import Derived.Test.YtepnbcdbagjmbaeGreatDoorQFnConfigx20
namespace Go.Proofs.YtepnbcdbagjmbaeGreatDoor.QFnConfig
open Go.RowKit Go.Proofs.YtepnbcdbagjmbaeGreatDoorW.PrintWords Go.Proofs.YtepnbcdbagjmbaeGreatDoorW.PrintLast Go.Proofs.YtepnbcdbagjmbaeGreatDoorW.PrintMore
attribute [local go_sem] max2_int min2_int max_two min_two max_three min_three max_four min_four   -- for this text's walks alone
set_option linter.unusedVariables false
set_option linter.unusedSimpArgs false

/-! ### impl_SameConfig: function 13 -/
def impl_SameConfig.f (k : Nat) (a0_0 : Int) (a0_1 : Int) (a0_2 : Int) (a0_3 : Int) (a0_4 : Int) (a0_5 : Int) (a0_6 : Int) (l0_7 : List Int) (a1_0 : Int) (a1_1 : Int) (a1_2 : Int) (a1_3 : Int) (a1_4 : Int) (a1_5 : Int) (a1_6 : Int) (l1_7 : List Int) : Option (Bool) := if a0_0 = a1_0 then (if a0_1 = a1_1 then (if a0_2 = a1_2 then (if a0_3 = a1_3 then (if a0_4 = a1_4 then (if a0_5 = a1_5 then (if a0_6 = a1_6 then ((slices_Equal_int_int.f k l0_7 l1_7).bind fun t631 => (some t631)) else (some false)) else (some false)) else (some false)) else (some false)) else (some false)) else (some false)) else (some false)
theorem impl_SameConfig.mono : ∀ a0 a1 a2 a3 a4 a5 a6 a7 a8 a9 a10 a11 a12 a13 a14 a15 k,LeO (impl_SameConfig.f k a0 a1 a2 a3 a4 a5 a6 a7 a8 a9 a10 a11 a12 a13 a14 a15) (impl_SameConfig.f (k + 1) a0 a1 a2 a3 a4 a5 a6 a7 a8 a9 a10 a11 a12 a13 a14 a15) := by
 intro a0 a1 a2 a3 a4 a5 a6 a7 a8 a9 a10 a11 a12 a13 a14 a15 k
 unfold impl_SameConfig.f
 repeat' first
   | (with_reducible exact slices_Equal_int_int.mono _ _ _)
   | (with_reducible exact LeO.refl _)
   | (with_reducible exact LeO.none _)
   | (with_reducible refine LeO.ite ?_ ?_)
   | (with_reducible refine LeO.bind ?_ (fun _ => ?_))
   | exact slices_Equal_int_int.mono _ _ _
   | exact LeO.none _
   | refine LeO.ite ?_ ?_
   | refine LeO.bind ?_ (fun _ => ?_)
set_option maxHeartbeats 8000000 in
set_option maxRecDepth 100000 in
theorem impl_SameConfig.calls (k : Nat) (a0_0 : Int) (a0_1 : Int) (a0_2 : Int) (a0_3 : Int) (a0_4 : Int) (a0_5 : Int) (a0_6 : Int) (A0_7 : Option Addr) (c0_7 : Nat) (l0_7 : List Int) (a1_0 : Int) (a1_1 : Int) (a1_2 : Int) (a1_3 : Int) (a1_4 : Int) (a1_5 : Int) (a1_6 : Int) (A1_7 : Option Addr) (c1_7 : Nat) (l1_7 : List Int) (r : Bool) (w : World) (hr0_7 : Kd.C (Kd.int .i64) w A0_7 l0_7.length l0_7) (hc0_7 : l0_7.length ≤ c0_7) (hr1_7 : Kd.C (Kd.int .i64) w A1_7 l1_7.length l1_7) (hc1_7 : l1_7.length ≤ c1_7) (h : impl_SameConfig.f k a0_0 a0_1 a0_2 a0_3 a0_4 a0_5 a0_6 l0_7 a1_0 a1_1 a1_2 a1_3 a1_4 a1_5 a1_6 l1_7 = some r) :
  Calls Tryz.prog 13 #[.agg #[.int .i64 a0_0,.int .i64 a0_1,.int .i64 a0_2,.int .i64 a0_3,.int .i64 a0_4,.int .i64 a0_5,.int .i64 a0_6,.slice A0_7 l0_7.length c0_7],.agg #[.int .i64 a1_0,.int .i64 a1_1,.int .i64 a1_2,.int .i64 a1_3,.int .i64 a1_4,.int .i64 a1_5,.int .i64 a1_6,.slice A1_7 l1_7.length c1_7]] w fun e w' => e = .returned (.bool r) ∧ Below w.heap.size w w' := by
 have hu26 := Tryz.underlying26
 have HR0_7 := Aside0.mk hr0_7
 have HC0_7 := Aside0.mk hc0_7
 clear hr0_7 hc0_7
 have HR1_7 := Aside0.mk hr1_7
 have HC1_7 := Aside0.mk hc1_7
 clear hr1_7 hc1_7
 have HB := Aside0.mk (Below.refl w.heap.size w)
 have H := h
 clear h
 unfold impl_SameConfig.f at H
 go_enter Tryz.func13,Tryz.ntmps13
 try go_wp2_with (first | ((with_reducible refine gate_dst (N := 2) rfl ?_);refine bE 2 #[.int .i64 a0_0,.int .i64 a0_1,.int .i64 a0_2,.int .i64 a0_3,.int .i64 a0_4,.int .i64 a0_5,.int .i64 a0_6,.slice A0_7 l0_7.length c0_7] 26 (h := ?_);intro gb627 hg w11 hbox hb;have n_ := jA (below_step Z298 hb) (jA (hbox) (jA ((Z240 : w.heap.size ≤ gb627)) (Aside0.mk ((Z240 : w.heap.size ≤ gb627)))));clear HB;obtain ⟨HB,BK627,GW627,GE627⟩ := n_;clear hb hbox hg) | ((with_reducible refine gate_dst (N := 3) rfl ?_);refine bE 3 #[.int .i64 a1_0,.int .i64 a1_1,.int .i64 a1_2,.int .i64 a1_3,.int .i64 a1_4,.int .i64 a1_5,.int .i64 a1_6,.slice A1_7 l1_7.length c1_7] 26 (h := ?_);intro gb628 hg w12 hbox hb;have n_ := jA (blk_below (g := gb627) (o := .cells #[.int .i64 a0_0,.int .i64 a0_1,.int .i64 a0_2,.int .i64 a0_3,.int .i64 a0_4,.int .i64 a0_5,.int .i64 a0_6,.slice A0_7 l0_7.length c0_7] 26 (0,0)) Z280 hb) (jA (below_step Z244 hb) (jA (hbox) (jA ((Z97 : w.heap.size ≤ gb628)) (jA ((Z97 : w.heap.size ≤ gb628)) (jA ((Z81 : gb627 ≠ gb628)) (Aside0.mk ((Z82 : gb628 ≠ gb627))))))));clear BK627 HB;obtain ⟨BK627,HB,BK628,GW628,GE628,NB627_628,NB628_627⟩ := n_;clear hb hbox hg))
 have n_ := jA (blk_drew BK627.out) (jA (blk_drew BK628.out) (Aside0.mk (below_drew1 HB.out)))
 clear BK627 BK628 HB
 obtain ⟨BK627,BK628,HB⟩ := n_
 refine start_ (n := 6) (S := fun w' => w'.cell? ⟨gb627,0,none⟩ = some (.int .i64 a0_0) ∧ w'.cell? ⟨gb627,1,none⟩ = some (.int .i64 a0_1) ∧ w'.cell? ⟨gb627,2,none⟩ = some (.int .i64 a0_2) ∧ w'.cell? ⟨gb627,3,none⟩ = some (.int .i64 a0_3) ∧ w'.cell? ⟨gb627,4,none⟩ = some (.int .i64 a0_4) ∧ w'.cell? ⟨gb627,5,none⟩ = some (.int .i64 a0_5) ∧ w'.cell? ⟨gb627,6,none⟩ = some (.int .i64 a0_6) ∧ w'.cell? ⟨gb627,7,none⟩ = some (.slice A0_7 l0_7.length c0_7) ∧ w'.cell? ⟨gb628,0,none⟩ = some (.int .i64 a1_0) ∧ w'.cell? ⟨gb628,1,none⟩ = some (.int .i64 a1_1) ∧ w'.cell? ⟨gb628,2,none⟩ = some (.int .i64 a1_2) ∧ w'.cell? ⟨gb628,3,none⟩ = some (.int .i64 a1_3) ∧ w'.cell? ⟨gb628,4,none⟩ = some (.int .i64 a1_4) ∧ w'.cell? ⟨gb628,5,none⟩ = some (.int .i64 a1_5) ∧ w'.cell? ⟨gb628,6,none⟩ = some (.int .i64 a1_6) ∧ w'.cell? ⟨gb628,7,none⟩ = some (.slice A1_7 l1_7.length c1_7)) (ds := []) (qM 6 0) Z190 rfl (by kernel_rfl) ⟨bc BK627 0,bc BK627 1,bc BK627 2,bc BK627 3,bc BK627 4,bc BK627 5,bc BK627 6,bc BK627 7,bc BK628 0,bc BK628 1,bc BK628 2,bc BK628 3,bc BK628 4,bc BK628 5,bc BK628 6,bc BK628 7⟩ (fun hHeld => ?_)
 generalize w12.drew = w13 at BK627 BK628 HB hHeld ⊢
 refine sT16 0 7 6 1 hHeld (h := ?_)
 refine sT16 1 8 6 3 hHeld (h := ?_)
 refine join_ (σ := Nat × Nat) 2 (qM 6 15) (fun s_ => [(5,.pointer (some ⟨s_.1,0,none⟩)),(6,.pointer (some ⟨s_.2,0,none⟩))]) (fun s_ w' => (w'.cell? ⟨gb627,0,none⟩ = some (.int .i64 a0_0) ∧ w'.cell? ⟨gb627,1,none⟩ = some (.int .i64 a0_1) ∧ w'.cell? ⟨gb627,2,none⟩ = some (.int .i64 a0_2) ∧ w'.cell? ⟨gb627,3,none⟩ = some (.int .i64 a0_3) ∧ w'.cell? ⟨gb627,4,none⟩ = some (.int .i64 a0_4) ∧ w'.cell? ⟨gb627,5,none⟩ = some (.int .i64 a0_5) ∧ w'.cell? ⟨gb627,6,none⟩ = some (.int .i64 a0_6) ∧ w'.cell? ⟨gb627,7,none⟩ = some (.slice A0_7 l0_7.length c0_7) ∧ w'.cell? ⟨gb628,0,none⟩ = some (.int .i64 a1_0) ∧ w'.cell? ⟨gb628,1,none⟩ = some (.int .i64 a1_1) ∧ w'.cell? ⟨gb628,2,none⟩ = some (.int .i64 a1_2) ∧ w'.cell? ⟨gb628,3,none⟩ = some (.int .i64 a1_3) ∧ w'.cell? ⟨gb628,4,none⟩ = some (.int .i64 a1_4) ∧ w'.cell? ⟨gb628,5,none⟩ = some (.int .i64 a1_5) ∧ w'.cell? ⟨gb628,6,none⟩ = some (.int .i64 a1_6) ∧ w'.cell? ⟨gb628,7,none⟩ = some (.slice A1_7 l1_7.length c1_7)) ∧ (w'.heap[gb627]? = some (.cells #[.int .i64 a0_0,.int .i64 a0_1,.int .i64 a0_2,.int .i64 a0_3,.int .i64 a0_4,.int .i64 a0_5,.int .i64 a0_6,.slice A0_7 l0_7.length c0_7] 26 (0,0))) ∧ (w'.heap[gb628]? = some (.cells #[.int .i64 a1_0,.int .i64 a1_1,.int .i64 a1_2,.int .i64 a1_3,.int .i64 a1_4,.int .i64 a1_5,.int .i64 a1_6,.slice A1_7 l1_7.length c1_7] 26 (0,0))) ∧ (w'.heap[s_.1]? = some (.cells #[.int .i64 0,.int .i64 0,.int .i64 0,.int .i64 0,.int .i64 0,.int .i64 0,.int .i64 0,.slice none 0 0] 26 (0,0))) ∧ (w'.heap[s_.2]? = some (.cells #[.int .i64 0,.int .i64 0,.int .i64 0,.int .i64 0,.int .i64 0,.int .i64 0,.int .i64 0,.slice none 0 0] 26 (0,0))) ∧ (w.heap.size ≤ s_.1) ∧ (w.heap.size ≤ s_.1) ∧ (gb627 ≠ s_.1) ∧ (s_.1 ≠ gb627) ∧ (gb628 ≠ s_.1) ∧ (s_.1 ≠ gb628) ∧ (s_.2 ≠ s_.1) ∧ (s_.1 ≠ s_.2) ∧ (w.heap.size ≤ s_.2) ∧ (w.heap.size ≤ s_.2) ∧ (gb627 ≠ s_.2) ∧ (s_.2 ≠ gb627) ∧ (gb628 ≠ s_.2) ∧ (s_.2 ≠ gb628) ∧ (Below w.heap.size w w')) ?_ ?_
 rotate_left
 ·intro hCont
  refine two_ (i := 2) (j := 3) (Ni := some 5) (Nj := some 6) (qM 6 7) (qM 6 11) rfl rfl rfl rfl Z190 Z306 Z306 (fun K hK => ?_) (fun K hK => ?_)
  ·skip
   refine box_step ?hg (N := 5) ?hd (cs := #[.int .i64 0,.int .i64 0,.int .i64 0,.int .i64 0,.int .i64 0,.int .i64 0,.int .i64 0,.slice none 0 0]) (t := 26) ?hr ?_;(case hd => rfl);(case hg => rfl);(case hr => exact Z166)
   intro gb629 hg w14 hbox hb
   have n_ := jA (blk_below (g := gb627) (o := .cells #[.int .i64 a0_0,.int .i64 a0_1,.int .i64 a0_2,.int .i64 a0_3,.int .i64 a0_4,.int .i64 a0_5,.int .i64 a0_6,.slice A0_7 l0_7.length c0_7] 26 (0,0)) Z280 hb) (jA (blk_below (g := gb628) (o := .cells #[.int .i64 a1_0,.int .i64 a1_1,.int .i64 a1_2,.int .i64 a1_3,.int .i64 a1_4,.int .i64 a1_5,.int .i64 a1_6,.slice A1_7 l1_7.length c1_7] 26 (0,0)) Z281 hb) (jA (below_step Z231 hb) (jA (hbox) (jA ((Z87 : w.heap.size ≤ gb629)) (jA ((Z87 : w.heap.size ≤ gb629)) (jA ((Z81 : gb627 ≠ gb629)) (jA ((Z82 : gb629 ≠ gb627)) (jA ((Z83 : gb628 ≠ gb629)) (Aside0.mk ((Z84 : gb629 ≠ gb628)))))))))))
   clear BK627 BK628 HB
   obtain ⟨BK627,BK628,HB,BK629,GW629,GE629,NB627_629,NB629_627,NB628_629,NB629_628⟩ := n_
   clear hb hbox hg
   refine hK.out _ _ ⟨bc BK627 0,bc BK627 1,bc BK627 2,bc BK627 3,bc BK627 4,bc BK627 5,bc BK627 6,bc BK627 7,bc BK628 0,bc BK628 1,bc BK628 2,bc BK628 3,bc BK628 4,bc BK628 5,bc BK628 6,bc BK628 7⟩ (fun hHeld => ?_)
   clear hK K
   refine rN (h := ?_)
   refine sO 3 6 6 15 (h := fun K hK => ?_)
   refine box_step ?hg (N := 6) ?hd (cs := #[.int .i64 0,.int .i64 0,.int .i64 0,.int .i64 0,.int .i64 0,.int .i64 0,.int .i64 0,.slice none 0 0]) (t := 26) ?hr ?_;(case hd => rfl);(case hg => rfl);(case hr => exact Z166)
   intro gb630 hg w15 hbox hb
   have n_ := jA (blk_below (g := gb627) (o := .cells #[.int .i64 a0_0,.int .i64 a0_1,.int .i64 a0_2,.int .i64 a0_3,.int .i64 a0_4,.int .i64 a0_5,.int .i64 a0_6,.slice A0_7 l0_7.length c0_7] 26 (0,0)) Z280 hb) (jA (blk_below (g := gb628) (o := .cells #[.int .i64 a1_0,.int .i64 a1_1,.int .i64 a1_2,.int .i64 a1_3,.int .i64 a1_4,.int .i64 a1_5,.int .i64 a1_6,.slice A1_7 l1_7.length c1_7] 26 (0,0)) Z281 hb) (jA (blk_below (g := gb629) (o := .cells #[.int .i64 0,.int .i64 0,.int .i64 0,.int .i64 0,.int .i64 0,.int .i64 0,.int .i64 0,.slice none 0 0] 26 (0,0)) Z181 hb) (jA (below_step Z217 hb) (jA (hbox) (jA ((Z74 : w.heap.size ≤ gb630)) (jA ((Z74 : w.heap.size ≤ gb630)) (jA ((Z81 : gb627 ≠ gb630)) (jA ((Z82 : gb630 ≠ gb627)) (jA ((Z83 : gb628 ≠ gb630)) (jA ((Z84 : gb630 ≠ gb628)) (jA ((by rw [hg];exact Nat.ne_of_lt (blk_lt (g := gb629) (o := .cells #[.int .i64 0,.int .i64 0,.int .i64 0,.int .i64 0,.int .i64 0,.int .i64 0,.int .i64 0,.slice none 0 0] 26 (0,0)) Z181) : gb629 ≠ gb630)) (Aside0.mk ((by rw [hg];exact Nat.ne_of_gt (blk_lt (g := gb629) (o := .cells #[.int .i64 0,.int .i64 0,.int .i64 0,.int .i64 0,.int .i64 0,.int .i64 0,.int .i64 0,.slice none 0 0] 26 (0,0)) Z181) : gb630 ≠ gb629))))))))))))))
   clear BK627 BK628 BK629 HB
   obtain ⟨BK627,BK628,BK629,HB,BK630,GW630,GE630,NB627_630,NB630_627,NB628_630,NB630_628,NB629_630,NB630_629⟩ := n_
   clear hb hbox hg
   refine hK.out _ _ ⟨bc BK627 0,bc BK627 1,bc BK627 2,bc BK627 3,bc BK627 4,bc BK627 5,bc BK627 6,bc BK627 7,bc BK628 0,bc BK628 1,bc BK628 2,bc BK628 3,bc BK628 4,bc BK628 5,bc BK628 6,bc BK628 7⟩ (fun hHeld => ?_)
   clear hK K
   refine rN (h := ?_)
   exact norm_ Z153 (hCont (gb629,gb630) _ ⟨hHeld,Z280,Z281,Z181,Z180,GW629.out,GE629.out,NB627_629.out,NB629_627.out,NB628_629.out,NB629_628.out,NB630_629.out,NB629_630.out,GW630.out,GE630.out,NB627_630.out,NB630_627.out,NB628_630.out,NB630_628.out,Z70⟩)
  skip
  refine box_step ?hg (N := 6) ?hd (cs := #[.int .i64 0,.int .i64 0,.int .i64 0,.int .i64 0,.int .i64 0,.int .i64 0,.int .i64 0,.slice none 0 0]) (t := 26) ?hr ?_;(case hd => rfl);(case hg => rfl);(case hr => exact Z166)
  intro gb630 hg w14 hbox hb
  have n_ := jA (blk_below (g := gb627) (o := .cells #[.int .i64 a0_0,.int .i64 a0_1,.int .i64 a0_2,.int .i64 a0_3,.int .i64 a0_4,.int .i64 a0_5,.int .i64 a0_6,.slice A0_7 l0_7.length c0_7] 26 (0,0)) Z280 hb) (jA (blk_below (g := gb628) (o := .cells #[.int .i64 a1_0,.int .i64 a1_1,.int .i64 a1_2,.int .i64 a1_3,.int .i64 a1_4,.int .i64 a1_5,.int .i64 a1_6,.slice A1_7 l1_7.length c1_7] 26 (0,0)) Z281 hb) (jA (below_step Z231 hb) (jA (hbox) (jA ((Z87 : w.heap.size ≤ gb630)) (jA ((Z87 : w.heap.size ≤ gb630)) (jA ((Z81 : gb627 ≠ gb630)) (jA ((Z82 : gb630 ≠ gb627)) (jA ((Z83 : gb628 ≠ gb630)) (Aside0.mk ((Z84 : gb630 ≠ gb628)))))))))))
  clear BK627 BK628 HB
  obtain ⟨BK627,BK628,HB,BK630,GW630,GE630,NB627_630,NB630_627,NB628_630,NB630_628⟩ := n_
  clear hb hbox hg
  refine hK.out _ _ ⟨bc BK627 0,bc BK627 1,bc BK627 2,bc BK627 3,bc BK627 4,bc BK627 5,bc BK627 6,bc BK627 7,bc BK628 0,bc BK628 1,bc BK628 2,bc BK628 3,bc BK628 4,bc BK628 5,bc BK628 6,bc BK628 7⟩ (fun hHeld => ?_)
  clear hK K
  refine rN (h := ?_)
  refine sO 2 5 6 15 (h := fun K hK => ?_)
  refine box_step ?hg (N := 5) ?hd (cs := #[.int .i64 0,.int .i64 0,.int .i64 0,.int .i64 0,.int .i64 0,.int .i64 0,.int .i64 0,.slice none 0 0]) (t := 26) ?hr ?_;(case hd => rfl);(case hg => rfl);(case hr => exact Z166)
  intro gb629 hg w15 hbox hb
  have n_ := jA (blk_below (g := gb627) (o := .cells #[.int .i64 a0_0,.int .i64 a0_1,.int .i64 a0_2,.int .i64 a0_3,.int .i64 a0_4,.int .i64 a0_5,.int .i64 a0_6,.slice A0_7 l0_7.length c0_7] 26 (0,0)) Z280 hb) (jA (blk_below (g := gb628) (o := .cells #[.int .i64 a1_0,.int .i64 a1_1,.int .i64 a1_2,.int .i64 a1_3,.int .i64 a1_4,.int .i64 a1_5,.int .i64 a1_6,.slice A1_7 l1_7.length c1_7] 26 (0,0)) Z281 hb) (jA (blk_below (g := gb630) (o := .cells #[.int .i64 0,.int .i64 0,.int .i64 0,.int .i64 0,.int .i64 0,.int .i64 0,.int .i64 0,.slice none 0 0] 26 (0,0)) Z180 hb) (jA (below_step Z216 hb) (jA (hbox) (jA ((Z73 : w.heap.size ≤ gb629)) (jA ((Z73 : w.heap.size ≤ gb629)) (jA ((Z81 : gb627 ≠ gb629)) (jA ((Z82 : gb629 ≠ gb627)) (jA ((Z83 : gb628 ≠ gb629)) (jA ((Z84 : gb629 ≠ gb628)) (jA ((by rw [hg];exact Nat.ne_of_lt (blk_lt (g := gb630) (o := .cells #[.int .i64 0,.int .i64 0,.int .i64 0,.int .i64 0,.int .i64 0,.int .i64 0,.int .i64 0,.slice none 0 0] 26 (0,0)) Z180) : gb630 ≠ gb629)) (Aside0.mk ((by rw [hg];exact Nat.ne_of_gt (blk_lt (g := gb630) (o := .cells #[.int .i64 0,.int .i64 0,.int .i64 0,.int .i64 0,.int .i64 0,.int .i64 0,.int .i64 0,.slice none 0 0] 26 (0,0)) Z180) : gb629 ≠ gb630))))))))))))))
  clear BK627 BK628 BK630 HB
  obtain ⟨BK627,BK628,BK630,HB,BK629,GW629,GE629,NB627_629,NB629_627,NB628_629,NB629_628,NB630_629,NB629_630⟩ := n_
  clear hb hbox hg
  refine hK.out _ _ ⟨bc BK627 0,bc BK627 1,bc BK627 2,bc BK627 3,bc BK627 4,bc BK627 5,bc BK627 6,bc BK627 7,bc BK628 0,bc BK628 1,bc BK628 2,bc BK628 3,bc BK628 4,bc BK628 5,bc BK628 6,bc BK628 7⟩ (fun hHeld => ?_)
  clear hK K
  refine rN (h := ?_)
  exact norm_ Z153 (hCont (gb629,gb630) _ ⟨hHeld,Z280,Z281,Z181,Z180,GW629.out,GE629.out,NB627_629.out,NB629_627.out,NB628_629.out,NB629_628.out,NB630_629.out,NB629_630.out,GW630.out,GE630.out,NB627_630.out,NB630_627.out,NB628_630.out,NB630_628.out,(by repeat (first | (with_reducible first | exact HB.out | apply below_alloc | apply pw_below_drewN | apply below_drew1 | refine below_set ?_ GE627.out | refine below_set ?_ GE628.out | refine below_set ?_ GE630.out | refine below_set ?_ GE629.out) | exact HB.out))⟩)
 rintro ⟨gb629,gb630⟩ w16 ⟨hS_,h0_,h1_,h2_,h3_,h4_,h5_,h6_,h7_,h8_,h9_,h10_,h11_,h12_,h13_,h14_,h15_,h16_,h17_,h18_⟩
 have n0_ : Aside0 (w16.heap[gb627]? = some (.cells #[.int .i64 a0_0,.int .i64 a0_1,.int .i64 a0_2,.int .i64 a0_3,.int .i64 a0_4,.int .i64 a0_5,.int .i64 a0_6,.slice A0_7 l0_7.length c0_7] 26 (0,0))) := ⟨h0_⟩
 have n1_ : Aside0 (w16.heap[gb628]? = some (.cells #[.int .i64 a1_0,.int .i64 a1_1,.int .i64 a1_2,.int .i64 a1_3,.int .i64 a1_4,.int .i64 a1_5,.int .i64 a1_6,.slice A1_7 l1_7.length c1_7] 26 (0,0))) := ⟨h1_⟩
 have n2_ : Aside0 (w16.heap[gb629]? = some (.cells #[.int .i64 0,.int .i64 0,.int .i64 0,.int .i64 0,.int .i64 0,.int .i64 0,.int .i64 0,.slice none 0 0] 26 (0,0))) := ⟨h2_⟩
 have n3_ : Aside0 (w16.heap[gb630]? = some (.cells #[.int .i64 0,.int .i64 0,.int .i64 0,.int .i64 0,.int .i64 0,.int .i64 0,.int .i64 0,.slice none 0 0] 26 (0,0))) := ⟨h3_⟩
 have n4_ : Aside0 (w.heap.size ≤ gb629) := ⟨h4_⟩
 have n5_ : Aside0 (w.heap.size ≤ gb629) := ⟨h5_⟩
 have n6_ : Aside0 (gb627 ≠ gb629) := ⟨h6_⟩
 have n7_ : Aside0 (gb629 ≠ gb627) := ⟨h7_⟩
 have n8_ : Aside0 (gb628 ≠ gb629) := ⟨h8_⟩
 have n9_ : Aside0 (gb629 ≠ gb628) := ⟨h9_⟩
 have n10_ : Aside0 (gb630 ≠ gb629) := ⟨h10_⟩
 have n11_ : Aside0 (gb629 ≠ gb630) := ⟨h11_⟩
 have n12_ : Aside0 (w.heap.size ≤ gb630) := ⟨h12_⟩
 have n13_ : Aside0 (w.heap.size ≤ gb630) := ⟨h13_⟩
 have n14_ : Aside0 (gb627 ≠ gb630) := ⟨h14_⟩
 have n15_ : Aside0 (gb630 ≠ gb627) := ⟨h15_⟩
 have n16_ : Aside0 (gb628 ≠ gb630) := ⟨h16_⟩
 have n17_ : Aside0 (gb630 ≠ gb628) := ⟨h17_⟩
 have n18_ : Aside0 (Below w.heap.size w w16) := ⟨h18_⟩
 clear BK627
 clear BK628
 clear HB
 clear h0_ h1_ h2_ h3_ h4_ h5_ h6_ h7_ h8_ h9_ h10_ h11_ h12_ h13_ h14_ h15_ h16_ h17_ h18_
 have BK627 := n0_
 have BK628 := n1_
 have BK629 := n2_
 have BK630 := n3_
 have GW629 := n4_
 have GE629 := n5_
 have NB627_629 := n6_
 have NB629_627 := n7_
 have NB628_629 := n8_
 have NB629_628 := n9_
 have NB630_629 := n10_
 have NB629_630 := n11_
 have GW630 := n12_
 have GE630 := n13_
 have NB627_630 := n14_
 have NB630_627 := n15_
 have NB628_630 := n16_
 have NB630_628 := n17_
 have HB := n18_
 clear n0_ n1_ n2_ n3_ n4_ n5_ n6_ n7_ n8_ n9_ n10_ n11_ n12_ n13_ n14_ n15_ n16_ n17_ n18_
 have hHeld : w16.cell? ⟨gb627,0,none⟩ = some (.int .i64 a0_0) ∧ w16.cell? ⟨gb627,1,none⟩ = some (.int .i64 a0_1) ∧ w16.cell? ⟨gb627,2,none⟩ = some (.int .i64 a0_2) ∧ w16.cell? ⟨gb627,3,none⟩ = some (.int .i64 a0_3) ∧ w16.cell? ⟨gb627,4,none⟩ = some (.int .i64 a0_4) ∧ w16.cell? ⟨gb627,5,none⟩ = some (.int .i64 a0_5) ∧ w16.cell? ⟨gb627,6,none⟩ = some (.int .i64 a0_6) ∧ w16.cell? ⟨gb627,7,none⟩ = some (.slice A0_7 l0_7.length c0_7) ∧ w16.cell? ⟨gb628,0,none⟩ = some (.int .i64 a1_0) ∧ w16.cell? ⟨gb628,1,none⟩ = some (.int .i64 a1_1) ∧ w16.cell? ⟨gb628,2,none⟩ = some (.int .i64 a1_2) ∧ w16.cell? ⟨gb628,3,none⟩ = some (.int .i64 a1_3) ∧ w16.cell? ⟨gb628,4,none⟩ = some (.int .i64 a1_4) ∧ w16.cell? ⟨gb628,5,none⟩ = some (.int .i64 a1_5) ∧ w16.cell? ⟨gb628,6,none⟩ = some (.int .i64 a1_6) ∧ w16.cell? ⟨gb628,7,none⟩ = some (.slice A1_7 l1_7.length c1_7) := hS_
 refine norm_ (a' := ?_) ?_ ?_
 rotate_left
 ·simp only [putAll,Act.put,List.setIfInBounds_toArray,List.set_cons_zero,List.set_cons_succ]
  rfl
 refine one_ (i := 4) (N := none) (qM 6 31) rfl rfl Z190 Z306 (fun K hK => ?_)
 have hs17 : w16.cell? ⟨gb629,0,none⟩ = some (.int .i64 0) := bc BK629 0
 have hfs17 := blk_frozen BK629.out 0
 have hns17_0 := NB627_629.out
 have hns17_1 := NB628_629.out
 have hns17_3 := NB630_629.out
 have hms17_0 := NB629_627.out
 have hms17_1 := NB629_628.out
 have hms17_3 := NB629_630.out
 have hs18 : w16.cell? ⟨gb629,1,none⟩ = some (.int .i64 0) := bc BK629 1
 have hfs18 := blk_frozen BK629.out 1
 have hns18_0 := NB627_629.out
 have hns18_1 := NB628_629.out
 have hns18_3 := NB630_629.out
 have hms18_0 := NB629_627.out
 have hms18_1 := NB629_628.out
 have hms18_3 := NB629_630.out
 have hs19 : w16.cell? ⟨gb629,2,none⟩ = some (.int .i64 0) := bc BK629 2
 have hfs19 := blk_frozen BK629.out 2
 have hns19_0 := NB627_629.out
 have hns19_1 := NB628_629.out
 have hns19_3 := NB630_629.out
 have hms19_0 := NB629_627.out
 have hms19_1 := NB629_628.out
 have hms19_3 := NB629_630.out
 have hs20 : w16.cell? ⟨gb629,3,none⟩ = some (.int .i64 0) := bc BK629 3
 have hfs20 := blk_frozen BK629.out 3
 have hns20_0 := NB627_629.out
 have hns20_1 := NB628_629.out
 have hns20_3 := NB630_629.out
 have hms20_0 := NB629_627.out
 have hms20_1 := NB629_628.out
 have hms20_3 := NB629_630.out
 have hs21 : w16.cell? ⟨gb629,4,none⟩ = some (.int .i64 0) := bc BK629 4
 have hfs21 := blk_frozen BK629.out 4
 have hns21_0 := NB627_629.out
 have hns21_1 := NB628_629.out
 have hns21_3 := NB630_629.out
 have hms21_0 := NB629_627.out
 have hms21_1 := NB629_628.out
 have hms21_3 := NB629_630.out
 have hs22 : w16.cell? ⟨gb629,5,none⟩ = some (.int .i64 0) := bc BK629 5
 have hfs22 := blk_frozen BK629.out 5
 have hns22_0 := NB627_629.out
 have hns22_1 := NB628_629.out
 have hns22_3 := NB630_629.out
 have hms22_0 := NB629_627.out
 have hms22_1 := NB629_628.out
 have hms22_3 := NB629_630.out
 have hs23 : w16.cell? ⟨gb629,6,none⟩ = some (.int .i64 0) := bc BK629 6
 have hfs23 := blk_frozen BK629.out 6
 have hns23_0 := NB627_629.out
 have hns23_1 := NB628_629.out
 have hns23_3 := NB630_629.out
 have hms23_0 := NB629_627.out
 have hms23_1 := NB629_628.out
 have hms23_3 := NB629_630.out
 have hs24 : w16.cell? ⟨gb629,7,none⟩ = some (.slice none 0 0) := bc BK629 7
 have hfs24 := blk_frozen BK629.out 7
 have hns24_0 := NB627_629.out
 have hns24_1 := NB628_629.out
 have hns24_3 := NB630_629.out
 have hms24_0 := NB629_627.out
 have hms24_1 := NB629_628.out
 have hms24_3 := NB629_630.out
 with_reducible refine skip_ (w1 := ?_) ?_ ?_ ?_ ?_
 rotate_left
 ·rfl
 ·rfl
 ·go_simp
  rfl
 refine hK.out _ _ ⟨((cell_far (p := ⟨gb629,_,none⟩) NB627_629.out _).trans (((cell_far (p := ⟨gb629,_,none⟩) NB627_629.out _).trans (((cell_far (p := ⟨gb629,_,none⟩) NB627_629.out _).trans (((cell_far (p := ⟨gb629,_,none⟩) NB627_629.out _).trans (((cell_far (p := ⟨gb629,_,none⟩) NB627_629.out _).trans (((cell_far (p := ⟨gb629,_,none⟩) NB627_629.out _).trans (((cell_far (p := ⟨gb629,_,none⟩) NB627_629.out _).trans (((cell_far (p := ⟨gb629,_,none⟩) NB627_629.out _).trans (hHeld.1)))))))))))))))),((cell_far (p := ⟨gb629,_,none⟩) NB627_629.out _).trans (((cell_far (p := ⟨gb629,_,none⟩) NB627_629.out _).trans (((cell_far (p := ⟨gb629,_,none⟩) NB627_629.out _).trans (((cell_far (p := ⟨gb629,_,none⟩) NB627_629.out _).trans (((cell_far (p := ⟨gb629,_,none⟩) NB627_629.out _).trans (((cell_far (p := ⟨gb629,_,none⟩) NB627_629.out _).trans (((cell_far (p := ⟨gb629,_,none⟩) NB627_629.out _).trans (((cell_far (p := ⟨gb629,_,none⟩) NB627_629.out _).trans (hHeld.2.1)))))))))))))))),((cell_far (p := ⟨gb629,_,none⟩) NB627_629.out _).trans (((cell_far (p := ⟨gb629,_,none⟩) NB627_629.out _).trans (((cell_far (p := ⟨gb629,_,none⟩) NB627_629.out _).trans (((cell_far (p := ⟨gb629,_,none⟩) NB627_629.out _).trans (((cell_far (p := ⟨gb629,_,none⟩) NB627_629.out _).trans (((cell_far (p := ⟨gb629,_,none⟩) NB627_629.out _).trans (((cell_far (p := ⟨gb629,_,none⟩) NB627_629.out _).trans (((cell_far (p := ⟨gb629,_,none⟩) NB627_629.out _).trans (hHeld.2.2.1)))))))))))))))),((cell_far (p := ⟨gb629,_,none⟩) NB627_629.out _).trans (((cell_far (p := ⟨gb629,_,none⟩) NB627_629.out _).trans (((cell_far (p := ⟨gb629,_,none⟩) NB627_629.out _).trans (((cell_far (p := ⟨gb629,_,none⟩) NB627_629.out _).trans (((cell_far (p := ⟨gb629,_,none⟩) NB627_629.out _).trans (((cell_far (p := ⟨gb629,_,none⟩) NB627_629.out _).trans (((cell_far (p := ⟨gb629,_,none⟩) NB627_629.out _).trans (((cell_far (p := ⟨gb629,_,none⟩) NB627_629.out _).trans (hHeld.2.2.2.1)))))))))))))))),((cell_far (p := ⟨gb629,_,none⟩) NB627_629.out _).trans (((cell_far (p := ⟨gb629,_,none⟩) NB627_629.out _).trans (((cell_far (p := ⟨gb629,_,none⟩) NB627_629.out _).trans (((cell_far (p := ⟨gb629,_,none⟩) NB627_629.out _).trans (((cell_far (p := ⟨gb629,_,none⟩) NB627_629.out _).trans (((cell_far (p := ⟨gb629,_,none⟩) NB627_629.out _).trans (((cell_far (p := ⟨gb629,_,none⟩) NB627_629.out _).trans (((cell_far (p := ⟨gb629,_,none⟩) NB627_629.out _).trans (hHeld.2.2.2.2.1)))))))))))))))),((cell_far (p := ⟨gb629,_,none⟩) NB627_629.out _).trans (((cell_far (p := ⟨gb629,_,none⟩) NB627_629.out _).trans (((cell_far (p := ⟨gb629,_,none⟩) NB627_629.out _).trans (((cell_far (p := ⟨gb629,_,none⟩) NB627_629.out _).trans (((cell_far (p := ⟨gb629,_,none⟩) NB627_629.out _).trans (((cell_far (p := ⟨gb629,_,none⟩) NB627_629.out _).trans (((cell_far (p := ⟨gb629,_,none⟩) NB627_629.out _).trans (((cell_far (p := ⟨gb629,_,none⟩) NB627_629.out _).trans (hHeld.2.2.2.2.2.1)))))))))))))))),((cell_far (p := ⟨gb629,_,none⟩) NB627_629.out _).trans (((cell_far (p := ⟨gb629,_,none⟩) NB627_629.out _).trans (((cell_far (p := ⟨gb629,_,none⟩) NB627_629.out _).trans (((cell_far (p := ⟨gb629,_,none⟩) NB627_629.out _).trans (((cell_far (p := ⟨gb629,_,none⟩) NB627_629.out _).trans (((cell_far (p := ⟨gb629,_,none⟩) NB627_629.out _).trans (((cell_far (p := ⟨gb629,_,none⟩) NB627_629.out _).trans (((cell_far (p := ⟨gb629,_,none⟩) NB627_629.out _).trans (hHeld.2.2.2.2.2.2.1)))))))))))))))),((cell_far (p := ⟨gb629,_,none⟩) NB627_629.out _).trans (((cell_far (p := ⟨gb629,_,none⟩) NB627_629.out _).trans (((cell_far (p := ⟨gb629,_,none⟩) NB627_629.out _).trans (((cell_far (p := ⟨gb629,_,none⟩) NB627_629.out _).trans (((cell_far (p := ⟨gb629,_,none⟩) NB627_629.out _).trans (((cell_far (p := ⟨gb629,_,none⟩) NB627_629.out _).trans (((cell_far (p := ⟨gb629,_,none⟩) NB627_629.out _).trans (((cell_far (p := ⟨gb629,_,none⟩) NB627_629.out _).trans (hHeld.2.2.2.2.2.2.2.1)))))))))))))))),((cell_far (p := ⟨gb629,_,none⟩) NB628_629.out _).trans (((cell_far (p := ⟨gb629,_,none⟩) NB628_629.out _).trans (((cell_far (p := ⟨gb629,_,none⟩) NB628_629.out _).trans (((cell_far (p := ⟨gb629,_,none⟩) NB628_629.out _).trans (((cell_far (p := ⟨gb629,_,none⟩) NB628_629.out _).trans (((cell_far (p := ⟨gb629,_,none⟩) NB628_629.out _).trans (((cell_far (p := ⟨gb629,_,none⟩) NB628_629.out _).trans (((cell_far (p := ⟨gb629,_,none⟩) NB628_629.out _).trans (hHeld.2.2.2.2.2.2.2.2.1)))))))))))))))),((cell_far (p := ⟨gb629,_,none⟩) NB628_629.out _).trans (((cell_far (p := ⟨gb629,_,none⟩) NB628_629.out _).trans (((cell_far (p := ⟨gb629,_,none⟩) NB628_629.out _).trans (((cell_far (p := ⟨gb629,_,none⟩) NB628_629.out _).trans (((cell_far (p := ⟨gb629,_,none⟩) NB628_629.out _).trans (((cell_far (p := ⟨gb629,_,none⟩) NB628_629.out _).trans (((cell_far (p := ⟨gb629,_,none⟩) NB628_629.out _).trans (((cell_far (p := ⟨gb629,_,none⟩) NB628_629.out _).trans (hHeld.2.2.2.2.2.2.2.2.2.1)))))))))))))))),((cell_far (p := ⟨gb629,_,none⟩) NB628_629.out _).trans (((cell_far (p := ⟨gb629,_,none⟩) NB628_629.out _).trans (((cell_far (p := ⟨gb629,_,none⟩) NB628_629.out _).trans (((cell_far (p := ⟨gb629,_,none⟩) NB628_629.out _).trans (((cell_far (p := ⟨gb629,_,none⟩) NB628_629.out _).trans (((cell_far (p := ⟨gb629,_,none⟩) NB628_629.out _).trans (((cell_far (p := ⟨gb629,_,none⟩) NB628_629.out _).trans (((cell_far (p := ⟨gb629,_,none⟩) NB628_629.out _).trans (hHeld.2.2.2.2.2.2.2.2.2.2.1)))))))))))))))),((cell_far (p := ⟨gb629,_,none⟩) NB628_629.out _).trans (((cell_far (p := ⟨gb629,_,none⟩) NB628_629.out _).trans (((cell_far (p := ⟨gb629,_,none⟩) NB628_629.out _).trans (((cell_far (p := ⟨gb629,_,none⟩) NB628_629.out _).trans (((cell_far (p := ⟨gb629,_,none⟩) NB628_629.out _).trans (((cell_far (p := ⟨gb629,_,none⟩) NB628_629.out _).trans (((cell_far (p := ⟨gb629,_,none⟩) NB628_629.out _).trans (((cell_far (p := ⟨gb629,_,none⟩) NB628_629.out _).trans (hHeld.2.2.2.2.2.2.2.2.2.2.2.1)))))))))))))))),((cell_far (p := ⟨gb629,_,none⟩) NB628_629.out _).trans (((cell_far (p := ⟨gb629,_,none⟩) NB628_629.out _).trans (((cell_far (p := ⟨gb629,_,none⟩) NB628_629.out _).trans (((cell_far (p := ⟨gb629,_,none⟩) NB628_629.out _).trans (((cell_far (p := ⟨gb629,_,none⟩) NB628_629.out _).trans (((cell_far (p := ⟨gb629,_,none⟩) NB628_629.out _).trans (((cell_far (p := ⟨gb629,_,none⟩) NB628_629.out _).trans (((cell_far (p := ⟨gb629,_,none⟩) NB628_629.out _).trans (hHeld.2.2.2.2.2.2.2.2.2.2.2.2.1)))))))))))))))),((cell_far (p := ⟨gb629,_,none⟩) NB628_629.out _).trans (((cell_far (p := ⟨gb629,_,none⟩) NB628_629.out _).trans (((cell_far (p := ⟨gb629,_,none⟩) NB628_629.out _).trans (((cell_far (p := ⟨gb629,_,none⟩) NB628_629.out _).trans (((cell_far (p := ⟨gb629,_,none⟩) NB628_629.out _).trans (((cell_far (p := ⟨gb629,_,none⟩) NB628_629.out _).trans (((cell_far (p := ⟨gb629,_,none⟩) NB628_629.out _).trans (((cell_far (p := ⟨gb629,_,none⟩) NB628_629.out _).trans (hHeld.2.2.2.2.2.2.2.2.2.2.2.2.2.1)))))))))))))))),((cell_far (p := ⟨gb629,_,none⟩) NB628_629.out _).trans (((cell_far (p := ⟨gb629,_,none⟩) NB628_629.out _).trans (((cell_far (p := ⟨gb629,_,none⟩) NB628_629.out _).trans (((cell_far (p := ⟨gb629,_,none⟩) NB628_629.out _).trans (((cell_far (p := ⟨gb629,_,none⟩) NB628_629.out _).trans (((cell_far (p := ⟨gb629,_,none⟩) NB628_629.out _).trans (((cell_far (p := ⟨gb629,_,none⟩) NB628_629.out _).trans (((cell_far (p := ⟨gb629,_,none⟩) NB628_629.out _).trans (hHeld.2.2.2.2.2.2.2.2.2.2.2.2.2.2.1)))))))))))))))),((cell_far (p := ⟨gb629,_,none⟩) NB628_629.out _).trans (((cell_far (p := ⟨gb629,_,none⟩) NB628_629.out _).trans (((cell_far (p := ⟨gb629,_,none⟩) NB628_629.out _).trans (((cell_far (p := ⟨gb629,_,none⟩) NB628_629.out _).trans (((cell_far (p := ⟨gb629,_,none⟩) NB628_629.out _).trans (((cell_far (p := ⟨gb629,_,none⟩) NB628_629.out _).trans (((cell_far (p := ⟨gb629,_,none⟩) NB628_629.out _).trans (((cell_far (p := ⟨gb629,_,none⟩) NB628_629.out _).trans (hHeld.2.2.2.2.2.2.2.2.2.2.2.2.2.2.2))))))))))))))))⟩ (fun hHeld => ?_)
 clear hK K
 refine one_ (i := 5) (N := none) (qM 6 63) rfl rfl Z190 Z306 (fun K hK => ?_)
 have hs25 : w16.cell? ⟨gb630,0,none⟩ = some (.int .i64 0) := bc BK630 0
 have hfs25 := blk_frozen BK630.out 0
 have hns25_0 := NB627_630.out
 have hns25_1 := NB628_630.out
 have hns25_2 := NB629_630.out
 have hms25_0 := NB630_627.out
 have hms25_1 := NB630_628.out
 have hms25_2 := NB630_629.out
 have hs26 : w16.cell? ⟨gb630,1,none⟩ = some (.int .i64 0) := bc BK630 1
 have hfs26 := blk_frozen BK630.out 1
 have hns26_0 := NB627_630.out
 have hns26_1 := NB628_630.out
 have hns26_2 := NB629_630.out
 have hms26_0 := NB630_627.out
 have hms26_1 := NB630_628.out
 have hms26_2 := NB630_629.out
 have hs27 : w16.cell? ⟨gb630,2,none⟩ = some (.int .i64 0) := bc BK630 2
 have hfs27 := blk_frozen BK630.out 2
 have hns27_0 := NB627_630.out
 have hns27_1 := NB628_630.out
 have hns27_2 := NB629_630.out
 have hms27_0 := NB630_627.out
 have hms27_1 := NB630_628.out
 have hms27_2 := NB630_629.out
 have hs28 : w16.cell? ⟨gb630,3,none⟩ = some (.int .i64 0) := bc BK630 3
 have hfs28 := blk_frozen BK630.out 3
 have hns28_0 := NB627_630.out
 have hns28_1 := NB628_630.out
 have hns28_2 := NB629_630.out
 have hms28_0 := NB630_627.out
 have hms28_1 := NB630_628.out
 have hms28_2 := NB630_629.out
 have hs29 : w16.cell? ⟨gb630,4,none⟩ = some (.int .i64 0) := bc BK630 4
 have hfs29 := blk_frozen BK630.out 4
 have hns29_0 := NB627_630.out
 have hns29_1 := NB628_630.out
 have hns29_2 := NB629_630.out
 have hms29_0 := NB630_627.out
 have hms29_1 := NB630_628.out
 have hms29_2 := NB630_629.out
 have hs30 : w16.cell? ⟨gb630,5,none⟩ = some (.int .i64 0) := bc BK630 5
 have hfs30 := blk_frozen BK630.out 5
 have hns30_0 := NB627_630.out
 have hns30_1 := NB628_630.out
 have hns30_2 := NB629_630.out
 have hms30_0 := NB630_627.out
 have hms30_1 := NB630_628.out
 have hms30_2 := NB630_629.out
 have hs31 : w16.cell? ⟨gb630,6,none⟩ = some (.int .i64 0) := bc BK630 6
 have hfs31 := blk_frozen BK630.out 6
 have hns31_0 := NB627_630.out
 have hns31_1 := NB628_630.out
 have hns31_2 := NB629_630.out
 have hms31_0 := NB630_627.out
 have hms31_1 := NB630_628.out
 have hms31_2 := NB630_629.out
 have hs32 : w16.cell? ⟨gb630,7,none⟩ = some (.slice none 0 0) := bc BK630 7
 have hfs32 := blk_frozen BK630.out 7
 have hns32_0 := NB627_630.out
 have hns32_1 := NB628_630.out
 have hns32_2 := NB629_630.out
 have hms32_0 := NB630_627.out
 have hms32_1 := NB630_628.out
 have hms32_2 := NB630_629.out
 with_reducible refine skip_ (w1 := ?_) ?_ ?_ ?_ ?_
 rotate_left
 ·rfl
 ·rfl
 ·go_simp
  rfl
 refine hK.out _ _ ⟨((cell_far (p := ⟨gb630,_,none⟩) NB627_630.out _).trans (((cell_far (p := ⟨gb630,_,none⟩) NB627_630.out _).trans (((cell_far (p := ⟨gb630,_,none⟩) NB627_630.out _).trans (((cell_far (p := ⟨gb630,_,none⟩) NB627_630.out _).trans (((cell_far (p := ⟨gb630,_,none⟩) NB627_630.out _).trans (((cell_far (p := ⟨gb630,_,none⟩) NB627_630.out _).trans (((cell_far (p := ⟨gb630,_,none⟩) NB627_630.out _).trans (((cell_far (p := ⟨gb630,_,none⟩) NB627_630.out _).trans (hHeld.1)))))))))))))))),((cell_far (p := ⟨gb630,_,none⟩) NB627_630.out _).trans (((cell_far (p := ⟨gb630,_,none⟩) NB627_630.out _).trans (((cell_far (p := ⟨gb630,_,none⟩) NB627_630.out _).trans (((cell_far (p := ⟨gb630,_,none⟩) NB627_630.out _).trans (((cell_far (p := ⟨gb630,_,none⟩) NB627_630.out _).trans (((cell_far (p := ⟨gb630,_,none⟩) NB627_630.out _).trans (((cell_far (p := ⟨gb630,_,none⟩) NB627_630.out _).trans (((cell_far (p := ⟨gb630,_,none⟩) NB627_630.out _).trans (hHeld.2.1)))))))))))))))),((cell_far (p := ⟨gb630,_,none⟩) NB627_630.out _).trans (((cell_far (p := ⟨gb630,_,none⟩) NB627_630.out _).trans (((cell_far (p := ⟨gb630,_,none⟩) NB627_630.out _).trans (((cell_far (p := ⟨gb630,_,none⟩) NB627_630.out _).trans (((cell_far (p := ⟨gb630,_,none⟩) NB627_630.out _).trans (((cell_far (p := ⟨gb630,_,none⟩) NB627_630.out _).trans (((cell_far (p := ⟨gb630,_,none⟩) NB627_630.out _).trans (((cell_far (p := ⟨gb630,_,none⟩) NB627_630.out _).trans (hHeld.2.2.1)))))))))))))))),((cell_far (p := ⟨gb630,_,none⟩) NB627_630.out _).trans (((cell_far (p := ⟨gb630,_,none⟩) NB627_630.out _).trans (((cell_far (p := ⟨gb630,_,none⟩) NB627_630.out _).trans (((cell_far (p := ⟨gb630,_,none⟩) NB627_630.out _).trans (((cell_far (p := ⟨gb630,_,none⟩) NB627_630.out _).trans (((cell_far (p := ⟨gb630,_,none⟩) NB627_630.out _).trans (((cell_far (p := ⟨gb630,_,none⟩) NB627_630.out _).trans (((cell_far (p := ⟨gb630,_,none⟩) NB627_630.out _).trans (hHeld.2.2.2.1)))))))))))))))),((cell_far (p := ⟨gb630,_,none⟩) NB627_630.out _).trans (((cell_far (p := ⟨gb630,_,none⟩) NB627_630.out _).trans (((cell_far (p := ⟨gb630,_,none⟩) NB627_630.out _).trans (((cell_far (p := ⟨gb630,_,none⟩) NB627_630.out _).trans (((cell_far (p := ⟨gb630,_,none⟩) NB627_630.out _).trans (((cell_far (p := ⟨gb630,_,none⟩) NB627_630.out _).trans (((cell_far (p := ⟨gb630,_,none⟩) NB627_630.out _).trans (((cell_far (p := ⟨gb630,_,none⟩) NB627_630.out _).trans (hHeld.2.2.2.2.1)))))))))))))))),((cell_far (p := ⟨gb630,_,none⟩) NB627_630.out _).trans (((cell_far (p := ⟨gb630,_,none⟩) NB627_630.out _).trans (((cell_far (p := ⟨gb630,_,none⟩) NB627_630.out _).trans (((cell_far (p := ⟨gb630,_,none⟩) NB627_630.out _).trans (((cell_far (p := ⟨gb630,_,none⟩) NB627_630.out _).trans (((cell_far (p := ⟨gb630,_,none⟩) NB627_630.out _).trans (((cell_far (p := ⟨gb630,_,none⟩) NB627_630.out _).trans (((cell_far (p := ⟨gb630,_,none⟩) NB627_630.out _).trans (hHeld.2.2.2.2.2.1)))))))))))))))),((cell_far (p := ⟨gb630,_,none⟩) NB627_630.out _).trans (((cell_far (p := ⟨gb630,_,none⟩) NB627_630.out _).trans (((cell_far (p := ⟨gb630,_,none⟩) NB627_630.out _).trans (((cell_far (p := ⟨gb630,_,none⟩) NB627_630.out _).trans (((cell_far (p := ⟨gb630,_,none⟩) NB627_630.out _).trans (((cell_far (p := ⟨gb630,_,none⟩) NB627_630.out _).trans (((cell_far (p := ⟨gb630,_,none⟩) NB627_630.out _).trans (((cell_far (p := ⟨gb630,_,none⟩) NB627_630.out _).trans (hHeld.2.2.2.2.2.2.1)))))))))))))))),((cell_far (p := ⟨gb630,_,none⟩) NB627_630.out _).trans (((cell_far (p := ⟨gb630,_,none⟩) NB627_630.out _).trans (((cell_far (p := ⟨gb630,_,none⟩) NB627_630.out _).trans (((cell_far (p := ⟨gb630,_,none⟩) NB627_630.out _).trans (((cell_far (p := ⟨gb630,_,none⟩) NB627_630.out _).trans (((cell_far (p := ⟨gb630,_,none⟩) NB627_630.out _).trans (((cell_far (p := ⟨gb630,_,none⟩) NB627_630.out _).trans (((cell_far (p := ⟨gb630,_,none⟩) NB627_630.out _).trans (hHeld.2.2.2.2.2.2.2.1)))))))))))))))),((cell_far (p := ⟨gb630,_,none⟩) NB628_630.out _).trans (((cell_far (p := ⟨gb630,_,none⟩) NB628_630.out _).trans (((cell_far (p := ⟨gb630,_,none⟩) NB628_630.out _).trans (((cell_far (p := ⟨gb630,_,none⟩) NB628_630.out _).trans (((cell_far (p := ⟨gb630,_,none⟩) NB628_630.out _).trans (((cell_far (p := ⟨gb630,_,none⟩) NB628_630.out _).trans (((cell_far (p := ⟨gb630,_,none⟩) NB628_630.out _).trans (((cell_far (p := ⟨gb630,_,none⟩) NB628_630.out _).trans (hHeld.2.2.2.2.2.2.2.2.1)))))))))))))))),((cell_far (p := ⟨gb630,_,none⟩) NB628_630.out _).trans (((cell_far (p := ⟨gb630,_,none⟩) NB628_630.out _).trans (((cell_far (p := ⟨gb630,_,none⟩) NB628_630.out _).trans (((cell_far (p := ⟨gb630,_,none⟩) NB628_630.out _).trans (((cell_far (p := ⟨gb630,_,none⟩) NB628_630.out _).trans (((cell_far (p := ⟨gb630,_,none⟩) NB628_630.out _).trans (((cell_far (p := ⟨gb630,_,none⟩) NB628_630.out _).trans (((cell_far (p := ⟨gb630,_,none⟩) NB628_630.out _).trans (hHeld.2.2.2.2.2.2.2.2.2.1)))))))))))))))),((cell_far (p := ⟨gb630,_,none⟩) NB628_630.out _).trans (((cell_far (p := ⟨gb630,_,none⟩) NB628_630.out _).trans (((cell_far (p := ⟨gb630,_,none⟩) NB628_630.out _).trans (((cell_far (p := ⟨gb630,_,none⟩) NB628_630.out _).trans (((cell_far (p := ⟨gb630,_,none⟩) NB628_630.out _).trans (((cell_far (p := ⟨gb630,_,none⟩) NB628_630.out _).trans (((cell_far (p := ⟨gb630,_,none⟩) NB628_630.out _).trans (((cell_far (p := ⟨gb630,_,none⟩) NB628_630.out _).trans (hHeld.2.2.2.2.2.2.2.2.2.2.1)))))))))))))))),((cell_far (p := ⟨gb630,_,none⟩) NB628_630.out _).trans (((cell_far (p := ⟨gb630,_,none⟩) NB628_630.out _).trans (((cell_far (p := ⟨gb630,_,none⟩) NB628_630.out _).trans (((cell_far (p := ⟨gb630,_,none⟩) NB628_630.out _).trans (((cell_far (p := ⟨gb630,_,none⟩) NB628_630.out _).trans (((cell_far (p := ⟨gb630,_,none⟩) NB628_630.out _).trans (((cell_far (p := ⟨gb630,_,none⟩) NB628_630.out _).trans (((cell_far (p := ⟨gb630,_,none⟩) NB628_630.out _).trans (hHeld.2.2.2.2.2.2.2.2.2.2.2.1)))))))))))))))),((cell_far (p := ⟨gb630,_,none⟩) NB628_630.out _).trans (((cell_far (p := ⟨gb630,_,none⟩) NB628_630.out _).trans (((cell_far (p := ⟨gb630,_,none⟩) NB628_630.out _).trans (((cell_far (p := ⟨gb630,_,none⟩) NB628_630.out _).trans (((cell_far (p := ⟨gb630,_,none⟩) NB628_630.out _).trans (((cell_far (p := ⟨gb630,_,none⟩) NB628_630.out _).trans (((cell_far (p := ⟨gb630,_,none⟩) NB628_630.out _).trans (((cell_far (p := ⟨gb630,_,none⟩) NB628_630.out _).trans (hHeld.2.2.2.2.2.2.2.2.2.2.2.2.1)))))))))))))))),((cell_far (p := ⟨gb630,_,none⟩) NB628_630.out _).trans (((cell_far (p := ⟨gb630,_,none⟩) NB628_630.out _).trans (((cell_far (p := ⟨gb630,_,none⟩) NB628_630.out _).trans (((cell_far (p := ⟨gb630,_,none⟩) NB628_630.out _).trans (((cell_far (p := ⟨gb630,_,none⟩) NB628_630.out _).trans (((cell_far (p := ⟨gb630,_,none⟩) NB628_630.out _).trans (((cell_far (p := ⟨gb630,_,none⟩) NB628_630.out _).trans (((cell_far (p := ⟨gb630,_,none⟩) NB628_630.out _).trans (hHeld.2.2.2.2.2.2.2.2.2.2.2.2.2.1)))))))))))))))),((cell_far (p := ⟨gb630,_,none⟩) NB628_630.out _).trans (((cell_far (p := ⟨gb630,_,none⟩) NB628_630.out _).trans (((cell_far (p := ⟨gb630,_,none⟩) NB628_630.out _).trans (((cell_far (p := ⟨gb630,_,none⟩) NB628_630.out _).trans (((cell_far (p := ⟨gb630,_,none⟩) NB628_630.out _).trans (((cell_far (p := ⟨gb630,_,none⟩) NB628_630.out _).trans (((cell_far (p := ⟨gb630,_,none⟩) NB628_630.out _).trans (((cell_far (p := ⟨gb630,_,none⟩) NB628_630.out _).trans (hHeld.2.2.2.2.2.2.2.2.2.2.2.2.2.2.1)))))))))))))))),((cell_far (p := ⟨gb630,_,none⟩) NB628_630.out _).trans (((cell_far (p := ⟨gb630,_,none⟩) NB628_630.out _).trans (((cell_far (p := ⟨gb630,_,none⟩) NB628_630.out _).trans (((cell_far (p := ⟨gb630,_,none⟩) NB628_630.out _).trans (((cell_far (p := ⟨gb630,_,none⟩) NB628_630.out _).trans (((cell_far (p := ⟨gb630,_,none⟩) NB628_630.out _).trans (((cell_far (p := ⟨gb630,_,none⟩) NB628_630.out _).trans (((cell_far (p := ⟨gb630,_,none⟩) NB628_630.out _).trans (hHeld.2.2.2.2.2.2.2.2.2.2.2.2.2.2.2))))))))))))))))⟩ (fun hHeld => ?_)
 clear hK K
 refine done_ Z190 ?_
 have hnb33 := NB629_627.out
 have hnc33 := NB627_629.out
 have hnb34 := NB629_628.out
 have hnc34 := NB628_629.out
 have hnb35 := NB629_630.out
 have hnc35 := NB630_629.out
 obtain ⟨hcz36_0,hcz36_1,hcz36_2,hcz36_3,hcz36_4,hcz36_5,hcz36_6,hcz36_7,hfz36_0,hfz36_1,hfz36_2,hfz36_3,hfz36_4,hfz36_5,hfz36_6,hfz36_7⟩ := cells8 BK629.out
 have hnb37 := NB630_627.out
 have hnc37 := NB627_630.out
 have hnb38 := NB630_628.out
 have hnc38 := NB628_630.out
 obtain ⟨hcz39_0,hcz39_1,hcz39_2,hcz39_3,hcz39_4,hcz39_5,hcz39_6,hcz39_7,hfz39_0,hfz39_1,hfz39_2,hfz39_3,hfz39_4,hfz39_5,hfz39_6,hfz39_7⟩ := cells8 BK630.out
 by_cases c3 : a0_0 = a1_0
 rotate_left
 ·rw [if_neg c3] at H
  have c3b0 : (a0_0 == a1_0) = false := beq_eq_false_iff_ne.mpr c3
  have c3b1 : (a0_0 != a1_0) = true := bne_iff_ne.mpr c3
  obtain rfl := Option.some.inj H
  try go_wp2
  go_ret
  exact ⟨Z152,Z70⟩
 rw [if_pos c3] at H
 have c3b0 : (a0_0 == a1_0) = true := beq_iff_eq.mpr c3
 have c3b1 : (a0_0 != a1_0) = false := bne_eq_false_iff_eq.mpr c3
 clear c3
 by_cases c4 : a0_1 = a1_1
 rotate_left
 ·rw [if_neg c4] at H
  have c4b0 : (a0_1 == a1_1) = false := beq_eq_false_iff_ne.mpr c4
  have c4b1 : (a0_1 != a1_1) = true := bne_iff_ne.mpr c4
  obtain rfl := Option.some.inj H
  try go_wp2
  go_ret
  exact ⟨Z152,Z70⟩
 rw [if_pos c4] at H
 have c4b0 : (a0_1 == a1_1) = true := beq_iff_eq.mpr c4
 have c4b1 : (a0_1 != a1_1) = false := bne_eq_false_iff_eq.mpr c4
 clear c4
 by_cases c5 : a0_2 = a1_2
 rotate_left
 ·rw [if_neg c5] at H
  have c5b0 : (a0_2 == a1_2) = false := beq_eq_false_iff_ne.mpr c5
  have c5b1 : (a0_2 != a1_2) = true := bne_iff_ne.mpr c5
  obtain rfl := Option.some.inj H
  try go_wp2
  go_ret
  exact ⟨Z152,Z70⟩
 rw [if_pos c5] at H
 have c5b0 : (a0_2 == a1_2) = true := beq_iff_eq.mpr c5
 have c5b1 : (a0_2 != a1_2) = false := bne_eq_false_iff_eq.mpr c5
 clear c5
 by_cases c6 : a0_3 = a1_3
 rotate_left
 ·rw [if_neg c6] at H
  have c6b0 : (a0_3 == a1_3) = false := beq_eq_false_iff_ne.mpr c6
  have c6b1 : (a0_3 != a1_3) = true := bne_iff_ne.mpr c6
  obtain rfl := Option.some.inj H
  try go_wp2
  go_ret
  exact ⟨Z152,Z70⟩
 rw [if_pos c6] at H
 have c6b0 : (a0_3 == a1_3) = true := beq_iff_eq.mpr c6
 have c6b1 : (a0_3 != a1_3) = false := bne_eq_false_iff_eq.mpr c6
 clear c6
 by_cases c7 : a0_4 = a1_4
 rotate_left
 ·rw [if_neg c7] at H
  have c7b0 : (a0_4 == a1_4) = false := beq_eq_false_iff_ne.mpr c7
  have c7b1 : (a0_4 != a1_4) = true := bne_iff_ne.mpr c7
  obtain rfl := Option.some.inj H
  try go_wp2
  go_ret
  exact ⟨Z152,Z70⟩
 rw [if_pos c7] at H
 have c7b0 : (a0_4 == a1_4) = true := beq_iff_eq.mpr c7
 have c7b1 : (a0_4 != a1_4) = false := bne_eq_false_iff_eq.mpr c7
 clear c7
 by_cases c8 : a0_5 = a1_5
 rotate_left
 ·rw [if_neg c8] at H
  have c8b0 : (a0_5 == a1_5) = false := beq_eq_false_iff_ne.mpr c8
  have c8b1 : (a0_5 != a1_5) = true := bne_iff_ne.mpr c8
  obtain rfl := Option.some.inj H
  try go_wp2
  go_ret
  exact ⟨Z152,Z70⟩
 rw [if_pos c8] at H
 have c8b0 : (a0_5 == a1_5) = true := beq_iff_eq.mpr c8
 have c8b1 : (a0_5 != a1_5) = false := bne_eq_false_iff_eq.mpr c8
 clear c8
 by_cases c9 : a0_6 = a1_6
 rotate_left
 ·rw [if_neg c9] at H
  have c9b0 : (a0_6 == a1_6) = false := beq_eq_false_iff_ne.mpr c9
  have c9b1 : (a0_6 != a1_6) = true := bne_iff_ne.mpr c9
  obtain rfl := Option.some.inj H
  try go_wp2
  go_ret
  exact ⟨Z152,Z70⟩
 rw [if_pos c9] at H
 have c9b0 : (a0_6 == a1_6) = true := beq_iff_eq.mpr c9
 have c9b1 : (a0_6 != a1_6) = false := bne_eq_false_iff_eq.mpr c9
 clear c9
 obtain ⟨t631,A100,H⟩ := Option.bind_eq_some_iff.mp H
 have A10 := Aside0.mk A100
 clear A100
 obtain rfl := Option.some.inj H
 have hnb40 := NB627_628.out
 have hnc40 := NB628_627.out
 obtain ⟨hcz41_0,hcz41_1,hcz41_2,hcz41_3,hcz41_4,hcz41_5,hcz41_6,hcz41_7,hfz41_0,hfz41_1,hfz41_2,hfz41_3,hfz41_4,hfz41_5,hfz41_6,hfz41_7⟩ := cells8 BK627.out
 obtain ⟨hcz42_0,hcz42_1,hcz42_2,hcz42_3,hcz42_4,hcz42_5,hcz42_6,hcz42_7,hfz42_0,hfz42_1,hfz42_2,hfz42_3,hfz42_4,hfz42_5,hfz42_6,hfz42_7⟩ := cells8 BK628.out
 try go_wp2_with (first | (go_at_call 39;(with_reducible refine (slices_Equal_int_int.calls k _ _ l0_7 _ _ l1_7 t631 _ ?side1 ?side2 ?side3 ?side4 A10.out).mono ?_);(case side1 => exact Kd.C_below HR0_7.out Z70);(case side2 => exact Z186);(case side3 => exact Kd.C_below HR1_7.out Z70);(case side4 => exact HC1_7.out);rintro e w' ⟨rfl,⟨nd,rfl⟩⟩))
 go_ret
 exact ⟨Z152,Z70⟩

end Go.Proofs.YtepnbcdbagjmbaeGreatDoor.QFnConfig
