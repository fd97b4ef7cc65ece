/- The machine side of FnGrid: what each Go function that it reaches comes to. Conditions: none. -/
import Derived.Test.YtlflcgdcegohjabQFnGridx0
import Derived.Test.YtlflcgdcegohjabQFnGridx1
import Derived.Test.YtlflcgdcegohjabQFnGridx4
namespace Go.Proofs.Ytlflcgdcegohjab.QFnGrid
open Go.RowKit Go.Proofs.YtlflcgdcegohjabW.PrintWords Go.Proofs.YtlflcgdcegohjabW.PrintLast Go.Proofs.YtlflcgdcegohjabW.PrintMore
attribute [local go_sem] max2_int min2_int max_two min_two max_three min_three max_four min_four   -- for this text's walks alone
set_option linter.unusedVariables false
set_option linter.unusedSimpArgs false

theorem take_at_ {α : Type} {P : Program} {f : Nat} {A : Option Addr} {c : Nat} {v : Value} {w : World} {Q : Ending → World → Prop} {xs : List α} {j : Int} (h0 : 0 ≤ j) (hm : j ≤ (xs.length : Int)) (g : Calls P f #[.slice A (xs.take j.toNat).length c,v] w Q) : Calls P f #[.slice A j.toNat c,v] w Q := by
 have h : (xs.take j.toNat).length = j.toNat := by rw [List.length_take]; omega
 rwa [h] at g
/-! ### spec_DrawGridOf: function 5 -/
def spec_DrawGridOf.f (k : Nat) (l0 : List Int) : Option (List ByteArray × ByteArray × (List (List Int)) × List Int × Int) := (spec_l1New.f k l0).bind fun bt315 => ((spec_l9Bent.f k bt315.1 bt315.2.1 bt315.2.2).bind fun bt319 => ((spec_l1PickInt.f bt315.1 bt319.2.2.2.2.1 bt319.2.2.2.2.2 (([2,3,4,8,1,9] : List Int))).bind fun bt334 => (some (bt319.1,bt319.2.1,bt319.2.2.1,bt319.2.2.2.1,bt334.1))))
theorem spec_DrawGridOf.mono : ∀ a0 k,LeO (spec_DrawGridOf.f k a0) (spec_DrawGridOf.f (k + 1) a0) := by
 intro a0 k
 unfold spec_DrawGridOf.f
 repeat' first
   | (with_reducible exact spec_l1New.mono _ _)
   | (with_reducible exact spec_l9Bent.mono _ _ _ _)
   | (with_reducible exact LeO.refl _)
   | (with_reducible exact LeO.none _)
   | (with_reducible refine LeO.ite ?_ ?_)
   | (with_reducible refine LeO.bind ?_ (fun _ => ?_))
   | exact spec_l1New.mono _ _
   | exact spec_l9Bent.mono _ _ _ _
   | exact LeO.none _
   | refine LeO.ite ?_ ?_
   | refine LeO.bind ?_ (fun _ => ?_)
set_option maxHeartbeats 8000000 in
set_option maxRecDepth 100000 in
theorem spec_DrawGridOf.calls (k : Nat) (A0 : Option Addr) (c0 : Nat) (l0 : List Int) (r1 : List ByteArray) (r2 : ByteArray) (r3 : List (List Int)) (r4 : List Int) (r5 : Int) (w : World) (hr0 : Kd.C (Kd.int .u8) w A0 l0.length l0) (hc0 : l0.length ≤ c0) (h : spec_DrawGridOf.f k l0 = some (r1,r2,r3,r4,r5)) :
  Calls Try.prog 5 #[.slice A0 l0.length c0] w fun e w' => ∃ v0_ v2_ v3_ : Value,e = .returned (.tuple #[.agg #[v0_,.string r2,v2_,v3_],.int .i64 r5]) ∧ Kd.R Kd.string 9 w' w.heap.size (fun _ => True) v0_ r1 ∧ Kd.S (Kd.slice 3 (Kd.int .i64)) 26 w' w.heap.size (fun k_ => some k_ ≠ (v3_ : Value).ownBlock) v2_ r3 ∧ Kd.R (Kd.int .i64) 3 w' w.heap.size (fun _ => True) v3_ r4 ∧ Below w.heap.size w w' := by
 have hu28 := Try.underlying28
 have HR0 := Aside0.mk hr0
 have HC0 := Aside0.mk hc0
 clear hr0 hc0
 have HB := Aside0.mk (Below.refl w.heap.size w)
 have H := h
 clear h
 unfold spec_DrawGridOf.f at H
 obtain ⟨⟨t315,t316,t317⟩,A20,H⟩ := Option.bind_eq_some_iff.mp H
 try dsimp only at H
 have A2 := Aside0.mk A20
 clear A20
 obtain ⟨⟨t319,t322,t323,t326,t329,t330⟩,A30,H⟩ := Option.bind_eq_some_iff.mp H
 try dsimp only at H
 have A3 := Aside0.mk A30
 clear A30
 obtain ⟨y331,hyy⟩ : ∃ y_ : List Int,y_ = (([2,3,4,8,1,9] : List Int)) := ⟨_,rfl⟩
 replace H : ((spec_l1PickInt.f t315 t329 t330 y331).bind fun bt334 => (some (t319,t322,t323,t326,bt334.1))) = some (r1,r2,r3,r4,r5) := zR
 have Ny331 := Aside0.mk hyy
 clear hyy
 obtain ⟨⟨t334,t335,t336⟩,A40,H⟩ := Option.bind_eq_some_iff.mp H
 try dsimp only at H
 have A4 := Aside0.mk A40
 clear A40
 simp only [Option.some.injEq,Prod.mk.injEq] at H
 obtain ⟨rfl,rfl,rfl,rfl,rfl⟩ := H
 go_enter Try.func5,Try.ntmps5
 go_wp2_with (first | ((with_reducible refine gate_dst (N := 2) rfl ?_);refine bE 2 #[.slice none 0 0,.string (⟨#[]⟩ : ByteArray),.slice none 0 0,.slice none 0 0] 28 (h := ?_);intro gb314 hg wq1 hbox hb;have n_ := jA (below_step Z336 hb) (jA (hbox) (jA ((Z279 : w.heap.size ≤ gb314)) (Aside0.mk ((Z279 : w.heap.size ≤ gb314)))));clear HB;obtain ⟨HB,BK314,GW314,GE314⟩ := n_;clear hb hbox hg) | ((with_reducible refine gate_callee (f := 14) rfl ?_);refine goesL_ (some 6) rfl rfl Try.func14 Z256 rfl #[.slice A0 l0.length c0] rfl Z159 ?_;(with_reducible refine (spec_l1New.calls k _ _ l0 t315 t316 t317 w _ ?side1 ?side2 ?side3 A2.out).mono ?_);(case side1 => repeat (first | (with_reducible first | exact HB.out | apply below_alloc | apply pw_below_drewN | apply below_drew1 | refine below_set ?_ GE314.out) | exact HB.out));(case side2 => exact HR0.out);(case side3 => exact Z254);rintro e wq2 ⟨gq3,rfl,hi,hb,hbq4⟩;refine ⟨_,rfl,?_⟩;have n_ := jA (blk_below (g := gb314) (o := .cells #[.slice none 0 0,.string (⟨#[]⟩ : ByteArray),.slice none 0 0,.slice none 0 0] 28 (0,0)) Z248 hbq4) (jA (hb) (jA (hi) (jA (IsS53.ne_blk hi (blk_below (g := gb314) (o := .cells #[.slice none 0 0,.string (⟨#[]⟩ : ByteArray),.slice none 0 0,.slice none 0 0] 28 (0,0)) Z248 hbq4) Z330) (Aside0.mk (Ne.symm (IsS53.ne_blk hi (blk_below (g := gb314) (o := .cells #[.slice none 0 0,.string (⟨#[]⟩ : ByteArray),.slice none 0 0,.slice none 0 0] 28 (0,0)) Z248 hbq4) Z330))))));clear BK314 HB;obtain ⟨BK314,HB,HI318,NB318_314,NB314_318⟩ := n_;(try clear hb);(try clear hbq4);(try clear hk);(try clear hi)) | ((with_reducible refine gate_callee (f := 15) rfl ?_);refine goesL_ (some 8) rfl rfl Try.func15 Z256 rfl #[.pointer (some ⟨gq3,0,none⟩)] rfl Z159 ?_;(with_reducible refine (spec_l9Bent.calls k gq3 t315 t316 t317 t319 t322 t323 t326 t329 t330 w _ ?side1 ?side2 A3.out).mono ?_);(case side1 => exact Z77);(case side2 => exact Z83);rintro e wq5 ⟨vq6,vq7,vq8,rfl,hoq9,hoq10,hoq4,hi,hb,hk⟩;refine ⟨_,rfl,?_⟩;have n_ := jA (KeepBut.blk hk (g' := gb314) (o := .cells #[.slice none 0 0,.string (⟨#[]⟩ : ByteArray),.slice none 0 0,.slice none 0 0] 28 (0,0)) Z248 NB314_318.out Z332) (jA (Kd.R_lower hoq9 (below_size Z83)) (jA (Kd.S_lower hoq10 (below_size Z83)) (jA (Kd.R_lower hoq4 (below_size Z83)) (jA (hb) (Aside0.mk (hi))))));clear BK314 HB HI318;obtain ⟨BK314,HO321,HO325,HO328,HB,HI318⟩ := n_;(try clear hb);(try clear hbq4);(try clear hk);(try clear hi);(try clear hoq9);(try clear hoq10);(try clear hoq4)) | ((with_reducible refine gate_dst (N := 10) rfl ?_);refine Kd.R_lit (Kd.int .i64) _ 3 ?hg (N := 10) ?hd (xs := ([2,3,4,8,1,9] : List Int)) (inner := [.int .i64 2,.int .i64 3,.int .i64 4,.int .i64 8,.int .i64 1,.int .i64 9]) (ok := fun _ => True) (okp := fun _ => True) ?hr ?hp (fun _ hk => hk) trivial (Below.refl _ _) (Nat.le_refl _) Z332 ?_;(case hd => rfl);(case hg => rfl);(case hr => exact Z231);(case hp => exact (Reps.one (show Kd.M (Kd.int .i64) _ _ _ 2 [.int .i64 2] from rfl) (Reps.one (show Kd.M (Kd.int .i64) _ _ _ 3 [.int .i64 3] from rfl) (Reps.one (show Kd.M (Kd.int .i64) _ _ _ 4 [.int .i64 4] from rfl) (Reps.one (show Kd.M (Kd.int .i64) _ _ _ 8 [.int .i64 8] from rfl) (Reps.one (show Kd.M (Kd.int .i64) _ _ _ 1 [.int .i64 1] from rfl) (Reps.one (show Kd.M (Kd.int .i64) _ _ _ 9 [.int .i64 9] from rfl) (Reps.none _ _))))))));intro vq11 wq12 hoq13 hb hg_ hnew_;clear hg_ hnew_;(first | rw [← Ny331.out] at hoq13 | (simp only [Int.reduceToNat] at hoq13;rw [← Ny331.out] at hoq13));have n_ := jA (Kd.R_below Z205 hb) (jA (Kd.S_elder' Z198 (Kd.R_base hoq13) hb) (jA (Kd.R_elder' Z192 (Kd.R_base hoq13) hb) (jA (Kd.R_lower (Kd.R_new' hoq13 (Kd.R_lt Z192)) (below_size Z83)) (jA (blk_below (g := gb314) (o := .cells #[.slice none 0 0,.string (⟨#[]⟩ : ByteArray),.slice none 0 0,.slice none 0 0] 28 (0,0)) Z248 hb) (jA (IsS53.below Z77 hb) (Aside0.mk (below_step Z83 hb)))))));clear HO321 HO325 HO328 BK314 HI318 HB;obtain ⟨HO321,HO325,HO328,HO333,BK314,HI318,HB⟩ := n_;clear hb hoq13;obtain ⟨Aoq14,coq14,eoq14⟩ := Kd.R_slice HO333.out;subst eoq14) | ((with_reducible refine gate_callee (f := 16) rfl ?_);refine goesL_ (some 11) rfl rfl Try.func16 Z256 rfl #[.pointer (some ⟨gq3,0,none⟩),.slice Aoq14 y331.length coq14] rfl Z159 ?_;(with_reducible refine (spec_l1PickInt.calls gq3 t315 t329 t330 _ _ y331 t334 t335 t336 w _ ?side1 ?side2 ?side3 ?side4 ?side5 A4.out).mono ?_);(case side1 => exact Z77);(case side2 => exact Z83);(case side3 => repeat (first | exact (Kd.R_reads' HO333.out).2.2 | (with_reducible refine Kd.C_alloc ?_ _) | (with_reducible refine Kd.C_drewN ?_ _) | (with_reducible refine Kd.C_drew ?_)));(case side4 => exact (Kd.R_reads' HO333.out).2.1);(case side5 => exact far_slice (IsS53.own_ne HI318.out HO333.out Z330));rintro e wq15 ⟨rfl,hi,hb,hk⟩;refine ⟨_,rfl,?_⟩;have n_ := jA (KeepBut.blk hk (g' := gb314) (o := .cells #[.slice none 0 0,.string (⟨#[]⟩ : ByteArray),.slice none 0 0,.slice none 0 0] 28 (0,0)) Z248 NB314_318.out Z332) (jA (Kd.R_mono (Kd.R_keep (IsS53.apart (show IsS53 w _ gq3 t315 t329 t330 from Z77) Z205 Z330) hk (fun _ h => h.2)) (fun _ h => h.1)) (jA (Kd.S_mono (Kd.S_keep (IsS53.apartS (show IsS53 w _ gq3 t315 t329 t330 from Z77) Z198 Z330) hk (fun _ h => h.2)) (fun _ h => h.1)) (jA (Kd.R_mono (Kd.R_keep (IsS53.apart (show IsS53 w _ gq3 t315 t329 t330 from Z77) Z192 Z330) hk (fun _ h => h.2)) (fun _ h => h.1)) (jA (Kd.R_mono (Kd.R_keep (IsS53.apart (show IsS53 w _ gq3 t315 t329 t330 from Z77) (by (with_reducible repeat (first | apply Kd.R_alloc | apply Kd.R_drewN | apply Kd.R_drew));exact HO333.out) Z330) hk (fun _ h => h.2)) (fun _ h => h.1)) (jA (hb) (Aside0.mk (hi)))))));clear BK314 HO321 HO325 HO328 HO333 HB HI318;obtain ⟨BK314,HO321,HO325,HO328,HO333,HB,HI318⟩ := n_;(try clear hb);(try clear hbq4);(try clear hk);(try clear hi);obtain ⟨Aoq16,coq16,eoq16⟩ := Kd.R_slice HO321.out;subst eoq16;have hnbq17 := NB314_318.out;have hncq17 := NB318_314.out;obtain ⟨hczq18_0,hczq18_1,hczq18_2,hczq18_3,hfzq18_0,hfzq18_1,hfzq18_2,hfzq18_3⟩ := cells4 BK314.out;obtain ⟨Aoq19,coq19,eoq19⟩ := Kd.S_slice HO325.out;subst eoq19;obtain ⟨Aoq20,coq20,eoq20⟩ := Kd.R_slice HO328.out;subst eoq20))
 refine bodyPost_ret (results_ct rfl _ _ gb314 28 #[.slice Aoq16 t319.length coq16,.string t322,.slice Aoq19 t323.length coq19,.slice Aoq20 t326.length coq20] (0,0) _ rfl (by refine bP ?_;refine blk_put (cs := #[.slice Aoq16 t319.length coq16,.string t322,.slice Aoq19 t323.length coq19,.slice none 0 0]) ?_ 3 _ rfl;refine bP ?_;refine blk_put (cs := #[.slice Aoq16 t319.length coq16,.string t322,.slice none 0 0,.slice none 0 0]) ?_ 2 _ rfl;refine bP ?_;refine blk_put (cs := #[.slice Aoq16 t319.length coq16,.string (⟨#[]⟩ : ByteArray),.slice none 0 0,.slice none 0 0]) ?_ 1 _ rfl;refine bP ?_;refine blk_put (cs := #[.slice none 0 0,.string (⟨#[]⟩ : ByteArray),.slice none 0 0,.slice none 0 0]) ?_ 0 _ rfl;refine bP ?_;exact BK314.out) Try.underlying28 rfl Z256) rfl ?_
 exact ⟨_,_,_,Z212,by (with_reducible repeat (first | apply Kd.R_alloc | apply Kd.R_drewN | apply Kd.R_drew));exact Kd.R_mono (Kd.R_far (p := ⟨gb314,3,none⟩) (Kd.R_far (p := ⟨gb314,2,none⟩) (Kd.R_far (p := ⟨gb314,1,none⟩) (Kd.R_far (p := ⟨gb314,0,none⟩) (Kd.R_types HO321.out BK314.out Z330) (fun _ hk => hk.2) (.slice Aoq16 t319.length coq16)) (fun _ hk => hk.2) (.string t322)) (fun _ hk => hk.2) (.slice Aoq19 t323.length coq19)) (fun _ hk => hk.2) (.slice Aoq20 t326.length coq20)) (fun _ hk => trivial),by (with_reducible repeat (first | apply Kd.S_alloc | apply Kd.S_drewN | apply Kd.S_drew));exact Kd.S_mono (Kd.S_far (p := ⟨gb314,3,none⟩) (Kd.S_far (p := ⟨gb314,2,none⟩) (Kd.S_far (p := ⟨gb314,1,none⟩) (Kd.S_far (p := ⟨gb314,0,none⟩) (Kd.S_types HO325.out BK314.out Z330) (fun _ hk => hk.2) (.slice Aoq16 t319.length coq16)) (fun _ hk => hk.2) (.string t322)) (fun _ hk => hk.2) (.slice Aoq19 t323.length coq19)) (fun _ hk => hk.2) (.slice Aoq20 t326.length coq20)) (fun _ hk => hk.1.1),by (with_reducible repeat (first | apply Kd.R_alloc | apply Kd.R_drewN | apply Kd.R_drew));exact Kd.R_mono (Kd.R_far (p := ⟨gb314,3,none⟩) (Kd.R_far (p := ⟨gb314,2,none⟩) (Kd.R_far (p := ⟨gb314,1,none⟩) (Kd.R_far (p := ⟨gb314,0,none⟩) (Kd.R_types HO328.out BK314.out Z330) (fun _ hk => hk.2) (.slice Aoq16 t319.length coq16)) (fun _ hk => hk.2) (.string t322)) (fun _ hk => hk.2) (.slice Aoq19 t323.length coq19)) (fun _ hk => hk.2) (.slice Aoq20 t326.length coq20)) (fun _ hk => trivial),Z83⟩

/-! ### impl_NameOk: function 57 -/
def impl_NameOk.l0 : Nat → ByteArray → Int → Int → Option (Bool)
 | 0,_,_,_ => none
 | k + 1,x0,x6,x7 => if x7 < x6 then (if 0 ≤ x7 then (if x7 < (x0.size : Int) then (if (bt x0 x7) ≥ 97 then (if ((bt x0 x7) ≤ 122) then (impl_NameOk.l0 k x0 x6 (wrap64 (x7 + 1))) else (if x7 = 0 then (some false) else (if (bt x0 x7) < 48 then (some false) else (if (bt x0 x7) > 57 then (some false) else (impl_NameOk.l0 k x0 x6 (wrap64 (x7 + 1))))))) else (if x7 = 0 then (some false) else (if (bt x0 x7) < 48 then (some false) else (if (bt x0 x7) > 57 then (some false) else (impl_NameOk.l0 k x0 x6 (wrap64 (x7 + 1))))))) else (none)) else (none)) else ((impl_within.f (x0.size : Int) 1 12).bind fun t337 => (some t337))
def impl_NameOk.f (k : Nat) (a0 : ByteArray) : Option (Bool) := impl_NameOk.l0 k a0 (a0.size : Int) 0
theorem impl_NameOk.mono_l : ∀ k,(∀ y0 y1 y2,LeO (impl_NameOk.l0 k y0 y1 y2) (impl_NameOk.l0 (k + 1) y0 y1 y2))
 | 0 => fun _ _ _ r h => by simp [impl_NameOk.l0] at h
 | k + 1 => by
  have ih0 := impl_NameOk.mono_l k
  ·intro y0 y1 y2
   unfold impl_NameOk.l0
   repeat' first
   | (with_reducible exact ih0 _ _ _)
   | (with_reducible exact LeO.refl _)
   | (with_reducible exact LeO.none _)
   | (with_reducible refine LeO.ite ?_ ?_)
   | (with_reducible refine LeO.bind ?_ (fun _ => ?_))
   | exact ih0 _ _ _
   | exact LeO.none _
   | refine LeO.ite ?_ ?_
   | refine LeO.bind ?_ (fun _ => ?_)
theorem impl_NameOk.mono : ∀ a0 k,LeO (impl_NameOk.f k a0) (impl_NameOk.f (k + 1) a0) := by
 intro a0 k
 have ih0 := impl_NameOk.mono_l k
 unfold impl_NameOk.f
 repeat' first
   | (with_reducible exact ih0 _ _ _)
   | (with_reducible exact LeO.refl _)
   | (with_reducible exact LeO.none _)
   | (with_reducible refine LeO.ite ?_ ?_)
   | (with_reducible refine LeO.bind ?_ (fun _ => ?_))
   | exact ih0 _ _ _
   | exact LeO.none _
   | refine LeO.ite ?_ ?_
   | refine LeO.bind ?_ (fun _ => ?_)
set_option maxHeartbeats 8000000 in
set_option maxRecDepth 100000 in
theorem impl_NameOk.calls (k : Nat) (a0 : ByteArray) (r : Bool) (w : World) (h : impl_NameOk.f k a0 = some r) :
  Calls Try.prog 57 #[.string a0] w fun e w' => e = .returned (.bool r) ∧ Drawn0 w w' := by
 have H := h
 clear h
 unfold impl_NameOk.f at H
 have H' := Aside0.mk H
 clear H
 go_enter Try.func57,Try.ntmps57
 go_wp2
 go_loopg [7] k (fun kq v7 w' => ∃ (x7_1 : Int),v7 = .int .i64 x7_1 ∧ Aside0 (impl_NameOk.l0 kq a0 (a0.size : Int) x7_1 = some r) ∧ Aside0 (kq ≤ k) ∧ Drawn0 w w')
 case atStart => exact ⟨(0),Z230,H',⟨Nat.le_refl _⟩,Z224⟩
 case round =>
  clear H'
  obtain ⟨x7_1,rfl,HA,HK1,⟨m1,rfl⟩⟩ := hrel
  cases gk with
  | zero => exact absurd HA.out (by simp [impl_NameOk.l0])
  | succ k1 =>
   have H := HA.out
   clear HA
   simp only [impl_NameOk.l0] at H
   by_cases c2 : x7_1 < (a0.size : Int)
   rotate_left
   ·rw [if_neg c2] at H
    have c2b0 : decide (x7_1 < (a0.size : Int)) = false := decide_eq_false c2
    clear c2
    obtain ⟨t337,A190,H⟩ := Option.bind_eq_some_iff.mp H
    have A19 := Aside0.mk A190
    clear A190
    obtain rfl := Option.some.inj H
    go_wp2_with (first | ((with_reducible refine gate_callee (f := 18) rfl ?_);refine goesL_ (some 41) rfl rfl Try.func18 Z256 rfl #[.int .i64 (a0.size : Int),.int .i64 1,.int .i64 12] rfl Z159 ?_;(with_reducible refine (impl_within.calls (a0.size : Int) 1 12 t337 _ A19.out).mono ?_);rintro e w' ⟨rfl,⟨nd,rfl⟩⟩;refine ⟨_,rfl,?_⟩))
    go_ret
    exact ⟨Z230,Z224⟩
   rw [if_pos c2] at H
   have c2b0 : decide (x7_1 < (a0.size : Int)) = true := decide_eq_true c2
   clear c2
   obtain ⟨c3,H⟩ := ifp H
   have c3b0 : decide (0 ≤ x7_1) = true := decide_eq_true c3
   clear c3
   obtain ⟨c4,H⟩ := ifp H
   have c4b0 : decide (x7_1 < (a0.size : Int)) = true := decide_eq_true c4
   clear c4
   by_cases c6 : (bt a0 x7_1) ≥ 97
   rotate_left
   ·rw [if_neg c6] at H
    have c6b0 : decide (97 ≤ (bt a0 x7_1)) = false := decide_eq_false c6
    clear c6
    by_cases c14 : x7_1 = 0
    ·rw [if_pos c14] at H
     have c14b0 : (x7_1 == 0) = true := beq_iff_eq.mpr c14
     have c14b1 : (x7_1 != 0) = false := bne_eq_false_iff_eq.mpr c14
     clear c14
     obtain rfl := Option.some.inj H
     have p5 : 0 ≤ (x7_1 : Int) := of_decide_eq_true Z229
     have q5 : x7_1 < (a0.size : Int) := of_decide_eq_true Z229
     have hx5 := bt_at a0 x7_1
     replace p5 := eq_true p5
     replace q5 := eq_true q5
     go_wp2
     go_ret
     exact ⟨Z230,Z224⟩
    rw [if_neg c14] at H
    have c14b0 : (x7_1 == 0) = false := beq_eq_false_iff_ne.mpr c14
    have c14b1 : (x7_1 != 0) = true := bne_iff_ne.mpr c14
    by_cases c16 : (bt a0 x7_1) < 48
    ·rw [if_pos c16] at H
     have c16b0 : decide ((bt a0 x7_1) < 48) = true := decide_eq_true c16
     clear c16
     obtain rfl := Option.some.inj H
     have p5 : 0 ≤ (x7_1 : Int) := of_decide_eq_true Z229
     have q5 : x7_1 < (a0.size : Int) := of_decide_eq_true Z229
     have hx5 := bt_at a0 x7_1
     replace p5 := eq_true p5
     replace q5 := eq_true q5
     have p15 : 0 ≤ (x7_1 : Int) := of_decide_eq_true Z229
     have q15 : x7_1 < (a0.size : Int) := of_decide_eq_true Z229
     have hx15 := bt_at a0 x7_1
     replace p15 := eq_true p15
     replace q15 := eq_true q15
     go_wp2
     go_ret
     exact ⟨Z230,Z224⟩
    rw [if_neg c16] at H
    have c16b0 : decide ((bt a0 x7_1) < 48) = false := decide_eq_false c16
    clear c16
    by_cases c18 : (bt a0 x7_1) > 57
    ·rw [if_pos c18] at H
     have c18b0 : decide (57 < (bt a0 x7_1)) = true := decide_eq_true c18
     clear c18
     obtain rfl := Option.some.inj H
     have p5 : 0 ≤ (x7_1 : Int) := of_decide_eq_true Z229
     have q5 : x7_1 < (a0.size : Int) := of_decide_eq_true Z229
     have hx5 := bt_at a0 x7_1
     replace p5 := eq_true p5
     replace q5 := eq_true q5
     have p15 : 0 ≤ (x7_1 : Int) := of_decide_eq_true Z229
     have q15 : x7_1 < (a0.size : Int) := of_decide_eq_true Z229
     have hx15 := bt_at a0 x7_1
     replace p15 := eq_true p15
     replace q15 := eq_true q15
     have p17 : 0 ≤ (x7_1 : Int) := of_decide_eq_true Z229
     have q17 : x7_1 < (a0.size : Int) := of_decide_eq_true Z229
     have hx17 := bt_at a0 x7_1
     replace p17 := eq_true p17
     replace q17 := eq_true q17
     go_wp2
     go_ret
     exact ⟨Z230,Z224⟩
    rw [if_neg c18] at H
    have c18b0 : decide (57 < (bt a0 x7_1)) = false := decide_eq_false c18
    clear c18
    have H' := Aside0.mk H
    clear H
    have p5 : 0 ≤ (x7_1 : Int) := of_decide_eq_true Z229
    have q5 : x7_1 < (a0.size : Int) := of_decide_eq_true Z229
    have hx5 := bt_at a0 x7_1
    replace p5 := eq_true p5
    replace q5 := eq_true q5
    have p15 : 0 ≤ (x7_1 : Int) := of_decide_eq_true Z229
    have q15 : x7_1 < (a0.size : Int) := of_decide_eq_true Z229
    have hx15 := bt_at a0 x7_1
    replace p15 := eq_true p15
    replace q15 := eq_true q15
    have p17 : 0 ≤ (x7_1 : Int) := of_decide_eq_true Z229
    have q17 : x7_1 < (a0.size : Int) := of_decide_eq_true Z229
    have hx17 := bt_at a0 x7_1
    replace p17 := eq_true p17
    replace q17 := eq_true q17
    go_wp2
    go_roundg k1
    case measure => have := HK1.out;omega
    case rel => exact ⟨(wrap64 (x7_1 + 1)),Z230,H',⟨Z251⟩,Z224⟩
   rw [if_pos c6] at H
   have c6b0 : decide (97 ≤ (bt a0 x7_1)) = true := decide_eq_true c6
   clear c6
   by_cases c8 : ((bt a0 x7_1) ≤ 122)
   ·rw [if_pos c8] at H
    have c8b0 : decide ((bt a0 x7_1) ≤ 122) = true := decide_eq_true c8
    clear c8
    have H' := Aside0.mk H
    clear H
    have p5 : 0 ≤ (x7_1 : Int) := of_decide_eq_true Z229
    have q5 : x7_1 < (a0.size : Int) := of_decide_eq_true Z229
    have hx5 := bt_at a0 x7_1
    replace p5 := eq_true p5
    replace q5 := eq_true q5
    have p7 : 0 ≤ (x7_1 : Int) := of_decide_eq_true Z229
    have q7 : x7_1 < (a0.size : Int) := of_decide_eq_true Z229
    have hx7 := bt_at a0 x7_1
    replace p7 := eq_true p7
    replace q7 := eq_true q7
    go_wp2
    go_roundg k1
    case measure => have := HK1.out;omega
    case rel => exact ⟨(wrap64 (x7_1 + 1)),Z230,H',⟨Z251⟩,Z224⟩
   rw [if_neg c8] at H
   have c8b0 : decide ((bt a0 x7_1) ≤ 122) = false := decide_eq_false c8
   clear c8
   by_cases c9 : x7_1 = 0
   ·rw [if_pos c9] at H
    have c9b0 : (x7_1 == 0) = true := beq_iff_eq.mpr c9
    have c9b1 : (x7_1 != 0) = false := bne_eq_false_iff_eq.mpr c9
    clear c9
    obtain rfl := Option.some.inj H
    have p5 : 0 ≤ (x7_1 : Int) := of_decide_eq_true Z229
    have q5 : x7_1 < (a0.size : Int) := of_decide_eq_true Z229
    have hx5 := bt_at a0 x7_1
    replace p5 := eq_true p5
    replace q5 := eq_true q5
    have p7 : 0 ≤ (x7_1 : Int) := of_decide_eq_true Z229
    have q7 : x7_1 < (a0.size : Int) := of_decide_eq_true Z229
    have hx7 := bt_at a0 x7_1
    replace p7 := eq_true p7
    replace q7 := eq_true q7
    go_wp2
    go_ret
    exact ⟨Z230,Z224⟩
   rw [if_neg c9] at H
   have c9b0 : (x7_1 == 0) = false := beq_eq_false_iff_ne.mpr c9
   have c9b1 : (x7_1 != 0) = true := bne_iff_ne.mpr c9
   by_cases c11 : (bt a0 x7_1) < 48
   ·rw [if_pos c11] at H
    have c11b0 : decide ((bt a0 x7_1) < 48) = true := decide_eq_true c11
    clear c11
    obtain rfl := Option.some.inj H
    have p5 : 0 ≤ (x7_1 : Int) := of_decide_eq_true Z229
    have q5 : x7_1 < (a0.size : Int) := of_decide_eq_true Z229
    have hx5 := bt_at a0 x7_1
    replace p5 := eq_true p5
    replace q5 := eq_true q5
    have p7 : 0 ≤ (x7_1 : Int) := of_decide_eq_true Z229
    have q7 : x7_1 < (a0.size : Int) := of_decide_eq_true Z229
    have hx7 := bt_at a0 x7_1
    replace p7 := eq_true p7
    replace q7 := eq_true q7
    have p10 : 0 ≤ (x7_1 : Int) := of_decide_eq_true Z229
    have q10 : x7_1 < (a0.size : Int) := of_decide_eq_true Z229
    have hx10 := bt_at a0 x7_1
    replace p10 := eq_true p10
    replace q10 := eq_true q10
    go_wp2
    go_ret
    exact ⟨Z230,Z224⟩
   rw [if_neg c11] at H
   have c11b0 : decide ((bt a0 x7_1) < 48) = false := decide_eq_false c11
   clear c11
   by_cases c13 : (bt a0 x7_1) > 57
   ·rw [if_pos c13] at H
    have c13b0 : decide (57 < (bt a0 x7_1)) = true := decide_eq_true c13
    clear c13
    obtain rfl := Option.some.inj H
    have p5 : 0 ≤ (x7_1 : Int) := of_decide_eq_true Z229
    have q5 : x7_1 < (a0.size : Int) := of_decide_eq_true Z229
    have hx5 := bt_at a0 x7_1
    replace p5 := eq_true p5
    replace q5 := eq_true q5
    have p7 : 0 ≤ (x7_1 : Int) := of_decide_eq_true Z229
    have q7 : x7_1 < (a0.size : Int) := of_decide_eq_true Z229
    have hx7 := bt_at a0 x7_1
    replace p7 := eq_true p7
    replace q7 := eq_true q7
    have p10 : 0 ≤ (x7_1 : Int) := of_decide_eq_true Z229
    have q10 : x7_1 < (a0.size : Int) := of_decide_eq_true Z229
    have hx10 := bt_at a0 x7_1
    replace p10 := eq_true p10
    replace q10 := eq_true q10
    have p12 : 0 ≤ (x7_1 : Int) := of_decide_eq_true Z229
    have q12 : x7_1 < (a0.size : Int) := of_decide_eq_true Z229
    have hx12 := bt_at a0 x7_1
    replace p12 := eq_true p12
    replace q12 := eq_true q12
    go_wp2
    go_ret
    exact ⟨Z230,Z224⟩
   rw [if_neg c13] at H
   have c13b0 : decide (57 < (bt a0 x7_1)) = false := decide_eq_false c13
   clear c13
   have H' := Aside0.mk H
   clear H
   have p5 : 0 ≤ (x7_1 : Int) := of_decide_eq_true Z229
   have q5 : x7_1 < (a0.size : Int) := of_decide_eq_true Z229
   have hx5 := bt_at a0 x7_1
   replace p5 := eq_true p5
   replace q5 := eq_true q5
   have p7 : 0 ≤ (x7_1 : Int) := of_decide_eq_true Z229
   have q7 : x7_1 < (a0.size : Int) := of_decide_eq_true Z229
   have hx7 := bt_at a0 x7_1
   replace p7 := eq_true p7
   replace q7 := eq_true q7
   have p10 : 0 ≤ (x7_1 : Int) := of_decide_eq_true Z229
   have q10 : x7_1 < (a0.size : Int) := of_decide_eq_true Z229
   have hx10 := bt_at a0 x7_1
   replace p10 := eq_true p10
   replace q10 := eq_true q10
   have p12 : 0 ≤ (x7_1 : Int) := of_decide_eq_true Z229
   have q12 : x7_1 < (a0.size : Int) := of_decide_eq_true Z229
   have hx12 := bt_at a0 x7_1
   replace p12 := eq_true p12
   replace q12 := eq_true q12
   go_wp2
   go_roundg k1
   case measure => have := HK1.out;omega
   case rel => exact ⟨(wrap64 (x7_1 + 1)),Z230,H',⟨Z251⟩,Z224⟩

/-! ### slices_Index_string_string: function 64 -/
def slices_Index_string_string.l0 : Nat → List ByteArray → ByteArray → Int → Int → Option (Int)
 | 0,_,_,_,_ => none
 | k + 1,x0,x1,x7,x8 => if x8 < x7 then (if 0 ≤ x8 then (if x8 < (x0.length : Int) then (if x1.toList = (rdOf ByteArray.empty x0 x8).toList then (some x8) else (slices_Index_string_string.l0 k x0 x1 x7 (wrap64 (x8 + 1)))) else (none)) else (none)) else (some (-1))
def slices_Index_string_string.f (k : Nat) (l0 : List ByteArray) (a1 : ByteArray) : Option (Int) := slices_Index_string_string.l0 k l0 a1 (l0.length : Int) 0
theorem slices_Index_string_string.mono_l : ∀ k,(∀ y0 y1 y2 y3,LeO (slices_Index_string_string.l0 k y0 y1 y2 y3) (slices_Index_string_string.l0 (k + 1) y0 y1 y2 y3))
 | 0 => fun _ _ _ _ r h => by simp [slices_Index_string_string.l0] at h
 | k + 1 => by
  have ih0 := slices_Index_string_string.mono_l k
  ·intro y0 y1 y2 y3
   unfold slices_Index_string_string.l0
   repeat' first
   | (with_reducible exact ih0 _ _ _ _)
   | (with_reducible exact LeO.refl _)
   | (with_reducible exact LeO.none _)
   | (with_reducible refine LeO.ite ?_ ?_)
   | (with_reducible refine LeO.bind ?_ (fun _ => ?_))
   | exact ih0 _ _ _ _
   | exact LeO.none _
   | refine LeO.ite ?_ ?_
   | refine LeO.bind ?_ (fun _ => ?_)
theorem slices_Index_string_string.mono : ∀ a0 a1 k,LeO (slices_Index_string_string.f k a0 a1) (slices_Index_string_string.f (k + 1) a0 a1) := by
 intro a0 a1 k
 have ih0 := slices_Index_string_string.mono_l k
 unfold slices_Index_string_string.f
 repeat' first
   | (with_reducible exact ih0 _ _ _ _)
   | (with_reducible exact LeO.refl _)
   | (with_reducible exact LeO.none _)
   | (with_reducible refine LeO.ite ?_ ?_)
   | (with_reducible refine LeO.bind ?_ (fun _ => ?_))
   | exact ih0 _ _ _ _
   | exact LeO.none _
   | refine LeO.ite ?_ ?_
   | refine LeO.bind ?_ (fun _ => ?_)
set_option maxHeartbeats 8000000 in
set_option maxRecDepth 100000 in
theorem slices_Index_string_string.calls (k : Nat) (A0 : Option Addr) (c0 : Nat) (l0 : List ByteArray) (a1 : ByteArray) (r : Int) (w : World) (hr0 : Kd.C Kd.string w A0 l0.length l0) (hc0 : l0.length ≤ c0) (h : slices_Index_string_string.f k l0 a1 = some r) :
  Calls Try.prog 64 #[.slice A0 l0.length c0,.string a1] w fun e w' => e = .returned (.int .i64 r) ∧ Drawn0 w w' := by
 have HR0 := Aside0.mk hr0
 have HC0 := Aside0.mk hc0
 clear hr0 hc0
 have H := h
 clear h
 unfold slices_Index_string_string.f at H
 have H' := Aside0.mk H
 clear H
 go_enter Try.func64,Try.ntmps64
 go_wp2
 go_loopg [8] k (fun kq v8 w' => ∃ (x8_1 : Int),v8 = .int .i64 x8_1 ∧ Aside0 (slices_Index_string_string.l0 kq l0 a1 (l0.length : Int) x8_1 = some r) ∧ Aside0 (kq ≤ k) ∧ Drawn0 w w')
 case atStart => exact ⟨(0),Z230,H',⟨Nat.le_refl _⟩,Z224⟩
 case round =>
  clear H'
  try clear p2
  obtain ⟨x8_1,rfl,HA,HK1,⟨m1,rfl⟩⟩ := hrel
  cases gk with
  | zero => exact absurd HA.out (by simp [slices_Index_string_string.l0])
  | succ k1 =>
   have H := HA.out
   clear HA
   simp only [slices_Index_string_string.l0] at H
   by_cases c3 : x8_1 < (l0.length : Int)
   rotate_left
   ·rw [if_neg c3] at H
    have c3b0 : decide (x8_1 < (l0.length : Int)) = false := decide_eq_false c3
    clear c3
    obtain rfl := Option.some.inj H
    go_wp2
    go_ret
    exact ⟨Z230,Z224⟩
   rw [if_pos c3] at H
   have c3b0 : decide (x8_1 < (l0.length : Int)) = true := decide_eq_true c3
   clear c3
   obtain ⟨c4,H⟩ := ifp H
   have c4b0 : decide (0 ≤ x8_1) = true := decide_eq_true c4
   clear c4
   obtain ⟨c5,H⟩ := ifp H
   have c5b0 : decide (x8_1 < (l0.length : Int)) = true := decide_eq_true c5
   clear c5
   by_cases c6 : a1.toList = (rdOf ByteArray.empty l0 x8_1).toList
   ·rw [if_pos c6] at H
    have c6b0 : (a1.toList == (rdOf ByteArray.empty l0 x8_1).toList) = true := beq_iff_eq.mpr c6
    have c6b1 : (a1.toList != (rdOf ByteArray.empty l0 x8_1).toList) = false := bne_eq_false_iff_eq.mpr c6
    clear c6
    obtain rfl := Option.some.inj H
    have p338 : 0 ≤ (x8_1 : Int) := of_decide_eq_true Z229
    have q338 : x8_1 < (l0.length : Int) := of_decide_eq_true Z229
    obtain ⟨ad338,e338,hx338_0⟩ := Kd.at_string HR0.out x8_1 p338 q338
    cases e338
    replace p338 := eq_true p338
    replace q338 := eq_true q338
    go_wp2
    go_ret
    exact ⟨Z230,Z224⟩
   rw [if_neg c6] at H
   have c6b0 : (a1.toList == (rdOf ByteArray.empty l0 x8_1).toList) = false := beq_eq_false_iff_ne.mpr c6
   have c6b1 : (a1.toList != (rdOf ByteArray.empty l0 x8_1).toList) = true := bne_iff_ne.mpr c6
   have H' := Aside0.mk H
   clear H
   have p338 : 0 ≤ (x8_1 : Int) := of_decide_eq_true Z229
   have q338 : x8_1 < (l0.length : Int) := of_decide_eq_true Z229
   obtain ⟨ad338,e338,hx338_0⟩ := Kd.at_string HR0.out x8_1 p338 q338
   cases e338
   replace p338 := eq_true p338
   replace q338 := eq_true q338
   go_wp2
   go_roundg k1
   case measure => have := HK1.out;omega
   case rel => exact ⟨(wrap64 (x8_1 + 1)),Z230,H',⟨Z251⟩,Z224⟩

/-! ### slices_Contains_string_string: function 58 -/
def slices_Contains_string_string.f (k : Nat) (l0 : List ByteArray) (a1 : ByteArray) : Option (Bool) := (slices_Index_string_string.f k l0 a1).bind fun t339 => (some (decide (t339 ≥ 0)))
theorem slices_Contains_string_string.mono : ∀ a0 a1 k,LeO (slices_Contains_string_string.f k a0 a1) (slices_Contains_string_string.f (k + 1) a0 a1) := by
 intro a0 a1 k
 unfold slices_Contains_string_string.f
 repeat' first
   | (with_reducible exact slices_Index_string_string.mono _ _ _)
   | (with_reducible exact LeO.refl _)
   | (with_reducible exact LeO.none _)
   | (with_reducible refine LeO.ite ?_ ?_)
   | (with_reducible refine LeO.bind ?_ (fun _ => ?_))
   | exact slices_Index_string_string.mono _ _ _
   | exact LeO.none _
   | refine LeO.ite ?_ ?_
   | refine LeO.bind ?_ (fun _ => ?_)
set_option maxHeartbeats 8000000 in
set_option maxRecDepth 100000 in
theorem slices_Contains_string_string.calls (k : Nat) (A0 : Option Addr) (c0 : Nat) (l0 : List ByteArray) (a1 : ByteArray) (r : Bool) (w : World) (hr0 : Kd.C Kd.string w A0 l0.length l0) (hc0 : l0.length ≤ c0) (h : slices_Contains_string_string.f k l0 a1 = some r) :
  Calls Try.prog 58 #[.slice A0 l0.length c0,.string a1] w fun e w' => e = .returned (.bool r) ∧ Drawn0 w w' := by
 have HR0 := Aside0.mk hr0
 have HC0 := Aside0.mk hc0
 clear hr0 hc0
 have H := h
 clear h
 unfold slices_Contains_string_string.f at H
 obtain ⟨t339,A30,H⟩ := Option.bind_eq_some_iff.mp H
 have A3 := Aside0.mk A30
 clear A30
 obtain rfl := Option.some.inj H
 go_enter Try.func58,Try.ntmps58
 go_wp2_with (first | ((with_reducible refine gate_callee (f := 64) rfl ?_);refine goesL_ (some 7) rfl rfl Try.func64 Z256 rfl #[.slice A0 l0.length c0,.string a1] rfl Z159 ?_;(with_reducible refine (slices_Index_string_string.calls k _ _ l0 a1 t339 _ ?side1 ?side2 A3.out).mono ?_);(case side1 => exact Z141);(case side2 => exact Z254);rintro e w' ⟨rfl,⟨nd,rfl⟩⟩;refine ⟨_,rfl,?_⟩))
 go_ret
 exact ⟨Z230,Z224⟩

/-! ### impl_areNames: function 40 -/
def impl_areNames.l0 : Nat → List ByteArray → List ByteArray → Int → Int → Option (Bool)
 | 0,_,_,_,_ => none
 | k + 1,x0,x5,x6,x7 => if x7 < x6 then (if 0 ≤ x7 then (if x7 < (x5.length : Int) then ((impl_NameOk.f k (rdOf ByteArray.empty x5 x7)).bind fun t341 => (if t341 = true then (if x7 ≤ (x0.length : Int) then ((slices_Contains_string_string.f k (x0.take (x7 : Int).toNat) (rdOf ByteArray.empty x5 x7)).bind fun t343 => (if t343 = true then (some false) else (impl_areNames.l0 k x0 x5 x6 (wrap64 (x7 + 1))))) else (none)) else (some false))) else (none)) else (none)) else (some true)
def impl_areNames.f (k : Nat) (l0 : List ByteArray) : Option (Bool) := impl_areNames.l0 k l0 l0 (l0.length : Int) 0
theorem impl_areNames.mono_l : ∀ k,(∀ y0 y1 y2 y3,LeO (impl_areNames.l0 k y0 y1 y2 y3) (impl_areNames.l0 (k + 1) y0 y1 y2 y3))
 | 0 => fun _ _ _ _ r h => by simp [impl_areNames.l0] at h
 | k + 1 => by
  have ih0 := impl_areNames.mono_l k
  ·intro y0 y1 y2 y3
   unfold impl_areNames.l0
   repeat' first
   | (with_reducible exact ih0 _ _ _ _)
   | (with_reducible exact impl_NameOk.mono _ _)
   | (with_reducible exact slices_Contains_string_string.mono _ _ _)
   | (with_reducible exact LeO.refl _)
   | (with_reducible exact LeO.none _)
   | (with_reducible refine LeO.ite ?_ ?_)
   | (with_reducible refine LeO.bind ?_ (fun _ => ?_))
   | exact ih0 _ _ _ _
   | exact impl_NameOk.mono _ _
   | exact slices_Contains_string_string.mono _ _ _
   | exact LeO.none _
   | refine LeO.ite ?_ ?_
   | refine LeO.bind ?_ (fun _ => ?_)
theorem impl_areNames.mono : ∀ a0 k,LeO (impl_areNames.f k a0) (impl_areNames.f (k + 1) a0) := by
 intro a0 k
 have ih0 := impl_areNames.mono_l k
 unfold impl_areNames.f
 repeat' first
   | (with_reducible exact ih0 _ _ _ _)
   | (with_reducible exact impl_NameOk.mono _ _)
   | (with_reducible exact slices_Contains_string_string.mono _ _ _)
   | (with_reducible exact LeO.refl _)
   | (with_reducible exact LeO.none _)
   | (with_reducible refine LeO.ite ?_ ?_)
   | (with_reducible refine LeO.bind ?_ (fun _ => ?_))
   | exact ih0 _ _ _ _
   | exact impl_NameOk.mono _ _
   | exact slices_Contains_string_string.mono _ _ _
   | exact LeO.none _
   | refine LeO.ite ?_ ?_
   | refine LeO.bind ?_ (fun _ => ?_)
set_option maxHeartbeats 8000000 in
set_option maxRecDepth 100000 in
theorem impl_areNames.calls (k : Nat) (A0 : Option Addr) (c0 : Nat) (l0 : List ByteArray) (r : Bool) (w : World) (hr0 : Kd.C Kd.string w A0 l0.length l0) (hc0 : l0.length ≤ c0) (h : impl_areNames.f k l0 = some r) :
  Calls Try.prog 40 #[.slice A0 l0.length c0] w fun e w' => e = .returned (.bool r) ∧ Drawn0 w w' := by
 have HR0 := Aside0.mk hr0
 have HC0 := Aside0.mk hc0
 clear hr0 hc0
 have H := h
 clear h
 unfold impl_areNames.f at H
 have H' := Aside0.mk H
 clear H
 go_enter Try.func40,Try.ntmps40
 go_wp2
 go_loopg [7] k (fun kq v7 w' => ∃ (x7_1 : Int),v7 = .int .i64 x7_1 ∧ Aside0 (impl_areNames.l0 kq l0 l0 (l0.length : Int) x7_1 = some r) ∧ Aside0 (kq ≤ k) ∧ Drawn0 w w')
 case atStart => exact ⟨(0),Z230,H',⟨Nat.le_refl _⟩,Z224⟩
 case round =>
  clear H'
  obtain ⟨x7_1,rfl,HA,HK1,⟨m1,rfl⟩⟩ := hrel
  cases gk with
  | zero => exact absurd HA.out (by simp [impl_areNames.l0])
  | succ k1 =>
   have H := HA.out
   clear HA
   simp only [impl_areNames.l0] at H
   by_cases c2 : x7_1 < (l0.length : Int)
   rotate_left
   ·rw [if_neg c2] at H
    have c2b0 : decide (x7_1 < (l0.length : Int)) = false := decide_eq_false c2
    clear c2
    obtain rfl := Option.some.inj H
    go_wp2
    go_ret
    exact ⟨Z230,Z224⟩
   rw [if_pos c2] at H
   have c2b0 : decide (x7_1 < (l0.length : Int)) = true := decide_eq_true c2
   clear c2
   obtain ⟨c3,H⟩ := ifp H
   have c3b0 : decide (0 ≤ x7_1) = true := decide_eq_true c3
   clear c3
   obtain ⟨c4,H⟩ := ifp H
   have c4b0 : decide (x7_1 < (l0.length : Int)) = true := decide_eq_true c4
   clear c4
   obtain ⟨t341,A50,H⟩ := Option.bind_eq_some_iff.mp H
   have A5 := Aside0.mk A50
   clear A50
   by_cases c6 : t341 = true
   rotate_left
   ·replace c6 := Bool.eq_false_iff.mpr c6
    subst c6
    rw [if_neg Bool.false_ne_true] at H
    obtain rfl := Option.some.inj H
    have p340 : 0 ≤ (x7_1 : Int) := of_decide_eq_true Z229
    have q340 : x7_1 < (l0.length : Int) := of_decide_eq_true Z229
    obtain ⟨ad340,e340,hx340_0⟩ := Kd.at_string HR0.out x7_1 p340 q340
    cases e340
    replace p340 := eq_true p340
    replace q340 := eq_true q340
    go_wp2_with (first | ((with_reducible refine gate_callee (f := 57) rfl ?_);refine goesL_ (some 13) rfl rfl Try.func57 Z256 rfl #[.string (rdOf ByteArray.empty l0 x7_1)] rfl Z159 ?_;(with_reducible refine (impl_NameOk.calls k1 (rdOf ByteArray.empty l0 x7_1) false _ A5.out).mono ?_);rintro e w' ⟨rfl,⟨nd,rfl⟩⟩;refine ⟨_,rfl,?_⟩))
    go_ret
    exact ⟨Z230,Z224⟩
   subst c6
   rw [if_pos rfl] at H
   have c7b0 := eq_true (of_decide_eq_true Z229 : 0 ≤ x7_1)
   obtain ⟨c8,H⟩ := ifp H
   have c8b0 := eq_true c8
   have c8b1 : decide (x7_1 ≤ (l0.length : Int)) = true := decide_eq_true c8
   clear c8
   obtain ⟨t343,A90,H⟩ := Option.bind_eq_some_iff.mp H
   have A9 := Aside0.mk A90
   clear A90
   by_cases c10 : t343 = true
   ·subst c10
    rw [if_pos rfl] at H
    obtain rfl := Option.some.inj H
    have p340 : 0 ≤ (x7_1 : Int) := of_decide_eq_true Z229
    have q340 : x7_1 < (l0.length : Int) := of_decide_eq_true Z229
    obtain ⟨ad340,e340,hx340_0⟩ := Kd.at_string HR0.out x7_1 p340 q340
    cases e340
    replace p340 := eq_true p340
    replace q340 := eq_true q340
    go_wp2_with (first | ((with_reducible refine gate_callee (f := 57) rfl ?_);refine goesL_ (some 13) rfl rfl Try.func57 Z256 rfl #[.string (rdOf ByteArray.empty l0 x7_1)] rfl Z159 ?_;(with_reducible refine (impl_NameOk.calls k1 (rdOf ByteArray.empty l0 x7_1) true _ A5.out).mono ?_);rintro e w' ⟨rfl,⟨nd,rfl⟩⟩;refine ⟨_,rfl,?_⟩;obtain ⟨iq1,hiq1,_,hszq2,_⟩ := info_parts info9;obtain ⟨hcutq2,hAq2,hCq2⟩ := print_take_of (P := Try.prog) Value.string (⟨#[]⟩ : ByteArray) 24 9 .i64 Try.underlying24 hiq1 hszq2 (some ad340) c0 l0 x7_1 (of_decide_eq_true Z229) (of_decide_eq_true Z229) HC0.out;have HR342 := Aside0.mk (Kd.C_of_reads (h1 := fun _ => rfl) (hAq2 _ (Kd.reads_of_C HR0.out)));have HC342 := Aside0.mk hCq2;clear hAq2 hCq2 hiq1 hszq2) | (go_at_call 58;(with_reducible refine take_at_ (xs := l0) (j := x7_1) (of_decide_eq_true Z229) (of_decide_eq_true Z229) ((slices_Contains_string_string.calls k1 _ _ (l0.take (x7_1 : Int).toNat) (rdOf ByteArray.empty l0 x7_1) true _ ?side1 ?side2 A9.out).mono ?_));(case side1 => exact Z137);(case side2 => exact HC342.out);rintro e w' ⟨rfl,⟨nd,rfl⟩⟩))
    go_ret
    exact ⟨Z230,Z224⟩
   replace c10 := Bool.eq_false_iff.mpr c10
   subst c10
   rw [if_neg Bool.false_ne_true] at H
   have H' := Aside0.mk H
   clear H
   have p340 : 0 ≤ (x7_1 : Int) := of_decide_eq_true Z229
   have q340 : x7_1 < (l0.length : Int) := of_decide_eq_true Z229
   obtain ⟨ad340,e340,hx340_0⟩ := Kd.at_string HR0.out x7_1 p340 q340
   cases e340
   replace p340 := eq_true p340
   replace q340 := eq_true q340
   go_wp2_with (first | ((with_reducible refine gate_callee (f := 57) rfl ?_);refine goesL_ (some 13) rfl rfl Try.func57 Z256 rfl #[.string (rdOf ByteArray.empty l0 x7_1)] rfl Z159 ?_;(with_reducible refine (impl_NameOk.calls k1 (rdOf ByteArray.empty l0 x7_1) true _ A5.out).mono ?_);rintro e w' ⟨rfl,⟨nd,rfl⟩⟩;refine ⟨_,rfl,?_⟩;obtain ⟨i012,hi012,_,hsz12,_⟩ := info_parts info9;obtain ⟨hcut12,hA12,hC12⟩ := print_take_of (P := Try.prog) Value.string (⟨#[]⟩ : ByteArray) 24 9 .i64 Try.underlying24 hi012 hsz12 (some ad340) c0 l0 x7_1 (of_decide_eq_true Z229) (of_decide_eq_true Z229) HC0.out;have HR342 := Aside0.mk (Kd.C_of_reads (h1 := fun _ => rfl) (hA12 _ (Kd.reads_of_C HR0.out)));have HC342 := Aside0.mk hC12;clear hA12 hC12 hi012 hsz12) | (go_at_call 58;(with_reducible refine take_at_ (xs := l0) (j := x7_1) (of_decide_eq_true Z229) (of_decide_eq_true Z229) ((slices_Contains_string_string.calls k1 _ _ (l0.take (x7_1 : Int).toNat) (rdOf ByteArray.empty l0 x7_1) false _ ?side1 ?side2 A9.out).mono ?_));(case side1 => exact Z137);(case side2 => exact HC342.out);rintro e w' ⟨rfl,⟨nd,rfl⟩⟩))
   go_roundg k1
   case measure => have := HK1.out;omega
   case rel => exact ⟨(wrap64 (x7_1 + 1)),Z230,H',⟨Z251⟩,Z224⟩

/-! ### slices_Clone_string_string: function 41 -/
def slices_Clone_string_string.f (l0 : List ByteArray) : Option (List ByteArray) := if l0.length * 16 ≤ 140737488355328 then some l0 else none
theorem slices_Clone_string_string.calls (A0 : Option Addr) (c0 : Nat) (l0 : List ByteArray) (r : List ByteArray) (w : World) (hr0 : Kd.C Kd.string w A0 l0.length l0) (hc0 : l0.length ≤ c0) (h : slices_Clone_string_string.f l0 = some r) :
  Calls Try.prog 41 #[.slice A0 l0.length c0] w fun e w' => ∃ v0_ : Value,e = .returned (v0_) ∧ Kd.R Kd.string 9 w' w.heap.size (fun _ => True) v0_ r ∧ Below w.heap.size w w' := by
 unfold slices_Clone_string_string.f at h
 by_cases hb : l0.length * 16 ≤ 140737488355328
 rotate_left
 ·rw [if_neg hb] at h;cases h
 rw [if_pos hb] at h
 obtain rfl := Option.some.inj h
 rcases Nat.eq_zero_or_pos l0.length with h0 | h0
 ·obtain rfl := List.length_eq_zero_iff.mp h0
  cases A0 with
  | none => exact (Try.slices_Clone_string_nil _ _ w).mono fun e w' ⟨he,hw⟩ => ⟨_,he,Kd.R_nil _ _ _ _ _,hw ▸ Below.refl _ _⟩
  | some a => exact (Try.slices_Clone_string_zero a _ w).mono fun e w' ⟨v,he,ho,_,hb⟩ => ⟨v,he,Kd.R_of_own (enc := Value.string) ho (fun _ _ => trivial),hb⟩
 obtain ⟨_,_,hc'⟩ := hr0
 obtain ⟨⟨b,off,f⟩,rfl,hc⟩ := hc' h0
 clear hc'
 have hk : ∀ j,j < l0.length → w.cell? (if j = 0 then ⟨b,off,f⟩ else ⟨b,off + j,none⟩) = some (.string (l0.getD j ByteArray.empty)) := by
  intro j hj
  obtain ⟨c,_,hcr,hcell⟩ := hc j _ (List.getElem?_eq_getElem hj)
  have hcr : c = [Value.string l0[j]] := hcr
  have := hcell 0 (.string l0[j]) (by rw [hcr];rfl)
  simpa [Kd.string,Kd.scalar,Addr.add,List.getD,List.getElem?_eq_getElem hj] using this
 obtain rfl : f = none := by
  have := hk 0 h0
  cases f with
  | none => rfl
  | some _ =>
   simp only [if_true,World.cell?,Option.isSome_some] at this
   split at this <;> simp at this
 have hk : ∀ j,j < l0.length → w.cell? ⟨b,off + j,none⟩ = some (.string (l0.getD j ByteArray.empty)) := by
  intro j hj
  have := hk j hj
  by_cases e : j = 0
  rotate_left
  ·rwa [if_neg e] at this
  subst e;simpa using this
 exact (Try.slices_Clone_string b off _ _ l0 w (Nat.le_refl _) hb hk).mono fun e w' ⟨v,he,ho,_,hb⟩ => ⟨v,he,Kd.R_of_own (enc := Value.string) (by simpa [encs] using ho) (fun _ _ => trivial),hb⟩

/-! ### slices_IndexFunc_int_int_53: function 53 -/
def slices_IndexFunc_int_int_53.l0 : Nat → List Int → Int → Int → Option (Int)
 | 0,_,_,_ => none
 | k + 1,x0,x7,x8 => if x8 < x7 then (if 0 ≤ x8 then (if x8 < (x0.length : Int) then ((impl_areDecimals_1.f (rd x0 x8)).bind fun t345 => (if t345 = true then (some x8) else (slices_IndexFunc_int_int_53.l0 k x0 x7 (wrap64 (x8 + 1))))) else (none)) else (none)) else (some (-1))
def slices_IndexFunc_int_int_53.f (k : Nat) (l0 : List Int) (a1 : Unit) : Option (Int) := slices_IndexFunc_int_int_53.l0 k l0 (l0.length : Int) 0
theorem slices_IndexFunc_int_int_53.mono_l : ∀ k,(∀ y0 y1 y2,LeO (slices_IndexFunc_int_int_53.l0 k y0 y1 y2) (slices_IndexFunc_int_int_53.l0 (k + 1) y0 y1 y2))
 | 0 => fun _ _ _ r h => by simp [slices_IndexFunc_int_int_53.l0] at h
 | k + 1 => by
  have ih0 := slices_IndexFunc_int_int_53.mono_l k
  ·intro y0 y1 y2
   unfold slices_IndexFunc_int_int_53.l0
   repeat' first
   | (with_reducible exact ih0 _ _ _)
   | (with_reducible exact LeO.refl _)
   | (with_reducible exact LeO.none _)
   | (with_reducible refine LeO.ite ?_ ?_)
   | (with_reducible refine LeO.bind ?_ (fun _ => ?_))
   | exact ih0 _ _ _
   | exact LeO.none _
   | refine LeO.ite ?_ ?_
   | refine LeO.bind ?_ (fun _ => ?_)
theorem slices_IndexFunc_int_int_53.mono : ∀ a0 a1 k,LeO (slices_IndexFunc_int_int_53.f k a0 a1) (slices_IndexFunc_int_int_53.f (k + 1) a0 a1) := by
 intro a0 a1 k
 have ih0 := slices_IndexFunc_int_int_53.mono_l k
 unfold slices_IndexFunc_int_int_53.f
 repeat' first
   | (with_reducible exact ih0 _ _ _)
   | (with_reducible exact LeO.refl _)
   | (with_reducible exact LeO.none _)
   | (with_reducible refine LeO.ite ?_ ?_)
   | (with_reducible refine LeO.bind ?_ (fun _ => ?_))
   | exact ih0 _ _ _
   | exact LeO.none _
   | refine LeO.ite ?_ ?_
   | refine LeO.bind ?_ (fun _ => ?_)
set_option maxHeartbeats 8000000 in
set_option maxRecDepth 100000 in
theorem slices_IndexFunc_int_int_53.calls (k : Nat) (A0 : Option Addr) (c0 : Nat) (l0 : List Int) (a1 : Unit) (r : Int) (w : World) (hr0 : Kd.C (Kd.int .i64) w A0 l0.length l0) (hc0 : l0.length ≤ c0) (h : slices_IndexFunc_int_int_53.f k l0 a1 = some r) :
  Calls Try.prog 53 #[.slice A0 l0.length c0,.func (.func 59) #[] #[]] w fun e w' => e = .returned (.int .i64 r) ∧ Drawn0 w w' := by
 have HR0 := Aside0.mk hr0
 have HC0 := Aside0.mk hc0
 clear hr0 hc0
 have H : (slices_IndexFunc_int_int_53.l0 k l0 (l0.length : Int) 0) = some r := h
 clear h
 have H' := Aside0.mk H
 clear H
 go_enter Try.func53,Try.ntmps53
 go_wp2
 go_loopg [8] k (fun kq v8 w' => ∃ (x8_1 : Int),v8 = .int .i64 x8_1 ∧ Aside0 (slices_IndexFunc_int_int_53.l0 kq l0 (l0.length : Int) x8_1 = some r) ∧ Aside0 (kq ≤ k) ∧ Drawn0 w w')
 case atStart => exact ⟨(0),Z230,H',⟨Nat.le_refl _⟩,Z224⟩
 case round =>
  clear H'
  try clear p2
  obtain ⟨x8_1,rfl,HA,HK1,⟨m1,rfl⟩⟩ := hrel
  cases gk with
  | zero => exact absurd HA.out (by simp [slices_IndexFunc_int_int_53.l0])
  | succ k1 =>
   have H := HA.out
   clear HA
   simp only [slices_IndexFunc_int_int_53.l0] at H
   by_cases c3 : x8_1 < (l0.length : Int)
   rotate_left
   ·rw [if_neg c3] at H
    have c3b0 : decide (x8_1 < (l0.length : Int)) = false := decide_eq_false c3
    clear c3
    obtain rfl := Option.some.inj H
    go_wp2
    go_ret
    exact ⟨Z230,Z224⟩
   rw [if_pos c3] at H
   have c3b0 : decide (x8_1 < (l0.length : Int)) = true := decide_eq_true c3
   clear c3
   obtain ⟨c4,H⟩ := ifp H
   have c4b0 : decide (0 ≤ x8_1) = true := decide_eq_true c4
   clear c4
   obtain ⟨c5,H⟩ := ifp H
   have c5b0 : decide (x8_1 < (l0.length : Int)) = true := decide_eq_true c5
   clear c5
   obtain ⟨t345,A60,H⟩ := Option.bind_eq_some_iff.mp H
   have A6 := Aside0.mk A60
   clear A60
   by_cases c7 : t345 = true
   ·subst c7
    rw [if_pos rfl] at H
    obtain rfl := Option.some.inj H
    have p344 : 0 ≤ (x8_1 : Int) := of_decide_eq_true Z229
    have q344 : x8_1 < (l0.length : Int) := of_decide_eq_true Z229
    obtain ⟨ad344,e344,hx344_0⟩ := Kd.at_int HR0.out x8_1 p344 q344
    cases e344
    replace p344 := eq_true p344
    replace q344 := eq_true q344
    go_wp2_with (first | (go_at_call 59;(with_reducible refine (impl_areDecimals_1.calls (rd l0 x8_1) true _ A6.out).mono ?_);rintro e w' ⟨rfl,⟨nd,rfl⟩⟩))
    go_ret
    exact ⟨Z230,Z224⟩
   replace c7 := Bool.eq_false_iff.mpr c7
   subst c7
   rw [if_neg Bool.false_ne_true] at H
   have H' := Aside0.mk H
   clear H
   have p344 : 0 ≤ (x8_1 : Int) := of_decide_eq_true Z229
   have q344 : x8_1 < (l0.length : Int) := of_decide_eq_true Z229
   obtain ⟨ad344,e344,hx344_0⟩ := Kd.at_int HR0.out x8_1 p344 q344
   cases e344
   replace p344 := eq_true p344
   replace q344 := eq_true q344
   go_wp2_with (first | (go_at_call 59;(with_reducible refine (impl_areDecimals_1.calls (rd l0 x8_1) false _ A6.out).mono ?_);rintro e w' ⟨rfl,⟨nd,rfl⟩⟩))
   go_roundg k1
   case measure => have := HK1.out;omega
   case rel => exact ⟨(wrap64 (x8_1 + 1)),Z230,H',⟨Z251⟩,Z224⟩

/-! ### slices_ContainsFunc_int_int_32: function 32 -/
def slices_ContainsFunc_int_int_32.f (k : Nat) (l0 : List Int) (a1 : Unit) : Option (Bool) := (slices_IndexFunc_int_int_53.f k l0 a1).bind fun t346 => (some (decide (t346 ≥ 0)))
theorem slices_ContainsFunc_int_int_32.mono : ∀ a0 a1 k,LeO (slices_ContainsFunc_int_int_32.f k a0 a1) (slices_ContainsFunc_int_int_32.f (k + 1) a0 a1) := by
 intro a0 a1 k
 unfold slices_ContainsFunc_int_int_32.f
 repeat' first
   | (with_reducible exact slices_IndexFunc_int_int_53.mono _ _ _)
   | (with_reducible exact LeO.refl _)
   | (with_reducible exact LeO.none _)
   | (with_reducible refine LeO.ite ?_ ?_)
   | (with_reducible refine LeO.bind ?_ (fun _ => ?_))
   | exact slices_IndexFunc_int_int_53.mono _ _ _
   | exact LeO.none _
   | refine LeO.ite ?_ ?_
   | refine LeO.bind ?_ (fun _ => ?_)
set_option maxHeartbeats 8000000 in
set_option maxRecDepth 100000 in
theorem slices_ContainsFunc_int_int_32.calls (k : Nat) (A0 : Option Addr) (c0 : Nat) (l0 : List Int) (a1 : Unit) (r : Bool) (w : World) (hr0 : Kd.C (Kd.int .i64) w A0 l0.length l0) (hc0 : l0.length ≤ c0) (h : slices_ContainsFunc_int_int_32.f k l0 a1 = some r) :
  Calls Try.prog 32 #[.slice A0 l0.length c0,.func (.func 59) #[] #[]] w fun e w' => e = .returned (.bool r) ∧ Drawn0 w w' := by
 have HR0 := Aside0.mk hr0
 have HC0 := Aside0.mk hc0
 clear hr0 hc0
 have H := h
 clear h
 unfold slices_ContainsFunc_int_int_32.f at H
 obtain ⟨t346,A30,H⟩ := Option.bind_eq_some_iff.mp H
 have A3 := Aside0.mk A30
 clear A30
 obtain rfl := Option.some.inj H
 go_enter Try.func32,Try.ntmps32
 go_wp2_with (first | ((with_reducible refine gate_callee (f := 53) rfl ?_);refine goesL_ (some 7) rfl rfl Try.func53 Z256 rfl #[.slice A0 l0.length c0,.func (.func 59) #[] #[]] rfl Z159 ?_;(with_reducible refine (slices_IndexFunc_int_int_53.calls k _ _ l0 a1 t346 _ ?side1 ?side2 A3.out).mono ?_);(case side1 => exact Z141);(case side2 => exact Z254);rintro e w' ⟨rfl,⟨nd,rfl⟩⟩;refine ⟨_,rfl,?_⟩))
 go_ret
 exact ⟨Z230,Z224⟩

/-! ### impl_areDecimals: function 42 -/
def impl_areDecimals.f (k : Nat) (l0 : List Int) : Option (Bool) := (slices_ContainsFunc_int_int_32.f k l0 ()).bind fun t347 => (some (!t347))
theorem impl_areDecimals.mono : ∀ a0 k,LeO (impl_areDecimals.f k a0) (impl_areDecimals.f (k + 1) a0) := by
 intro a0 k
 unfold impl_areDecimals.f
 repeat' first
   | (with_reducible exact slices_ContainsFunc_int_int_32.mono _ _ _)
   | (with_reducible exact LeO.refl _)
   | (with_reducible exact LeO.none _)
   | (with_reducible refine LeO.ite ?_ ?_)
   | (with_reducible refine LeO.bind ?_ (fun _ => ?_))
   | exact slices_ContainsFunc_int_int_32.mono _ _ _
   | exact LeO.none _
   | refine LeO.ite ?_ ?_
   | refine LeO.bind ?_ (fun _ => ?_)
set_option maxHeartbeats 8000000 in
set_option maxRecDepth 100000 in
theorem impl_areDecimals.calls (k : Nat) (A0 : Option Addr) (c0 : Nat) (l0 : List Int) (r : Bool) (w : World) (hr0 : Kd.C (Kd.int .i64) w A0 l0.length l0) (hc0 : l0.length ≤ c0) (h : impl_areDecimals.f k l0 = some r) :
  Calls Try.prog 42 #[.slice A0 l0.length c0] w fun e w' => e = .returned (.bool r) ∧ Drawn0 w w' := by
 have HR0 := Aside0.mk hr0
 have HC0 := Aside0.mk hc0
 clear hr0 hc0
 have H := h
 clear h
 unfold impl_areDecimals.f at H
 obtain ⟨t347,A20,H⟩ := Option.bind_eq_some_iff.mp H
 have A2 := Aside0.mk A20
 clear A20
 obtain rfl := Option.some.inj H
 go_enter Try.func42,Try.ntmps42
 go_wp2_with (first | ((with_reducible refine gate_callee (f := 32) rfl ?_);refine goesL_ (some 4) rfl rfl Try.func32 Z256 rfl #[.slice A0 l0.length c0,.func (.func 59) #[] #[]] rfl Z159 ?_;(with_reducible refine (slices_ContainsFunc_int_int_32.calls k _ _ l0 () t347 _ ?side1 ?side2 A2.out).mono ?_);(case side1 => exact Z141);(case side2 => exact Z254);rintro e w' ⟨rfl,⟨nd,rfl⟩⟩;refine ⟨_,rfl,?_⟩))
 go_ret
 exact ⟨Z230,Z224⟩

-- NOT PRINTED: function 61 (slices_IndexFunc_int_int_61)

-- NOT PRINTED: function 43 (slices_ContainsFunc_int_int_43)

end Go.Proofs.Ytlflcgdcegohjab.QFnGrid
