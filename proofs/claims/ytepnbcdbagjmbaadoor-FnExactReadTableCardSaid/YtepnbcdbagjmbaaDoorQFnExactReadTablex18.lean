/- The machine side of FnExactReadTable: what each Go function that it reaches comes to. Conditions: none. -/
import Derived.Test.YtepnbcdbagjmbaaDoorZn
import Derived.Test.YtepnbcdbagjmbaaDoorQFnExactReadTablex0
import Derived.Test.YtepnbcdbagjmbaaDoorQFnExactReadTablex7
import Derived.Test.YtepnbcdbagjmbaaDoorQFnExactReadTablex15
import Derived.Test.YtepnbcdbagjmbaaDoorQFnExactReadTablex16
import Derived.Test.YtepnbcdbagjmbaaDoorQFnExactReadTablex17
namespace Go.Proofs.YtepnbcdbagjmbaaDoor.QFnExactReadTable
open Go.RowKit Go.Proofs.YtepnbcdbagjmbaaDoorW.PrintWords Go.Proofs.YtepnbcdbagjmbaaDoorW.PrintLast Go.Proofs.YtepnbcdbagjmbaaDoorW.PrintMore
attribute [local go_sem] max2_int min2_int max_two min_two max_three min_three max_four min_four   -- for this text's walks alone
set_option linter.unusedVariables false
set_option linter.unusedSimpArgs false

/-! ### laws_FnExactReadTable: function 3 -/
mutual
def laws_FnExactReadTable.j0 : Nat → ByteArray → Bool → List ByteArray → ByteArray → List (List Int) → List Int → Int → Int → Int → List ByteArray → ByteArray → List (List Int) → List Int → Option (Bool)
 | 0, _, _, _, _, _, _, _, _, _, _, _, _, _ => none
 | k + 1, x0, x33, x401000, x401001, x401002, x401003, x402000, x402001, x402002, x416000, x416001, x416002, x416003 => if x33 = true then (some false) else ((laws_markTable.f k x416000 x416001 x416002 x416003 1).bind fun bt419 => ((laws_heldTable.f k bt419.2.1 x416001 bt419.2.2.1 bt419.2.2.2 1).bind fun t423 => (if t423 < 0 then (some false) else (if t423 = bt419.1 then ((impl_ReadTable.f k x0).bind fun bt424 => ((laws_eqTable.f k bt424.1 bt424.2.1 bt424.2.2.1 bt424.2.2.2.1 x401000 x401001 x401002 x401003).bind fun t439 => (if t439 = true then ((laws_eqFault.f bt424.2.2.2.2.1 bt424.2.2.2.2.2.1 bt424.2.2.2.2.2.2 x402000 x402001 x402002).bind fun t440 => (laws_FnExactReadTable.j1 k bt419.1 (!t440) bt419.2.1 x416001 bt419.2.2.1 bt419.2.2.2)) else (laws_FnExactReadTable.j1 k bt419.1 true bt419.2.1 x416001 bt419.2.2.1 bt419.2.2.2)))) else (some false)))))
def laws_FnExactReadTable.j1 : Nat → Int → Bool → List ByteArray → ByteArray → List (List Int) → List Int → Option (Bool)
 | 0, _, _, _, _, _, _ => none
 | k + 1, x7, x59, x416000, x416001, x416002, x416003 => if x59 = true then (some false) else ((laws_heldTable.f k x416000 x416001 x416002 x416003 1).bind fun t441 => (if t441 < 0 then (some false) else (if t441 = x7 then (some true) else (some false))))
end
def laws_FnExactReadTable.f (k : Nat) (a0 : ByteArray) : Option (Bool) := if (a0.size : Int) > 1048576 then (some true) else ((spec_ReadTable.f k a0).bind fun bt387 => ((impl_ReadTable.f k a0).bind fun bt402 => ((laws_eqTable.f k bt402.1 bt402.2.1 bt402.2.2.1 bt402.2.2.2.1 bt387.1 bt387.2.1 bt387.2.2.1 bt387.2.2.2.1).bind fun t417 => (if t417 = true then ((laws_eqFault.f bt402.2.2.2.2.1 bt402.2.2.2.2.2.1 bt402.2.2.2.2.2.2 bt387.2.2.2.2.1 bt387.2.2.2.2.2.1 bt387.2.2.2.2.2.2).bind fun t418 => (laws_FnExactReadTable.j0 k a0 (!t418) bt387.1 bt387.2.1 bt387.2.2.1 bt387.2.2.2.1 bt387.2.2.2.2.1 bt387.2.2.2.2.2.1 bt387.2.2.2.2.2.2 bt402.1 bt402.2.1 bt402.2.2.1 bt402.2.2.2.1)) else (laws_FnExactReadTable.j0 k a0 true bt387.1 bt387.2.1 bt387.2.2.1 bt387.2.2.2.1 bt387.2.2.2.2.1 bt387.2.2.2.2.2.1 bt387.2.2.2.2.2.2 bt402.1 bt402.2.1 bt402.2.2.1 bt402.2.2.2.1)))))
theorem laws_FnExactReadTable.mono_l : ∀ k, (∀ y0 y1 y2 y3 y4 y5 y6 y7 y8 y9 y10 y11 y12, LeO (laws_FnExactReadTable.j0 k y0 y1 y2 y3 y4 y5 y6 y7 y8 y9 y10 y11 y12) (laws_FnExactReadTable.j0 (k + 1) y0 y1 y2 y3 y4 y5 y6 y7 y8 y9 y10 y11 y12)) ∧ (∀ y0 y1 y2 y3 y4 y5, LeO (laws_FnExactReadTable.j1 k y0 y1 y2 y3 y4 y5) (laws_FnExactReadTable.j1 (k + 1) y0 y1 y2 y3 y4 y5))
 | 0 => ⟨fun _ _ _ _ _ _ _ _ _ _ _ _ _ r h => by simp [laws_FnExactReadTable.j0] at h, fun _ _ _ _ _ _ r h => by simp [laws_FnExactReadTable.j1] at h⟩
 | k + 1 => by
  obtain ⟨ih0, ih1⟩ := laws_FnExactReadTable.mono_l k
  refine ⟨?_, ?_⟩
  ·intro y0 y1 y2 y3 y4 y5 y6 y7 y8 y9 y10 y11 y12
   unfold laws_FnExactReadTable.j0
   repeat' first
   | (with_reducible exact ih0 _ _ _ _ _ _ _ _ _ _ _ _ _)
   | (with_reducible exact ih1 _ _ _ _ _ _)
   | (with_reducible exact impl_ReadTable.mono _ _)
   | (with_reducible exact laws_eqTable.mono _ _ _ _ _ _ _ _ _)
   | (with_reducible exact laws_heldTable.mono _ _ _ _ _ _)
   | (with_reducible exact laws_markTable.mono _ _ _ _ _ _)
   | (with_reducible exact spec_ReadTable.mono _ _)
   | (with_reducible exact LeO.refl _)
   | (with_reducible exact LeO.none _)
   | (with_reducible refine LeO.ite ?_ ?_)
   | (with_reducible refine LeO.bind ?_ (fun _ => ?_))
   | exact ih0 _ _ _ _ _ _ _ _ _ _ _ _ _
   | exact ih1 _ _ _ _ _ _
   | exact impl_ReadTable.mono _ _
   | exact laws_eqTable.mono _ _ _ _ _ _ _ _ _
   | exact laws_heldTable.mono _ _ _ _ _ _
   | exact laws_markTable.mono _ _ _ _ _ _
   | exact spec_ReadTable.mono _ _
   | exact LeO.none _
   | refine LeO.ite ?_ ?_
   | refine LeO.bind ?_ (fun _ => ?_)
  ·intro y0 y1 y2 y3 y4 y5
   unfold laws_FnExactReadTable.j1
   repeat' first
   | (with_reducible exact ih0 _ _ _ _ _ _ _ _ _ _ _ _ _)
   | (with_reducible exact ih1 _ _ _ _ _ _)
   | (with_reducible exact impl_ReadTable.mono _ _)
   | (with_reducible exact laws_eqTable.mono _ _ _ _ _ _ _ _ _)
   | (with_reducible exact laws_heldTable.mono _ _ _ _ _ _)
   | (with_reducible exact laws_markTable.mono _ _ _ _ _ _)
   | (with_reducible exact spec_ReadTable.mono _ _)
   | (with_reducible exact LeO.refl _)
   | (with_reducible exact LeO.none _)
   | (with_reducible refine LeO.ite ?_ ?_)
   | (with_reducible refine LeO.bind ?_ (fun _ => ?_))
   | exact ih0 _ _ _ _ _ _ _ _ _ _ _ _ _
   | exact ih1 _ _ _ _ _ _
   | exact impl_ReadTable.mono _ _
   | exact laws_eqTable.mono _ _ _ _ _ _ _ _ _
   | exact laws_heldTable.mono _ _ _ _ _ _
   | exact laws_markTable.mono _ _ _ _ _ _
   | exact spec_ReadTable.mono _ _
   | exact LeO.none _
   | refine LeO.ite ?_ ?_
   | refine LeO.bind ?_ (fun _ => ?_)
theorem laws_FnExactReadTable.mono : ∀ a0 k, LeO (laws_FnExactReadTable.f k a0) (laws_FnExactReadTable.f (k + 1) a0) := by
 intro a0 k
 obtain ⟨ih0, ih1⟩ := laws_FnExactReadTable.mono_l k
 unfold laws_FnExactReadTable.f
 repeat' first
   | (with_reducible exact ih0 _ _ _ _ _ _ _ _ _ _ _ _ _)
   | (with_reducible exact ih1 _ _ _ _ _ _)
   | (with_reducible exact impl_ReadTable.mono _ _)
   | (with_reducible exact laws_eqTable.mono _ _ _ _ _ _ _ _ _)
   | (with_reducible exact laws_heldTable.mono _ _ _ _ _ _)
   | (with_reducible exact laws_markTable.mono _ _ _ _ _ _)
   | (with_reducible exact spec_ReadTable.mono _ _)
   | (with_reducible exact LeO.refl _)
   | (with_reducible exact LeO.none _)
   | (with_reducible refine LeO.ite ?_ ?_)
   | (with_reducible refine LeO.bind ?_ (fun _ => ?_))
   | exact ih0 _ _ _ _ _ _ _ _ _ _ _ _ _
   | exact ih1 _ _ _ _ _ _
   | exact impl_ReadTable.mono _ _
   | exact laws_eqTable.mono _ _ _ _ _ _ _ _ _
   | exact laws_heldTable.mono _ _ _ _ _ _
   | exact laws_markTable.mono _ _ _ _ _ _
   | exact spec_ReadTable.mono _ _
   | exact LeO.none _
   | refine LeO.ite ?_ ?_
   | refine LeO.bind ?_ (fun _ => ?_)
theorem laws_FnExactReadTable.j0_stop {k : Nat} {r : Bool} {y0 : ByteArray} {y401000 : List ByteArray} {y401001 : ByteArray} {y401002 : List (List Int)} {y401003 : List Int} {y402000 : Int} {y402001 : Int} {y402002 : Int} {y416000 : List ByteArray} {y416001 : ByteArray} {y416002 : List (List Int)} {y416003 : List Int} (h : laws_FnExactReadTable.j0 k y0 true y401000 y401001 y401002 y401003 y402000 y402001 y402002 y416000 y416001 y416002 y416003 = some r) : r = false := by
 cases k with
 | zero => simp [laws_FnExactReadTable.j0] at h
 | succ k =>
  simp only [laws_FnExactReadTable.j0] at h
  rw [if_pos trivial] at h
  exact (Option.some.inj h).symm
theorem laws_FnExactReadTable.j1_stop {k : Nat} {r : Bool} {y7 : Int} {y416000 : List ByteArray} {y416001 : ByteArray} {y416002 : List (List Int)} {y416003 : List Int} (h : laws_FnExactReadTable.j1 k y7 true y416000 y416001 y416002 y416003 = some r) : r = false := by
 cases k with
 | zero => simp [laws_FnExactReadTable.j1] at h
 | succ k =>
  simp only [laws_FnExactReadTable.j1] at h
  rw [if_pos trivial] at h
  exact (Option.some.inj h).symm
theorem Sc_old0 {α : Type} {d : Kd α} {e base : Nat} {ok CL : Nat → Prop} {W w1 : World} {u : Value} {xs : List α} (hL : ∀ k,k < W.heap.size → CL k) (h : Kd.S d e W base ok u xs) (hb : Below W.heap.size W w1) : Sc CL d e w1 base (fun k => ok k ∧ k < W.heap.size) u xs := Kd.S_mono (Kd.S_old h hb) (fun k hk => ⟨⟨hk.1,hk.2⟩,hL k hk.2⟩)
set_option maxHeartbeats 8000000 in
set_option maxRecDepth 100000 in
theorem laws_FnExactReadTable.calls (k : Nat) (a0 : ByteArray) (r : Bool) (w : World) (hG : GT w) (h : laws_FnExactReadTable.f k a0 = some r) (hr_ : r = true) :
  Calls Tryd.prog 3 #[.string a0] w fun e w' => e = .returned (.bool r) ∧ Below w.heap.size w w' := by
 have HRT := Aside0.mk hr_
 clear hr_
 have HG := Aside0.mk hG
 clear hG
 have hu26 := Tryd.underlying26
 have hu28 := Tryd.underlying28
 have HB := Aside0.mk (Below.refl w.heap.size w)
 have H := h
 clear h
 unfold laws_FnExactReadTable.f at H
 by_cases c2 : (a0.size : Int) > 1048576
 ·rw [if_pos c2] at H
  have c2b0 : decide (1048576 < (a0.size : Int)) = true := decide_eq_true c2
  have c2b1 : decide (1048576 < a0.size) = true := decide_eq_true Z254
  clear c2
  obtain rfl := Option.some.inj H
  go_enter Tryd.func3,Tryd.ntmps3
  go_wp2
  go_ret
  exact ⟨Z218,Z351⟩
 rw [if_neg c2] at H
 have c2b0 : decide (1048576 < (a0.size : Int)) = false := decide_eq_false c2
 have c2b1 : decide (1048576 < a0.size) = false := decide_eq_false Z254
 clear c2
 obtain ⟨⟨t387,t390,t391,t394,t397,t398,t399⟩,A30,H⟩ := Option.bind_eq_some_iff.mp H
 try dsimp only at H
 have A3 := Aside0.mk A30
 clear A30
 obtain ⟨⟨t402,t405,t406,t409,t412,t413,t414⟩,A40,H⟩ := Option.bind_eq_some_iff.mp H
 try dsimp only at H
 have A4 := Aside0.mk A40
 clear A40
 have HC5 := Aside0.mk H
 clear H
 go_enter Tryd.func3,Tryd.ntmps3
 go_upto_region 5 with (first | ((with_reducible refine gate_callee (f := 4) rfl ?_);refine goesL_ (some 16) rfl rfl Tryd.func4 Z253 rfl #[.string a0] rfl Z173 ?_;(with_reducible refine (spec_ReadTable.calls k a0 t387 t390 t391 t394 t397 t398 t399 _ A3.out).mono ?_);rintro e w6 ⟨v388,v392,v395,rfl,ho0,ho1,ho2,hb⟩;refine ⟨_,rfl,?_⟩;have n_ := jA (Kd.R_lower ho0 (below_size Z351)) (jA (Kd.S_lower ho1 (below_size Z351)) (jA (Kd.R_lower ho2 (below_size Z351)) (Aside0.mk (below_step Z351 hb))));clear HB;obtain ⟨HO389,HO393,HO396,HB⟩ := n_;(try clear hb);(try clear hb2);(try clear hk);(try clear hi);(try clear ho0);(try clear ho1);(try clear ho2)) | ((with_reducible refine gate_dst (N := 3) rfl ?_);refine bE 3 #[.slice none 0 0,.string (⟨#[]⟩ : ByteArray),.slice none 0 0,.slice none 0 0] 26 (h := ?_);intro gb400 hg w7 hbox hb;have n_ := jA (Kd.R_below Z198 hb) (jA (Kd.S_below Z207 hb) (jA (Kd.R_below Z197 hb) (jA (below_step Z351 hb) (jA (hbox) (jA ((Z294 : w.heap.size ≤ gb400)) (Aside0.mk ((Z294 : w.heap.size ≤ gb400))))))));clear HO389 HO393 HO396 HB;obtain ⟨HO389,HO393,HO396,HB,BK400,GW400,GE400⟩ := n_;clear hb hbox hg) | ((with_reducible refine gate_dst (N := 4) rfl ?_);refine bE 4 #[.int .i64 0,.int .i64 0,.int .i64 0] 28 (h := ?_);intro gb401 hg w8 hbox hb;have n_ := jA (Kd.R_below Z198 hb) (jA (Kd.S_below Z207 hb) (jA (Kd.R_below Z197 hb) (jA (blk_below (g := gb400) (o := .cells #[.slice none 0 0,.string (⟨#[]⟩ : ByteArray),.slice none 0 0,.slice none 0 0] 26 (0,0)) Z303 hb) (jA (below_step Z299 hb) (jA (hbox) (jA ((Z121 : w.heap.size ≤ gb401)) (jA ((Z121 : w.heap.size ≤ gb401)) (jA ((by rw [hg];exact Nat.ne_of_lt (blk_lt (g := gb400) (o := .cells #[.slice none 0 0,.string (⟨#[]⟩ : ByteArray),.slice none 0 0,.slice none 0 0] 26 (0,0)) Z303) : gb400 ≠ gb401)) (Aside0.mk ((by rw [hg];exact Nat.ne_of_gt (blk_lt (g := gb400) (o := .cells #[.slice none 0 0,.string (⟨#[]⟩ : ByteArray),.slice none 0 0,.slice none 0 0] 26 (0,0)) Z303) : gb401 ≠ gb400)))))))))));clear HO389 HO393 HO396 BK400 HB;obtain ⟨HO389,HO393,HO396,BK400,HB,BK401,GW401,GE401,NB400_401,NB401_400⟩ := n_;clear hb hbox hg;obtain ⟨Ao9,co9,eo9⟩ := Kd.R_slice HO389.out;subst eo9;have hnb10 := NB400_401.out;have hnc10 := NB401_400.out;have hcz11_0 : w8.cell? ⟨gb400,0,none⟩ = some (.slice none 0 0) := bc BK400 0;have hcz11_1 : w8.cell? ⟨gb400,1,none⟩ = some (.string (⟨#[]⟩ : ByteArray)) := bc BK400 1;have hcz11_2 : w8.cell? ⟨gb400,2,none⟩ = some (.slice none 0 0) := bc BK400 2;have hcz11_3 : w8.cell? ⟨gb400,3,none⟩ = some (.slice none 0 0) := bc BK400 3;have hfz11_0 := blk_frozen BK400.out 0;have hfz11_1 := blk_frozen BK400.out 1;have hfz11_2 := blk_frozen BK400.out 2;have hfz11_3 := blk_frozen BK400.out 3;obtain ⟨Ao12,co12,eo12⟩ := Kd.S_slice HO393.out;subst eo12;obtain ⟨Ao13,co13,eo13⟩ := Kd.R_slice HO396.out;subst eo13;have hcz14_0 : w8.cell? ⟨gb401,0,none⟩ = some (.int .i64 0) := bc BK401 0;have hcz14_1 : w8.cell? ⟨gb401,1,none⟩ = some (.int .i64 0) := bc BK401 1;have hcz14_2 : w8.cell? ⟨gb401,2,none⟩ = some (.int .i64 0) := bc BK401 2;have hfz14_0 := blk_frozen BK401.out 0;have hfz14_1 := blk_frozen BK401.out 1;have hfz14_2 := blk_frozen BK401.out 2) | ((with_reducible refine gate_callee (f := 5) rfl ?_);refine goesL_ (some 21) rfl rfl Tryd.func5 Z253 rfl #[.string a0] rfl Z173 ?_;(with_reducible refine (impl_ReadTable.calls k a0 t402 t405 t406 t409 t412 t413 t414 _ ?side1 A4.out).mono ?_);(case side1 => exact GT_below HG.out Z276);rintro e w15 ⟨v403,v407,v410,rfl,ho0,ho1,ho2,hb⟩;obtain ⟨CL_,CN_,hap_,hL_,hN_⟩ := col_pair hb;replace ho1 := Sc_new ho1 hN_;refine ⟨_,rfl,?_⟩;have n_ := jA (Kd.R_elder' Z32 (Kd.R_base ho0) hb) (jA (Sc_mono (Sc_told (Sc_told (Sc_old0 hL_ Z31 hb) (Sc_base ho1)) (Kd.R_base ho2)) (fun _ h_ => h_.1)) (jA (Kd.R_elder' Z30 (Kd.R_base ho2) hb) (jA (Kd.R_lower (Kd.R_new' ho0 (Kd.R_lt Z32)) (below_size Z276)) (jA (Sc_lower (Sc_new' (Sc_new' ho1 (Kd.S_lt Z31)) (Kd.R_lt Z30)) (below_size Z276)) (jA (Kd.R_lower (Kd.R_new' ho2 (Kd.R_lt Z30)) (below_size Z276)) (jA (blk_below (g := gb400) (o := .cells #[.slice Ao9 t387.length co9,.string t390,.slice Ao12 t391.length co12,.slice Ao13 t394.length co13] 26 (0,0)) (by (with_reducible repeat (first | refine blk_drewN ?_ _ | refine blk_drew ?_ | refine blk_alloc ?_ _));refine blk_far ?_ NB400_401.out _;(with_reducible repeat (first | refine blk_drewN ?_ _ | refine blk_drew ?_ | refine blk_alloc ?_ _));refine blk_far ?_ NB400_401.out _;(with_reducible repeat (first | refine blk_drewN ?_ _ | refine blk_drew ?_ | refine blk_alloc ?_ _));refine blk_far ?_ NB400_401.out _;(with_reducible repeat (first | refine blk_drewN ?_ _ | refine blk_drew ?_ | refine blk_alloc ?_ _));refine blk_put (cs := #[.slice Ao9 t387.length co9,.string t390,.slice Ao12 t391.length co12,.slice none 0 0]) ?_ 3 _ rfl;(with_reducible repeat (first | refine blk_drewN ?_ _ | refine blk_drew ?_ | refine blk_alloc ?_ _));refine blk_put (cs := #[.slice Ao9 t387.length co9,.string t390,.slice none 0 0,.slice none 0 0]) ?_ 2 _ rfl;(with_reducible repeat (first | refine blk_drewN ?_ _ | refine blk_drew ?_ | refine blk_alloc ?_ _));refine blk_put (cs := #[.slice Ao9 t387.length co9,.string (⟨#[]⟩ : ByteArray),.slice none 0 0,.slice none 0 0]) ?_ 1 _ rfl;(with_reducible repeat (first | refine blk_drewN ?_ _ | refine blk_drew ?_ | refine blk_alloc ?_ _));refine blk_put (cs := #[.slice none 0 0,.string (⟨#[]⟩ : ByteArray),.slice none 0 0,.slice none 0 0]) ?_ 0 _ rfl;(with_reducible repeat (first | refine blk_drewN ?_ _ | refine blk_drew ?_ | refine blk_alloc ?_ _));exact BK400.out) hb) (jA (blk_below (g := gb401) (o := .cells #[.int .i64 t397,.int .i64 t398,.int .i64 t399] 28 (0,0)) (by (with_reducible repeat (first | refine blk_drewN ?_ _ | refine blk_drew ?_ | refine blk_alloc ?_ _));refine blk_put (cs := #[.int .i64 t397,.int .i64 t398,.int .i64 0]) ?_ 2 _ rfl;(with_reducible repeat (first | refine blk_drewN ?_ _ | refine blk_drew ?_ | refine blk_alloc ?_ _));refine blk_put (cs := #[.int .i64 t397,.int .i64 0,.int .i64 0]) ?_ 1 _ rfl;(with_reducible repeat (first | refine blk_drewN ?_ _ | refine blk_drew ?_ | refine blk_alloc ?_ _));refine blk_put (cs := #[.int .i64 0,.int .i64 0,.int .i64 0]) ?_ 0 _ rfl;(with_reducible repeat (first | refine blk_drewN ?_ _ | refine blk_drew ?_ | refine blk_alloc ?_ _));refine blk_far ?_ NB401_400.out _;(with_reducible repeat (first | refine blk_drewN ?_ _ | refine blk_drew ?_ | refine blk_alloc ?_ _));refine blk_far ?_ NB401_400.out _;(with_reducible repeat (first | refine blk_drewN ?_ _ | refine blk_drew ?_ | refine blk_alloc ?_ _));refine blk_far ?_ NB401_400.out _;(with_reducible repeat (first | refine blk_drewN ?_ _ | refine blk_drew ?_ | refine blk_alloc ?_ _));refine blk_far ?_ NB401_400.out _;(with_reducible repeat (first | refine blk_drewN ?_ _ | refine blk_drew ?_ | refine blk_alloc ?_ _));exact BK401.out) hb) (Aside0.mk (below_step Z276 hb)))))))));clear HO389 HO393 HO396 BK400 BK401 HB;obtain ⟨HO389,HO393,HO396,HO404,HO408,HO411,BK400,BK401,HB⟩ := n_;(try clear hb);(try clear hb2);(try clear hk);(try clear hi);(try clear ho0);(try clear ho1);(try clear ho2)) | ((with_reducible refine gate_dst (N := 5) rfl ?_);refine bE 5 #[.slice none 0 0,.string (⟨#[]⟩ : ByteArray),.slice none 0 0,.slice none 0 0] 26 (h := ?_);intro gb415 hg w16 hbox hb;have n_ := jA (Kd.R_below Z198 hb) (jA (Sc_below Z216 hb) (jA (Kd.R_below Z197 hb) (jA (Kd.R_below Z205 hb) (jA (Sc_below Z215 hb) (jA (Kd.R_below Z204 hb) (jA (blk_below (g := gb400) (o := .cells #[.slice Ao9 t387.length co9,.string t390,.slice Ao12 t391.length co12,.slice Ao13 t394.length co13] 26 (0,0)) Z303 hb) (jA (blk_below (g := gb401) (o := .cells #[.int .i64 t397,.int .i64 t398,.int .i64 t399] 28 (0,0)) Z305 hb) (jA (below_step Z276 hb) (jA (hbox) (jA ((Z114 : w.heap.size ≤ gb415)) (jA ((Z114 : w.heap.size ≤ gb415)) (jA ((Z91 : gb400 ≠ gb415)) (jA ((Z92 : gb415 ≠ gb400)) (jA ((Z109 : gb401 ≠ gb415)) (Aside0.mk ((Z110 : gb415 ≠ gb401)))))))))))))))));clear HO389 HO393 HO396 HO404 HO408 HO411 BK400 BK401 HB;obtain ⟨HO389,HO393,HO396,HO404,HO408,HO411,BK400,BK401,HB,BK415,GW415,GE415,NB400_415,NB415_400,NB401_415,NB415_401⟩ := n_;clear hb hbox hg) | ((with_reducible refine gate_dst (N := 6) rfl ?_);refine bE 6 #[.int .i64 0,.int .i64 0,.int .i64 0] 28 (h := ?_);intro gb416 hg w17 hbox hb;have n_ := jA (Kd.R_below Z198 hb) (jA (Sc_below Z216 hb) (jA (Kd.R_below Z197 hb) (jA (Kd.R_below Z205 hb) (jA (Sc_below Z215 hb) (jA (Kd.R_below Z204 hb) (jA (blk_below (g := gb400) (o := .cells #[.slice Ao9 t387.length co9,.string t390,.slice Ao12 t391.length co12,.slice Ao13 t394.length co13] 26 (0,0)) Z303 hb) (jA (blk_below (g := gb401) (o := .cells #[.int .i64 t397,.int .i64 t398,.int .i64 t399] 28 (0,0)) Z305 hb) (jA (blk_below (g := gb415) (o := .cells #[.slice none 0 0,.string (⟨#[]⟩ : ByteArray),.slice none 0 0,.slice none 0 0] 26 (0,0)) Z304 hb) (jA (below_step Z270 hb) (jA (hbox) (jA ((Z102 : w.heap.size ≤ gb416)) (jA ((Z102 : w.heap.size ≤ gb416)) (jA ((Z91 : gb400 ≠ gb416)) (jA ((Z92 : gb416 ≠ gb400)) (jA ((Z109 : gb401 ≠ gb416)) (jA ((Z110 : gb416 ≠ gb401)) (jA ((by rw [hg];exact Nat.ne_of_lt (blk_lt (g := gb415) (o := .cells #[.slice none 0 0,.string (⟨#[]⟩ : ByteArray),.slice none 0 0,.slice none 0 0] 26 (0,0)) Z304) : gb415 ≠ gb416)) (Aside0.mk ((by rw [hg];exact Nat.ne_of_gt (blk_lt (g := gb415) (o := .cells #[.slice none 0 0,.string (⟨#[]⟩ : ByteArray),.slice none 0 0,.slice none 0 0] 26 (0,0)) Z304) : gb416 ≠ gb415))))))))))))))))))));clear HO389 HO393 HO396 HO404 HO408 HO411 BK400 BK401 BK415 HB;obtain ⟨HO389,HO393,HO396,HO404,HO408,HO411,BK400,BK401,BK415,HB,BK416,GW416,GE416,NB400_416,NB416_400,NB401_416,NB416_401,NB415_416,NB416_415⟩ := n_;clear hb hbox hg;obtain ⟨Ao18,co18,eo18⟩ := Kd.R_slice HO404.out;subst eo18;have hnb19 := NB415_400.out;have hnc19 := NB400_415.out;have hnb20 := NB415_401.out;have hnc20 := NB401_415.out;have hnb21 := NB415_416.out;have hnc21 := NB416_415.out;have hcz22_0 : w17.cell? ⟨gb415,0,none⟩ = some (.slice none 0 0) := bc BK415 0;have hcz22_1 : w17.cell? ⟨gb415,1,none⟩ = some (.string (⟨#[]⟩ : ByteArray)) := bc BK415 1;have hcz22_2 : w17.cell? ⟨gb415,2,none⟩ = some (.slice none 0 0) := bc BK415 2;have hcz22_3 : w17.cell? ⟨gb415,3,none⟩ = some (.slice none 0 0) := bc BK415 3;have hfz22_0 := blk_frozen BK415.out 0;have hfz22_1 := blk_frozen BK415.out 1;have hfz22_2 := blk_frozen BK415.out 2;have hfz22_3 := blk_frozen BK415.out 3;obtain ⟨Ao23,co23,eo23⟩ := Sc_slice HO408.out;subst eo23;obtain ⟨Ao24,co24,eo24⟩ := Kd.R_slice HO411.out;subst eo24;have hnb25 := NB416_400.out;have hnc25 := NB400_416.out;have hnb26 := NB416_401.out;have hnc26 := NB401_416.out;have hcz27_0 : w17.cell? ⟨gb416,0,none⟩ = some (.int .i64 0) := bc BK416 0;have hcz27_1 : w17.cell? ⟨gb416,1,none⟩ = some (.int .i64 0) := bc BK416 1;have hcz27_2 : w17.cell? ⟨gb416,2,none⟩ = some (.int .i64 0) := bc BK416 2;have hfz27_0 := blk_frozen BK416.out 0;have hfz27_1 := blk_frozen BK416.out 1;have hfz27_2 := blk_frozen BK416.out 2))
 (try simp only [Act.put,List.setIfInBounds_toArray,List.set_cons_zero,List.set_cons_succ])
 go_cut [33] (fun v33 wc => ∃ (kq : Nat) (x33_4 : Bool) (CW_ CG_ : Nat → Prop),v33 = .bool x33_4 ∧ (∀ k_,CW_ k_ → ¬ CG_ k_) ∧ Aside0 (laws_FnExactReadTable.j0 kq a0 x33_4 t387 t390 t391 t394 t397 t398 t399 t402 t405 t406 t409 = some r) ∧ Aside0 (kq ≤ k) ∧ Aside0 (Kd.R Kd.string 9 wc w.heap.size (fun k_ => some k_ ≠ ((.slice Ao18 t402.length co18) : Value).ownBlock) (.slice Ao9 t387.length co9) t387) ∧ Aside0 (Sc CW_ (Kd.slice 3 (Kd.int .i64)) 24 wc w.heap.size (fun k_ => some k_ ≠ ((.slice Ao13 t394.length co13) : Value).ownBlock ∧ some k_ ≠ ((.slice Ao23 t406.length co23) : Value).ownBlock ∧ some k_ ≠ ((.slice Ao24 t409.length co24) : Value).ownBlock) (.slice Ao12 t391.length co12) t391) ∧ Aside0 (Kd.R (Kd.int .i64) 3 wc w.heap.size (fun k_ => some k_ ≠ ((.slice Ao24 t409.length co24) : Value).ownBlock) (.slice Ao13 t394.length co13) t394) ∧ Aside0 (Kd.R Kd.string 9 wc w.heap.size (fun k_ => some k_ ≠ ((.slice Ao9 t387.length co9) : Value).ownBlock) (.slice Ao18 t402.length co18) t402) ∧ Aside0 (Sc CG_ (Kd.slice 3 (Kd.int .i64)) 24 wc w.heap.size (fun k_ => some k_ ≠ ((.slice Ao12 t391.length co12) : Value).ownBlock ∧ some k_ ≠ ((.slice Ao13 t394.length co13) : Value).ownBlock ∧ some k_ ≠ ((.slice Ao24 t409.length co24) : Value).ownBlock) (.slice Ao23 t406.length co23) t406) ∧ Aside0 (Kd.R (Kd.int .i64) 3 wc w.heap.size (fun k_ => some k_ ≠ ((.slice Ao13 t394.length co13) : Value).ownBlock) (.slice Ao24 t409.length co24) t409) ∧ Aside0 (wc.heap[gb400]? = some (.cells #[(.slice Ao9 t387.length co9),.string t390,(.slice Ao12 t391.length co12),(.slice Ao13 t394.length co13)] 26 (0,0))) ∧ Aside0 (wc.heap[gb401]? = some (.cells #[.int .i64 t397,.int .i64 t398,.int .i64 t399] 28 (0,0))) ∧ Aside0 (wc.heap[gb415]? = some (.cells #[(.slice Ao18 t402.length co18),.string t405,(.slice Ao23 t406.length co23),(.slice Ao24 t409.length co24)] 26 (0,0))) ∧ Aside0 (wc.heap[gb416]? = some (.cells #[.int .i64 t412,.int .i64 t413,.int .i64 t414] 28 (0,0))) ∧ Aside0 (Below w.heap.size w wc))
 case first =>
  have H := HC5.out
  clear HC5
  obtain ⟨t417,A280,H⟩ := Option.bind_eq_some_iff.mp H
  have A28 := Aside0.mk A280
  clear A280
  by_cases c29 : t417 = true
  rotate_left
  ·replace c29 := Bool.eq_false_iff.mpr c29
   subst c29
   rw [if_neg Bool.false_ne_true] at H
   exact absurd ((laws_FnExactReadTable.j0_stop H).symm.trans HRT.out) Z355
  subst c29
  rw [if_pos rfl] at H
  obtain ⟨t418,A300,H⟩ := Option.bind_eq_some_iff.mp H
  have A30 := Aside0.mk A300
  clear A300
  have H' := Aside0.mk H
  clear H
  have hnb31 := NB415_400.out
  have hnc31 := NB400_415.out
  have hnb32 := NB415_401.out
  have hnc32 := NB401_415.out
  have hnb33 := NB415_416.out
  have hnc33 := NB416_415.out
  have hcz34_0 : w17.cell? ⟨gb415,0,none⟩ = some (.slice none 0 0) := bc BK415 0
  have hcz34_1 : w17.cell? ⟨gb415,1,none⟩ = some (.string (⟨#[]⟩ : ByteArray)) := bc BK415 1
  have hcz34_2 : w17.cell? ⟨gb415,2,none⟩ = some (.slice none 0 0) := bc BK415 2
  have hcz34_3 : w17.cell? ⟨gb415,3,none⟩ = some (.slice none 0 0) := bc BK415 3
  have hfz34_0 := blk_frozen BK415.out 0
  have hfz34_1 := blk_frozen BK415.out 1
  have hfz34_2 := blk_frozen BK415.out 2
  have hfz34_3 := blk_frozen BK415.out 3
  have hnb35 := NB400_401.out
  have hnc35 := NB401_400.out
  have hnb36 := NB400_416.out
  have hnc36 := NB416_400.out
  have hcz37_0 : w17.cell? ⟨gb400,0,none⟩ = some (.slice Ao9 t387.length co9) := bc BK400 0
  have hcz37_1 : w17.cell? ⟨gb400,1,none⟩ = some (.string t390) := bc BK400 1
  have hcz37_2 : w17.cell? ⟨gb400,2,none⟩ = some (.slice Ao12 t391.length co12) := bc BK400 2
  have hcz37_3 : w17.cell? ⟨gb400,3,none⟩ = some (.slice Ao13 t394.length co13) := bc BK400 3
  have hfz37_0 := blk_frozen BK400.out 0
  have hfz37_1 := blk_frozen BK400.out 1
  have hfz37_2 := blk_frozen BK400.out 2
  have hfz37_3 := blk_frozen BK400.out 3
  go_wp2_with (first | ((with_reducible refine gate_callee (f := 6) rfl ?_);refine goesL_ (some 26) rfl rfl Tryd.func6 Z253 rfl #[.agg #[.slice Ao18 t402.length co18,.string t405,.slice Ao23 t406.length co23,.slice Ao24 t409.length co24],.agg #[.slice Ao9 t387.length co9,.string t390,.slice Ao12 t391.length co12,.slice Ao13 t394.length co13]] rfl Z173 ?_;(with_reducible refine (laws_eqTable.calls k _ _ t402 t405 _ _ t406 _ _ t409 _ _ t387 t390 _ _ t391 _ _ t394 true _ ?side1 ?side2 ?side3 ?side4 ?side5 ?side6 ?side7 ?side8 ?side9 ?side10 ?side11 ?side12 A28.out).mono ?_);(case side1 => refine (Kd.R_reads' (e := 9) (base := w.heap.size) (ok := fun k_ => (True ∧ some k_ ≠ (.slice Ao9 t387.length co9 : Value).ownBlock)) (n := t402.length) (c := co18) ?_).2.2;exact Z27);(case side2 => exact (Kd.R_reads' HO404.out).2.1);(case side3 => exact (Sc_reads' (e := 24) (base := w.heap.size) (ok := fun k_ => ((some k_ ≠ (.slice Ao24 t409.length co24 : Value).ownBlock ∧ some k_ ≠ (.slice Ao12 t391.length co12 : Value).ownBlock) ∧ some k_ ≠ (.slice Ao13 t394.length co13 : Value).ownBlock)) (n := t406.length) (c := co23) Z35).2.2);(case side4 => exact (Sc_reads' HO408.out).2.1);(case side5 => refine (Kd.R_reads' (e := 3) (base := w.heap.size) (ok := fun k_ => (True ∧ some k_ ≠ (.slice Ao13 t394.length co13 : Value).ownBlock)) (n := t409.length) (c := co24) ?_).2.2;exact Z26);(case side6 => exact (Kd.R_reads' HO411.out).2.1);(case side7 => refine (Kd.R_reads' (e := 9) (base := w.heap.size) (ok := fun k_ => (True ∧ some k_ ≠ (.slice Ao18 t402.length co18 : Value).ownBlock)) (n := t387.length) (c := co9) ?_).2.2;exact Z29);(case side8 => exact (Kd.R_reads' HO389.out).2.1);(case side9 => exact (Sc_reads' (e := 24) (base := w.heap.size) (ok := fun k_ => ((some k_ ≠ (.slice Ao13 t394.length co13 : Value).ownBlock ∧ some k_ ≠ (.slice Ao23 t406.length co23 : Value).ownBlock) ∧ some k_ ≠ (.slice Ao24 t409.length co24 : Value).ownBlock)) (n := t391.length) (c := co12) Z36).2.2);(case side10 => exact (Sc_reads' HO393.out).2.1);(case side11 => refine (Kd.R_reads' (e := 3) (base := w.heap.size) (ok := fun k_ => (True ∧ some k_ ≠ (.slice Ao24 t409.length co24 : Value).ownBlock)) (n := t394.length) (c := co13) ?_).2.2;exact Z28);(case side12 => exact (Kd.R_reads' HO396.out).2.1);rintro e w38 ⟨rfl,hb⟩;refine ⟨_,rfl,?_⟩;have n_ := jA (Kd.R_below Z29 hb) (jA (Sc_below Z36 hb) (jA (Kd.R_below Z28 hb) (jA (Kd.R_below Z27 hb) (jA (Sc_below Z35 hb) (jA (Kd.R_below Z26 hb) (jA (blk_below (g := gb400) (o := .cells #[.slice Ao9 t387.length co9,.string t390,.slice Ao12 t391.length co12,.slice Ao13 t394.length co13] 26 (0,0)) (by (with_reducible repeat (first | refine blk_drewN ?_ _ | refine blk_drew ?_ | refine blk_alloc ?_ _));refine blk_far ?_ NB400_416.out _;(with_reducible repeat (first | refine blk_drewN ?_ _ | refine blk_drew ?_ | refine blk_alloc ?_ _));refine blk_far ?_ NB400_416.out _;(with_reducible repeat (first | refine blk_drewN ?_ _ | refine blk_drew ?_ | refine blk_alloc ?_ _));refine blk_far ?_ NB400_416.out _;(with_reducible repeat (first | refine blk_drewN ?_ _ | refine blk_drew ?_ | refine blk_alloc ?_ _));refine blk_far ?_ NB400_415.out _;(with_reducible repeat (first | refine blk_drewN ?_ _ | refine blk_drew ?_ | refine blk_alloc ?_ _));refine blk_far ?_ NB400_415.out _;(with_reducible repeat (first | refine blk_drewN ?_ _ | refine blk_drew ?_ | refine blk_alloc ?_ _));refine blk_far ?_ NB400_415.out _;(with_reducible repeat (first | refine blk_drewN ?_ _ | refine blk_drew ?_ | refine blk_alloc ?_ _));refine blk_far ?_ NB400_415.out _;(with_reducible repeat (first | refine blk_drewN ?_ _ | refine blk_drew ?_ | refine blk_alloc ?_ _));exact BK400.out) hb) (jA (blk_below (g := gb401) (o := .cells #[.int .i64 t397,.int .i64 t398,.int .i64 t399] 28 (0,0)) (by (with_reducible repeat (first | refine blk_drewN ?_ _ | refine blk_drew ?_ | refine blk_alloc ?_ _));refine blk_far ?_ NB401_416.out _;(with_reducible repeat (first | refine blk_drewN ?_ _ | refine blk_drew ?_ | refine blk_alloc ?_ _));refine blk_far ?_ NB401_416.out _;(with_reducible repeat (first | refine blk_drewN ?_ _ | refine blk_drew ?_ | refine blk_alloc ?_ _));refine blk_far ?_ NB401_416.out _;(with_reducible repeat (first | refine blk_drewN ?_ _ | refine blk_drew ?_ | refine blk_alloc ?_ _));refine blk_far ?_ NB401_415.out _;(with_reducible repeat (first | refine blk_drewN ?_ _ | refine blk_drew ?_ | refine blk_alloc ?_ _));refine blk_far ?_ NB401_415.out _;(with_reducible repeat (first | refine blk_drewN ?_ _ | refine blk_drew ?_ | refine blk_alloc ?_ _));refine blk_far ?_ NB401_415.out _;(with_reducible repeat (first | refine blk_drewN ?_ _ | refine blk_drew ?_ | refine blk_alloc ?_ _));refine blk_far ?_ NB401_415.out _;(with_reducible repeat (first | refine blk_drewN ?_ _ | refine blk_drew ?_ | refine blk_alloc ?_ _));exact BK401.out) hb) (jA (blk_below (g := gb415) (o := .cells #[.slice Ao18 t402.length co18,.string t405,.slice Ao23 t406.length co23,.slice Ao24 t409.length co24] 26 (0,0)) (by (with_reducible repeat (first | refine blk_drewN ?_ _ | refine blk_drew ?_ | refine blk_alloc ?_ _));refine blk_far ?_ NB415_416.out _;(with_reducible repeat (first | refine blk_drewN ?_ _ | refine blk_drew ?_ | refine blk_alloc ?_ _));refine blk_far ?_ NB415_416.out _;(with_reducible repeat (first | refine blk_drewN ?_ _ | refine blk_drew ?_ | refine blk_alloc ?_ _));refine blk_far ?_ NB415_416.out _;(with_reducible repeat (first | refine blk_drewN ?_ _ | refine blk_drew ?_ | refine blk_alloc ?_ _));refine blk_put (cs := #[.slice Ao18 t402.length co18,.string t405,.slice Ao23 t406.length co23,.slice none 0 0]) ?_ 3 _ rfl;(with_reducible repeat (first | refine blk_drewN ?_ _ | refine blk_drew ?_ | refine blk_alloc ?_ _));refine blk_put (cs := #[.slice Ao18 t402.length co18,.string t405,.slice none 0 0,.slice none 0 0]) ?_ 2 _ rfl;(with_reducible repeat (first | refine blk_drewN ?_ _ | refine blk_drew ?_ | refine blk_alloc ?_ _));refine blk_put (cs := #[.slice Ao18 t402.length co18,.string (⟨#[]⟩ : ByteArray),.slice none 0 0,.slice none 0 0]) ?_ 1 _ rfl;(with_reducible repeat (first | refine blk_drewN ?_ _ | refine blk_drew ?_ | refine blk_alloc ?_ _));refine blk_put (cs := #[.slice none 0 0,.string (⟨#[]⟩ : ByteArray),.slice none 0 0,.slice none 0 0]) ?_ 0 _ rfl;(with_reducible repeat (first | refine blk_drewN ?_ _ | refine blk_drew ?_ | refine blk_alloc ?_ _));exact BK415.out) hb) (jA (blk_below (g := gb416) (o := .cells #[.int .i64 t412,.int .i64 t413,.int .i64 t414] 28 (0,0)) (by (with_reducible repeat (first | refine blk_drewN ?_ _ | refine blk_drew ?_ | refine blk_alloc ?_ _));refine blk_put (cs := #[.int .i64 t412,.int .i64 t413,.int .i64 0]) ?_ 2 _ rfl;(with_reducible repeat (first | refine blk_drewN ?_ _ | refine blk_drew ?_ | refine blk_alloc ?_ _));refine blk_put (cs := #[.int .i64 t412,.int .i64 0,.int .i64 0]) ?_ 1 _ rfl;(with_reducible repeat (first | refine blk_drewN ?_ _ | refine blk_drew ?_ | refine blk_alloc ?_ _));refine blk_put (cs := #[.int .i64 0,.int .i64 0,.int .i64 0]) ?_ 0 _ rfl;(with_reducible repeat (first | refine blk_drewN ?_ _ | refine blk_drew ?_ | refine blk_alloc ?_ _));refine blk_far ?_ NB416_415.out _;(with_reducible repeat (first | refine blk_drewN ?_ _ | refine blk_drew ?_ | refine blk_alloc ?_ _));refine blk_far ?_ NB416_415.out _;(with_reducible repeat (first | refine blk_drewN ?_ _ | refine blk_drew ?_ | refine blk_alloc ?_ _));refine blk_far ?_ NB416_415.out _;(with_reducible repeat (first | refine blk_drewN ?_ _ | refine blk_drew ?_ | refine blk_alloc ?_ _));refine blk_far ?_ NB416_415.out _;(with_reducible repeat (first | refine blk_drewN ?_ _ | refine blk_drew ?_ | refine blk_alloc ?_ _));exact BK416.out) hb) (Aside0.mk (below_step Z264 hb)))))))))));clear HO389 HO393 HO396 HO404 HO408 HO411 BK400 BK401 BK415 BK416 HB;obtain ⟨HO389,HO393,HO396,HO404,HO408,HO411,BK400,BK401,BK415,BK416,HB⟩ := n_;(try clear hb);(try clear hb2);(try clear hk);(try clear hi);have hnb39 := NB416_401.out;have hnc39 := NB401_416.out;have hcz40_0 : w38.cell? ⟨gb416,0,none⟩ = some (.int .i64 t412) := bc BK416 0;have hcz40_1 : w38.cell? ⟨gb416,1,none⟩ = some (.int .i64 t413) := bc BK416 1;have hcz40_2 : w38.cell? ⟨gb416,2,none⟩ = some (.int .i64 t414) := bc BK416 2;have hfz40_0 := blk_frozen BK416.out 0;have hfz40_1 := blk_frozen BK416.out 1;have hfz40_2 := blk_frozen BK416.out 2;have hcz41_0 : w38.cell? ⟨gb401,0,none⟩ = some (.int .i64 t397) := bc BK401 0;have hcz41_1 : w38.cell? ⟨gb401,1,none⟩ = some (.int .i64 t398) := bc BK401 1;have hcz41_2 : w38.cell? ⟨gb401,2,none⟩ = some (.int .i64 t399) := bc BK401 2;have hfz41_0 := blk_frozen BK401.out 0;have hfz41_1 := blk_frozen BK401.out 1;have hfz41_2 := blk_frozen BK401.out 2) | (go_at_call 7;(with_reducible refine (laws_eqFault.calls t412 t413 t414 t397 t398 t399 t418 _ A30.out).mono ?_);rintro e w42 ⟨rfl,hb⟩;have n_ := jA (Kd.R_below Z198 hb) (jA (Sc_below Z216 hb) (jA (Kd.R_below Z197 hb) (jA (Kd.R_below Z205 hb) (jA (Sc_below Z215 hb) (jA (Kd.R_below Z204 hb) (jA (blk_below (g := gb400) (o := .cells #[.slice Ao9 t387.length co9,.string t390,.slice Ao12 t391.length co12,.slice Ao13 t394.length co13] 26 (0,0)) Z303 hb) (jA (blk_below (g := gb401) (o := .cells #[.int .i64 t397,.int .i64 t398,.int .i64 t399] 28 (0,0)) Z305 hb) (jA (blk_below (g := gb415) (o := .cells #[.slice Ao18 t402.length co18,.string t405,.slice Ao23 t406.length co23,.slice Ao24 t409.length co24] 26 (0,0)) Z304 hb) (jA (blk_below (g := gb416) (o := .cells #[.int .i64 t412,.int .i64 t413,.int .i64 t414] 28 (0,0)) Z306 hb) (Aside0.mk (below_step Z264 hb)))))))))));clear HO389 HO393 HO396 HO404 HO408 HO411 BK400 BK401 BK415 BK416 HB;obtain ⟨HO389,HO393,HO396,HO404,HO408,HO411,BK400,BK401,BK415,BK416,HB⟩ := n_;(try clear hb);(try clear hb2);(try clear hk);(try clear hi)))
  go_meet
  case rel => exact ⟨_,(!t418),CL_,CN_,Z238,hap_,H',⟨Z241⟩,⟨by (with_reducible repeat (first | apply Kd.R_alloc | apply Kd.R_drewN | apply Kd.R_drew));exact Kd.R_mono HO389.out (fun _ hk => hk.2)⟩,⟨by (with_reducible repeat (first | apply Sc_alloc | apply Sc_drewN | apply Sc_drew));exact Sc_mono HO393.out (fun _ hk => ⟨hk.1.1,⟨hk.1.2,hk.2⟩⟩)⟩,⟨by (with_reducible repeat (first | apply Kd.R_alloc | apply Kd.R_drewN | apply Kd.R_drew));exact Kd.R_mono HO396.out (fun _ hk => hk.2)⟩,⟨by (with_reducible repeat (first | apply Kd.R_alloc | apply Kd.R_drewN | apply Kd.R_drew));exact Kd.R_mono HO404.out (fun _ hk => hk.2)⟩,⟨by (with_reducible repeat (first | apply Sc_alloc | apply Sc_drewN | apply Sc_drew));exact Sc_mono HO408.out (fun _ hk => ⟨hk.1.2,⟨hk.2,hk.1.1⟩⟩)⟩,⟨by (with_reducible repeat (first | apply Kd.R_alloc | apply Kd.R_drewN | apply Kd.R_drew));exact Kd.R_mono HO411.out (fun _ hk => hk.2)⟩,⟨Z303⟩,⟨Z305⟩,⟨Z304⟩,⟨Z306⟩,⟨Z264⟩⟩
 case rest =>
  clear HC5
  try clear c1
  try clear c2
  try clear c2b0
  try clear c2b1
  try clear p2
  try clear c3
  try clear c4
  try clear c5
  try clear c6
  try clear c10
  try clear c19
  try clear c20
  try clear c21
  try clear c25
  try clear c26
  try clear c29
  try clear c31
  try clear c32
  try clear c33
  try clear c35
  try clear c36
  try clear c39
  obtain ⟨kq,x33_4,CW_,CG_,rfl,hWG_,HA,HJ4,HO_401000,HO_401002,HO_401003,HO_416000,HO_416002,HO_416003,BK400,BK401,BK415,BK416,HB⟩ := hcut
  cases kq with
  | zero => exact absurd HA.out (by simp [laws_FnExactReadTable.j0])
  | succ kj4 =>
   have H := HA.out
   clear HA
   simp only [laws_FnExactReadTable.j0] at H
   by_cases c43 : x33_4 = true
   ·subst c43
    rw [if_pos rfl] at H
    exact absurd ((Option.some.inj H).trans HRT.out) Z355
   replace c43 := Bool.eq_false_iff.mpr c43
   subst c43
   rw [if_neg Bool.false_ne_true] at H
   obtain ⟨⟨t419,t420,t421,t422⟩,A440,H⟩ := Option.bind_eq_some_iff.mp H
   try dsimp only at H
   have A44 := Aside0.mk A440
   clear A440
   obtain ⟨t423,A450,H⟩ := Option.bind_eq_some_iff.mp H
   have A45 := Aside0.mk A450
   clear A450
   by_cases c46 : t423 < 0
   ·rw [if_pos c46] at H
    have c46b0 : decide (t423 < 0) = true := decide_eq_true c46
    clear c46
    exact absurd ((Option.some.inj H).trans HRT.out) Z355
   rw [if_neg c46] at H
   have c46b0 : decide (t423 < 0) = false := decide_eq_false c46
   clear c46
   by_cases c47 : t423 = t419
   rotate_left
   ·rw [if_neg c47] at H
    have c47b0 : (t423 == t419) = false := beq_eq_false_iff_ne.mpr c47
    have c47b1 : (t423 != t419) = true := bne_iff_ne.mpr c47
    exact absurd ((Option.some.inj H).trans HRT.out) Z355
   rw [if_pos c47] at H
   have c47b0 : (t423 == t419) = true := beq_iff_eq.mpr c47
   have c47b1 : (t423 != t419) = false := bne_eq_false_iff_eq.mpr c47
   clear c47
   obtain ⟨⟨t424,t427,t428,t431,t434,t435,t436⟩,A480,H⟩ := Option.bind_eq_some_iff.mp H
   try dsimp only at H
   have A48 := Aside0.mk A480
   clear A480
   have HC49 := Aside0.mk H
   clear H
   have hnb50 := NB415_400.out
   have hnc50 := NB400_415.out
   have hnb51 := NB415_401.out
   have hnc51 := NB401_415.out
   have hnb52 := NB415_416.out
   have hnc52 := NB416_415.out
   have hcz53_0 : wc.cell? ⟨gb415,0,none⟩ = some (.slice Ao18 t402.length co18) := bc BK415 0
   have hcz53_1 : wc.cell? ⟨gb415,1,none⟩ = some (.string t405) := bc BK415 1
   have hcz53_2 : wc.cell? ⟨gb415,2,none⟩ = some (.slice Ao23 t406.length co23) := bc BK415 2
   have hcz53_3 : wc.cell? ⟨gb415,3,none⟩ = some (.slice Ao24 t409.length co24) := bc BK415 3
   have hfz53_0 := blk_frozen BK415.out 0
   have hfz53_1 := blk_frozen BK415.out 1
   have hfz53_2 := blk_frozen BK415.out 2
   have hfz53_3 := blk_frozen BK415.out 3
   go_upto_region 16 with (first | ((with_reducible refine gate_callee (f := 8) rfl ?_);refine goesL_ (some 36) rfl rfl Tryd.func8 Z253 rfl #[.agg #[.slice Ao18 t402.length co18,.string t405,.slice Ao23 t406.length co23,.slice Ao24 t409.length co24],.int .i64 1] rfl Z173 ?_;(with_reducible refine (laws_markTable.calls kj4 (fun k_ => some k_ = (.slice Ao18 t402.length co18 : Value).ownBlock) (.slice Ao18 t402.length co18) t402 t405 (fun k_ => ((((((((some k_ ≠ (.slice Ao12 t391.length co12 : Value).ownBlock ∧ (some k_ ≠ (.slice Ao13 t394.length co13 : Value).ownBlock ∧ some k_ ≠ (.slice Ao24 t409.length co24 : Value).ownBlock)) ∧ k_ ≠ gb400) ∧ k_ ≠ gb401) ∧ k_ ≠ gb415) ∧ k_ ≠ gb416) ∧ some k_ ≠ (.slice Ao9 t387.length co9 : Value).ownBlock) ∧ some k_ ≠ (.slice Ao18 t402.length co18 : Value).ownBlock)) ∧ (CG_ k_)) (.slice Ao23 t406.length co23) t406 (fun k_ => some k_ = (.slice Ao24 t409.length co24 : Value).ownBlock) (.slice Ao24 t409.length co24) t409 1 t419 t420 t421 t422 w _ ?side1 ?side2 ?side3 ?side4 ?side5 ?side6 A44.out).mono ?_);(case side1 => exact Z264);(case side2 => exact Kd.R_tight rfl HO_416000.out);(case side3 => exact Sc_of <| (Sc_apart' (Sc_apart' (Sc_types (Sc_types (Sc_types (Sc_types HO_416002.out BK400.out Z355) BK401.out Z355) BK415.out Z355) BK416.out Z355) (Kd.R_typed HO_401000.out) Z355) (Kd.R_typed HO_416000.out) Z355));(case side4 => exact fun k_ e_ e2_ => (e_.1.1.1.1.1.1.1.2.2) e2_);(case side5 => exact Kd.R_tight rfl HO_416003.out);(case side6 => exact fun k_ e_ e2_ => (e2_.1.1.1.1.1.1.1.2.2) e_);rintro e w54 ⟨rfl,hy0,hy1,hy2,hb,hkp⟩;have hkpS_ := hkp;replace hkp := Kept.mono hkp (fun k_ h_ => Or.imp_right (Or.imp_left And.left) h_);replace hy1 := Kd.S_mono hy1 (fun _ h_ => h_.1);refine ⟨_,rfl,?_⟩;have n_ := jA (Kd.R_mono (ok' := fun k_ => some k_ ≠ (.slice Ao18 t402.length co18 : Value).ownBlock) (Kd.R_keptB ((Kd.R_apart' (Kd.R_mono (Kd.R_tight2 rfl HO_401000.out) (fun k_ hk => (⟨hk.2,fun hs_ => (hs_.1.2) hk.1⟩ : _ ∧ ¬ ((((((((some k_ ≠ (.slice Ao12 t391.length co12 : Value).ownBlock ∧ (some k_ ≠ (.slice Ao13 t394.length co13 : Value).ownBlock ∧ some k_ ≠ (.slice Ao24 t409.length co24 : Value).ownBlock)) ∧ k_ ≠ gb400) ∧ k_ ≠ gb401) ∧ k_ ≠ gb415) ∧ k_ ≠ gb416) ∧ some k_ ≠ (.slice Ao9 t387.length co9 : Value).ownBlock) ∧ some k_ ≠ (.slice Ao18 t402.length co18 : Value).ownBlock))))) (Kd.R_typed HO_416003.out) Z355)) hkp (fun k_ hk_ hs_ => Or.elim hs_ (fun e_ => (hk_.1.1) e_) (fun e_ => Or.elim e_ (fun e_ => (hk_.1.2) e_) (fun e_ => (hk_.2) e_)))) (fun k_ hk_ => hk_.1.1.1)) (jA (Kd.S_mono (ok' := fun k_ => some k_ ≠ (.slice Ao13 t394.length co13 : Value).ownBlock ∧ some k_ ≠ (.slice Ao23 t406.length co23 : Value).ownBlock ∧ some k_ ≠ (.slice Ao24 t409.length co24 : Value).ownBlock) (Kd.S_keptB (Sc_of (Sc_apart' HO_401002.out (Kd.R_typed HO_416000.out) Z355)) hkpS_ (fun k_ hk_ hs_ => Or.elim hs_ (fun e_ => (hk_.1.2) e_) (fun e_ => Or.elim e_ (fun e_ => hWG_ k_ hk_.2 e_.2) (fun e_ => (hk_.1.1.2.2) e_)))) (fun k_ hk_ => ⟨hk_.1.1.1.1,hk_.1.1.1.2.1,hk_.1.1.1.2.2⟩)) (jA (Kd.R_mono (ok' := fun k_ => some k_ ≠ (.slice Ao24 t409.length co24 : Value).ownBlock) (Kd.R_keptB ((Kd.R_mono (Kd.R_tight2 rfl (Kd.R_apart' HO_401003.out (Kd.R_typed HO_416000.out) Z355)) (fun k_ hk => (⟨hk.2,fun hs_ => (hs_.1.1.1.1.1.1.2.1) hk.1⟩ : _ ∧ ¬ ((((((((some k_ ≠ (.slice Ao12 t391.length co12 : Value).ownBlock ∧ (some k_ ≠ (.slice Ao13 t394.length co13 : Value).ownBlock ∧ some k_ ≠ (.slice Ao24 t409.length co24 : Value).ownBlock)) ∧ k_ ≠ gb400) ∧ k_ ≠ gb401) ∧ k_ ≠ gb415) ∧ k_ ≠ gb416) ∧ some k_ ≠ (.slice Ao9 t387.length co9 : Value).ownBlock) ∧ some k_ ≠ (.slice Ao18 t402.length co18 : Value).ownBlock)))))) hkp (fun k_ hk_ hs_ => Or.elim hs_ (fun e_ => (hk_.1.2) e_) (fun e_ => Or.elim e_ (fun e_ => (hk_.2) e_) (fun e_ => (hk_.1.1) e_)))) (fun k_ hk_ => hk_.1.1.1)) (jA (Kd.R_reok rfl hy0 (fun k_ e_ => HO_416000.out.1 k_ e_)) (jA (hy1) (jA (Kd.R_reok rfl hy2 (fun k_ e_ => HO_416003.out.1 k_ e_)) (jA (blk_kept Z303 hkp (fun hs_ => Or.elim hs_ (fun e_ => (fun e_ => (Kd.R_ne HO_416000.out BK400.out Z355) e_) e_) (fun e_ => Or.elim e_ (fun e_ => (fun e_ => (e_.1.1.1.1.1.2) rfl) e_) (fun e_ => (fun e_ => (Kd.R_ne HO_416003.out BK400.out Z355) e_) e_)))) (jA (blk_kept Z305 hkp (fun hs_ => Or.elim hs_ (fun e_ => (fun e_ => (Kd.R_ne HO_416000.out BK401.out Z355) e_) e_) (fun e_ => Or.elim e_ (fun e_ => (fun e_ => (e_.1.1.1.1.2) rfl) e_) (fun e_ => (fun e_ => (Kd.R_ne HO_416003.out BK401.out Z355) e_) e_)))) (jA (blk_kept Z304 hkp (fun hs_ => Or.elim hs_ (fun e_ => (fun e_ => (Kd.R_ne HO_416000.out BK415.out Z355) e_) e_) (fun e_ => Or.elim e_ (fun e_ => (fun e_ => (e_.1.1.1.2) rfl) e_) (fun e_ => (fun e_ => (Kd.R_ne HO_416003.out BK415.out Z355) e_) e_)))) (jA (blk_kept Z306 hkp (fun hs_ => Or.elim hs_ (fun e_ => (fun e_ => (Kd.R_ne HO_416000.out BK416.out Z355) e_) e_) (fun e_ => Or.elim e_ (fun e_ => (fun e_ => (e_.1.1.2) rfl) e_) (fun e_ => (fun e_ => (Kd.R_ne HO_416003.out BK416.out Z355) e_) e_)))) (Aside0.mk (hb)))))))))));clear HO_401000 HO_401002 HO_401003 HO_416000 HO_416002 HO_416003 BK400 BK401 BK415 BK416 HB;obtain ⟨HO_401000,HO_401002,HO_401003,HO_416000,HO_416002,HO_416003,BK400,BK401,BK415,BK416,HB⟩ := n_;(try clear hb);(try clear hkp);(try clear hy0);(try clear hy1);(try clear hy2);have hcz55_0 : w54.cell? ⟨gb415,0,none⟩ = some (.slice Ao18 t402.length co18) := bc BK415 0;have hcz55_1 : w54.cell? ⟨gb415,1,none⟩ = some (.string t405) := bc BK415 1;have hcz55_2 : w54.cell? ⟨gb415,2,none⟩ = some (.slice Ao23 t406.length co23) := bc BK415 2;have hcz55_3 : w54.cell? ⟨gb415,3,none⟩ = some (.slice Ao24 t409.length co24) := bc BK415 3;have hfz55_0 := blk_frozen BK415.out 0;have hfz55_1 := blk_frozen BK415.out 1;have hfz55_2 := blk_frozen BK415.out 2;have hfz55_3 := blk_frozen BK415.out 3) | ((with_reducible refine gate_callee (f := 9) rfl ?_);refine goesL_ (some 39) rfl rfl Tryd.func9 Z253 rfl #[.agg #[.slice Ao18 t420.length co18,.string t405,.slice Ao23 t421.length co23,.slice Ao24 t422.length co24],.int .i64 1] rfl (by (try simp only [List.map_toArray,List.map_cons,List.map_nil]);first | done | (rw [show t420.length = t402.length from (Kd.R_reads' HO_416000.out).1.symm,show t421.length = t406.length from (Kd.S_reads' HO_416002.out).1.symm,show t422.length = t409.length from (Kd.R_reads' HO_416003.out).1.symm] <;> rfl) | rfl | (simp only [List.length_drop,List.length_take];rfl)) ?_;(with_reducible refine (laws_heldTable.calls kj4 _ _ t420 t405 _ _ t421 _ _ t422 1 t423 _ ?side1 ?side2 ?side3 ?side4 ?side5 ?side6 A45.out).mono ?_);(case side1 => exact Z132);(case side2 => rw [show t420.length = t402.length from (Kd.R_reads' HO_416000.out).1.symm];exact (Kd.R_reads' HO_416000.out).2.1);(case side3 => exact Z130);(case side4 => rw [show t421.length = t406.length from (Kd.S_reads' HO_416002.out).1.symm];exact (Kd.S_reads' HO_416002.out).2.1);(case side5 => exact Z131);(case side6 => rw [show t422.length = t409.length from (Kd.R_reads' HO_416003.out).1.symm];exact (Kd.R_reads' HO_416003.out).2.1);rintro e w56 ⟨rfl,hb⟩;refine ⟨_,rfl,?_⟩;have n_ := jA (Kd.R_below Z191 hb) (jA (Kd.S_below Z193 hb) (jA (Kd.R_below Z189 hb) (jA (Kd.R_below Z190 hb) (jA (Kd.S_below Z192 hb) (jA (Kd.R_below Z188 hb) (jA (blk_below (g := gb400) (o := .cells #[.slice Ao9 t387.length co9,.string t390,.slice Ao12 t391.length co12,.slice Ao13 t394.length co13] 26 (0,0)) Z303 hb) (jA (blk_below (g := gb401) (o := .cells #[.int .i64 t397,.int .i64 t398,.int .i64 t399] 28 (0,0)) Z305 hb) (jA (blk_below (g := gb415) (o := .cells #[.slice Ao18 t402.length co18,.string t405,.slice Ao23 t406.length co23,.slice Ao24 t409.length co24] 26 (0,0)) Z304 hb) (jA (blk_below (g := gb416) (o := .cells #[.int .i64 t412,.int .i64 t413,.int .i64 t414] 28 (0,0)) Z306 hb) (Aside0.mk (below_step Z264 hb)))))))))));clear HO_401000 HO_401002 HO_401003 HO_416000 HO_416002 HO_416003 BK400 BK401 BK415 BK416 HB;obtain ⟨HO_401000,HO_401002,HO_401003,HO_416000,HO_416002,HO_416003,BK400,BK401,BK415,BK416,HB⟩ := n_;(try clear hb);(try clear hb2);(try clear hk);(try clear hi)) | ((with_reducible refine gate_callee (f := 5) rfl ?_);refine goesL_ (some 47) rfl rfl Tryd.func5 Z253 rfl #[.string a0] rfl Z173 ?_;(with_reducible refine (impl_ReadTable.calls kj4 a0 t424 t427 t428 t431 t434 t435 t436 _ ?side1 A48.out).mono ?_);(case side1 => exact GT_below HG.out Z264);rintro e w57 ⟨v425,v429,v432,rfl,ho0,ho1,ho2,hb⟩;refine ⟨_,rfl,?_⟩;have n_ := jA (Kd.R_elder' Z191 (Kd.R_base ho0) hb) (jA (Kd.S_mono (Kd.S_told (Kd.S_told (Kd.S_old Z193 hb) (Kd.S_base ho1)) (Kd.R_base ho2)) (fun _ h_ => h_.1)) (jA (Kd.R_elder' Z189 (Kd.R_base ho2) hb) (jA (Kd.R_elder' Z190 (Kd.R_base ho0) hb) (jA (Kd.S_mono (Kd.S_told (Kd.S_told (Kd.S_old Z192 hb) (Kd.S_base ho1)) (Kd.R_base ho2)) (fun _ h_ => h_.1)) (jA (Kd.R_elder' Z188 (Kd.R_base ho2) hb) (jA (Kd.R_lower (Kd.R_new' (Kd.R_new' ho0 (Kd.R_lt Z191)) (Kd.R_lt Z190)) (below_size Z264)) (jA (Kd.S_lower (Kd.S_new' (Kd.S_new' (Kd.S_new' (Kd.S_new' ho1 (Kd.S_lt Z193)) (Kd.R_lt Z189)) (Kd.S_lt Z192)) (Kd.R_lt Z188)) (below_size Z264)) (jA (Kd.R_lower (Kd.R_new' (Kd.R_new' ho2 (Kd.R_lt Z189)) (Kd.R_lt Z188)) (below_size Z264)) (jA (blk_below (g := gb400) (o := .cells #[.slice Ao9 t387.length co9,.string t390,.slice Ao12 t391.length co12,.slice Ao13 t394.length co13] 26 (0,0)) Z303 hb) (jA (blk_below (g := gb401) (o := .cells #[.int .i64 t397,.int .i64 t398,.int .i64 t399] 28 (0,0)) Z305 hb) (jA (blk_below (g := gb415) (o := .cells #[.slice Ao18 t402.length co18,.string t405,.slice Ao23 t406.length co23,.slice Ao24 t409.length co24] 26 (0,0)) Z304 hb) (jA (blk_below (g := gb416) (o := .cells #[.int .i64 t412,.int .i64 t413,.int .i64 t414] 28 (0,0)) Z306 hb) (Aside0.mk (below_step Z264 hb))))))))))))));clear HO_401000 HO_401002 HO_401003 HO_416000 HO_416002 HO_416003 BK400 BK401 BK415 BK416 HB;obtain ⟨HO_401000,HO_401002,HO_401003,HO_416000,HO_416002,HO_416003,HO426,HO430,HO433,BK400,BK401,BK415,BK416,HB⟩ := n_;(try clear hb);(try clear hb2);(try clear hk);(try clear hi);(try clear ho0);(try clear ho1);(try clear ho2)) | ((with_reducible refine gate_dst (N := 9) rfl ?_);refine bE 9 #[.slice none 0 0,.string (⟨#[]⟩ : ByteArray),.slice none 0 0,.slice none 0 0] 26 (h := ?_);intro gb437 hg w58 hbox hb;have n_ := jA (Kd.R_below Z191 hb) (jA (Kd.S_below Z193 hb) (jA (Kd.R_below Z189 hb) (jA (Kd.R_below Z190 hb) (jA (Kd.S_below Z192 hb) (jA (Kd.R_below Z188 hb) (jA (Kd.R_below Z203 hb) (jA (Kd.S_below Z201 hb) (jA (Kd.R_below Z202 hb) (jA (blk_below (g := gb400) (o := .cells #[.slice Ao9 t387.length co9,.string t390,.slice Ao12 t391.length co12,.slice Ao13 t394.length co13] 26 (0,0)) Z303 hb) (jA (blk_below (g := gb401) (o := .cells #[.int .i64 t397,.int .i64 t398,.int .i64 t399] 28 (0,0)) Z305 hb) (jA (blk_below (g := gb415) (o := .cells #[.slice Ao18 t402.length co18,.string t405,.slice Ao23 t406.length co23,.slice Ao24 t409.length co24] 26 (0,0)) Z304 hb) (jA (blk_below (g := gb416) (o := .cells #[.int .i64 t412,.int .i64 t413,.int .i64 t414] 28 (0,0)) Z306 hb) (jA (below_step Z264 hb) (jA (hbox) (jA ((Z93 : w.heap.size ≤ gb437)) (jA ((Z93 : w.heap.size ≤ gb437)) (jA ((Z91 : gb400 ≠ gb437)) (jA ((Z92 : gb437 ≠ gb400)) (jA ((Z109 : gb401 ≠ gb437)) (jA ((Z110 : gb437 ≠ gb401)) (jA ((Z89 : gb415 ≠ gb437)) (jA ((Z90 : gb437 ≠ gb415)) (jA ((Z111 : gb416 ≠ gb437)) (Aside0.mk ((Z112 : gb437 ≠ gb416))))))))))))))))))))))))));clear HO_401000 HO_401002 HO_401003 HO_416000 HO_416002 HO_416003 HO426 HO430 HO433 BK400 BK401 BK415 BK416 HB;obtain ⟨HO_401000,HO_401002,HO_401003,HO_416000,HO_416002,HO_416003,HO426,HO430,HO433,BK400,BK401,BK415,BK416,HB,BK437,GW437,GE437,NB400_437,NB437_400,NB401_437,NB437_401,NB415_437,NB437_415,NB416_437,NB437_416⟩ := n_;clear hb hbox hg) | ((with_reducible refine gate_dst (N := 10) rfl ?_);refine bE 10 #[.int .i64 0,.int .i64 0,.int .i64 0] 28 (h := ?_);intro gb438 hg w59 hbox hb;have n_ := jA (Kd.R_below Z191 hb) (jA (Kd.S_below Z193 hb) (jA (Kd.R_below Z189 hb) (jA (Kd.R_below Z190 hb) (jA (Kd.S_below Z192 hb) (jA (Kd.R_below Z188 hb) (jA (Kd.R_below Z203 hb) (jA (Kd.S_below Z201 hb) (jA (Kd.R_below Z202 hb) (jA (blk_below (g := gb400) (o := .cells #[.slice Ao9 t387.length co9,.string t390,.slice Ao12 t391.length co12,.slice Ao13 t394.length co13] 26 (0,0)) Z303 hb) (jA (blk_below (g := gb401) (o := .cells #[.int .i64 t397,.int .i64 t398,.int .i64 t399] 28 (0,0)) Z305 hb) (jA (blk_below (g := gb415) (o := .cells #[.slice Ao18 t402.length co18,.string t405,.slice Ao23 t406.length co23,.slice Ao24 t409.length co24] 26 (0,0)) Z304 hb) (jA (blk_below (g := gb416) (o := .cells #[.int .i64 t412,.int .i64 t413,.int .i64 t414] 28 (0,0)) Z306 hb) (jA (blk_below (g := gb437) (o := .cells #[.slice none 0 0,.string (⟨#[]⟩ : ByteArray),.slice none 0 0,.slice none 0 0] 26 (0,0)) Z182 hb) (jA (below_step Z261 hb) (jA (hbox) (jA ((Z79 : w.heap.size ≤ gb438)) (jA ((Z79 : w.heap.size ≤ gb438)) (jA ((Z91 : gb400 ≠ gb438)) (jA ((Z92 : gb438 ≠ gb400)) (jA ((Z109 : gb401 ≠ gb438)) (jA ((Z110 : gb438 ≠ gb401)) (jA ((Z89 : gb415 ≠ gb438)) (jA ((Z90 : gb438 ≠ gb415)) (jA ((Z111 : gb416 ≠ gb438)) (jA ((Z112 : gb438 ≠ gb416)) (jA ((by rw [hg];exact Nat.ne_of_lt (blk_lt (g := gb437) (o := .cells #[.slice none 0 0,.string (⟨#[]⟩ : ByteArray),.slice none 0 0,.slice none 0 0] 26 (0,0)) Z182) : gb437 ≠ gb438)) (Aside0.mk ((by rw [hg];exact Nat.ne_of_gt (blk_lt (g := gb437) (o := .cells #[.slice none 0 0,.string (⟨#[]⟩ : ByteArray),.slice none 0 0,.slice none 0 0] 26 (0,0)) Z182) : gb438 ≠ gb437)))))))))))))))))))))))))))));clear HO_401000 HO_401002 HO_401003 HO_416000 HO_416002 HO_416003 HO426 HO430 HO433 BK400 BK401 BK415 BK416 BK437 HB;obtain ⟨HO_401000,HO_401002,HO_401003,HO_416000,HO_416002,HO_416003,HO426,HO430,HO433,BK400,BK401,BK415,BK416,BK437,HB,BK438,GW438,GE438,NB400_438,NB438_400,NB401_438,NB438_401,NB415_438,NB438_415,NB416_438,NB438_416,NB437_438,NB438_437⟩ := n_;clear hb hbox hg;obtain ⟨Ao60,co60,eo60⟩ := Kd.R_slice HO426.out;subst eo60;have hnb61 := NB437_400.out;have hnc61 := NB400_437.out;have hnb62 := NB437_401.out;have hnc62 := NB401_437.out;have hnb63 := NB437_415.out;have hnc63 := NB415_437.out;have hnb64 := NB437_416.out;have hnc64 := NB416_437.out;have hnb65 := NB437_438.out;have hnc65 := NB438_437.out;have hcz66_0 : w59.cell? ⟨gb437,0,none⟩ = some (.slice none 0 0) := bc BK437 0;have hcz66_1 : w59.cell? ⟨gb437,1,none⟩ = some (.string (⟨#[]⟩ : ByteArray)) := bc BK437 1;have hcz66_2 : w59.cell? ⟨gb437,2,none⟩ = some (.slice none 0 0) := bc BK437 2;have hcz66_3 : w59.cell? ⟨gb437,3,none⟩ = some (.slice none 0 0) := bc BK437 3;have hfz66_0 := blk_frozen BK437.out 0;have hfz66_1 := blk_frozen BK437.out 1;have hfz66_2 := blk_frozen BK437.out 2;have hfz66_3 := blk_frozen BK437.out 3;obtain ⟨Ao67,co67,eo67⟩ := Kd.S_slice HO430.out;subst eo67;obtain ⟨Ao68,co68,eo68⟩ := Kd.R_slice HO433.out;subst eo68;have hnb69 := NB438_400.out;have hnc69 := NB400_438.out;have hnb70 := NB438_401.out;have hnc70 := NB401_438.out;have hnb71 := NB438_415.out;have hnc71 := NB415_438.out;have hnb72 := NB438_416.out;have hnc72 := NB416_438.out;have hcz73_0 : w59.cell? ⟨gb438,0,none⟩ = some (.int .i64 0) := bc BK438 0;have hcz73_1 : w59.cell? ⟨gb438,1,none⟩ = some (.int .i64 0) := bc BK438 1;have hcz73_2 : w59.cell? ⟨gb438,2,none⟩ = some (.int .i64 0) := bc BK438 2;have hfz73_0 := blk_frozen BK438.out 0;have hfz73_1 := blk_frozen BK438.out 1;have hfz73_2 := blk_frozen BK438.out 2))
   (try simp only [Act.put,List.setIfInBounds_toArray,List.set_cons_zero,List.set_cons_succ])
   go_cut [59] (fun v59 wc => ∃ (kq : Nat) (x59_48 : Bool),v59 = .bool x59_48 ∧ Aside0 (laws_FnExactReadTable.j1 kq t419 x59_48 t420 t405 t421 t422 = some r) ∧ Aside0 (kq ≤ kj4) ∧ Aside0 (Kd.R Kd.string 9 wc w.heap.size (fun k_ => some k_ ≠ ((.slice Ao18 t402.length co18) : Value).ownBlock ∧ some k_ ≠ ((.slice Ao60 t424.length co60) : Value).ownBlock) (.slice Ao9 t387.length co9) t387) ∧ Aside0 (Kd.S (Kd.slice 3 (Kd.int .i64)) 24 wc w.heap.size (fun k_ => some k_ ≠ ((.slice Ao13 t394.length co13) : Value).ownBlock ∧ some k_ ≠ ((.slice Ao23 t406.length co23) : Value).ownBlock ∧ some k_ ≠ ((.slice Ao24 t409.length co24) : Value).ownBlock ∧ some k_ ≠ ((.slice Ao67 t428.length co67) : Value).ownBlock ∧ some k_ ≠ ((.slice Ao68 t431.length co68) : Value).ownBlock) (.slice Ao12 t391.length co12) t391) ∧ Aside0 (Kd.R (Kd.int .i64) 3 wc w.heap.size (fun k_ => some k_ ≠ ((.slice Ao24 t409.length co24) : Value).ownBlock ∧ some k_ ≠ ((.slice Ao68 t431.length co68) : Value).ownBlock) (.slice Ao13 t394.length co13) t394) ∧ Aside0 (Kd.R Kd.string 9 wc w.heap.size (fun k_ => some k_ ≠ ((.slice Ao9 t387.length co9) : Value).ownBlock ∧ some k_ ≠ ((.slice Ao60 t424.length co60) : Value).ownBlock) (.slice Ao18 t402.length co18) t420) ∧ Aside0 (Kd.S (Kd.slice 3 (Kd.int .i64)) 24 wc w.heap.size (fun k_ => some k_ ≠ ((.slice Ao12 t391.length co12) : Value).ownBlock ∧ some k_ ≠ ((.slice Ao13 t394.length co13) : Value).ownBlock ∧ some k_ ≠ ((.slice Ao24 t409.length co24) : Value).ownBlock ∧ some k_ ≠ ((.slice Ao67 t428.length co67) : Value).ownBlock ∧ some k_ ≠ ((.slice Ao68 t431.length co68) : Value).ownBlock) (.slice Ao23 t406.length co23) t421) ∧ Aside0 (Kd.R (Kd.int .i64) 3 wc w.heap.size (fun k_ => some k_ ≠ ((.slice Ao13 t394.length co13) : Value).ownBlock ∧ some k_ ≠ ((.slice Ao68 t431.length co68) : Value).ownBlock) (.slice Ao24 t409.length co24) t422) ∧ Aside0 (Kd.R Kd.string 9 wc w.heap.size (fun k_ => some k_ ≠ ((.slice Ao9 t387.length co9) : Value).ownBlock ∧ some k_ ≠ ((.slice Ao18 t402.length co18) : Value).ownBlock) (.slice Ao60 t424.length co60) t424) ∧ Aside0 (Kd.S (Kd.slice 3 (Kd.int .i64)) 24 wc w.heap.size (fun k_ => some k_ ≠ ((.slice Ao12 t391.length co12) : Value).ownBlock ∧ some k_ ≠ ((.slice Ao13 t394.length co13) : Value).ownBlock ∧ some k_ ≠ ((.slice Ao23 t406.length co23) : Value).ownBlock ∧ some k_ ≠ ((.slice Ao24 t409.length co24) : Value).ownBlock ∧ some k_ ≠ ((.slice Ao68 t431.length co68) : Value).ownBlock) (.slice Ao67 t428.length co67) t428) ∧ Aside0 (Kd.R (Kd.int .i64) 3 wc w.heap.size (fun k_ => some k_ ≠ ((.slice Ao13 t394.length co13) : Value).ownBlock ∧ some k_ ≠ ((.slice Ao24 t409.length co24) : Value).ownBlock) (.slice Ao68 t431.length co68) t431) ∧ Aside0 (wc.heap[gb400]? = some (.cells #[(.slice Ao9 t387.length co9),.string t390,(.slice Ao12 t391.length co12),(.slice Ao13 t394.length co13)] 26 (0,0))) ∧ Aside0 (wc.heap[gb401]? = some (.cells #[.int .i64 t397,.int .i64 t398,.int .i64 t399] 28 (0,0))) ∧ Aside0 (wc.heap[gb415]? = some (.cells #[(.slice Ao18 t402.length co18),.string t405,(.slice Ao23 t406.length co23),(.slice Ao24 t409.length co24)] 26 (0,0))) ∧ Aside0 (wc.heap[gb416]? = some (.cells #[.int .i64 t412,.int .i64 t413,.int .i64 t414] 28 (0,0))) ∧ Aside0 (wc.heap[gb437]? = some (.cells #[(.slice Ao60 t424.length co60),.string t427,(.slice Ao67 t428.length co67),(.slice Ao68 t431.length co68)] 26 (0,0))) ∧ Aside0 (wc.heap[gb438]? = some (.cells #[.int .i64 t434,.int .i64 t435,.int .i64 t436] 28 (0,0))) ∧ Aside0 (Below w.heap.size w wc))
   case first =>
    have H := HC49.out
    clear HC49
    obtain ⟨t439,A740,H⟩ := Option.bind_eq_some_iff.mp H
    have A74 := Aside0.mk A740
    clear A740
    by_cases c75 : t439 = true
    rotate_left
    ·replace c75 := Bool.eq_false_iff.mpr c75
     subst c75
     rw [if_neg Bool.false_ne_true] at H
     exact absurd ((laws_FnExactReadTable.j1_stop H).symm.trans HRT.out) Z355
    subst c75
    rw [if_pos rfl] at H
    obtain ⟨t440,A760,H⟩ := Option.bind_eq_some_iff.mp H
    have A76 := Aside0.mk A760
    clear A760
    have H' := Aside0.mk H
    clear H
    have hnb77 := NB437_400.out
    have hnc77 := NB400_437.out
    have hnb78 := NB437_401.out
    have hnc78 := NB401_437.out
    have hnb79 := NB437_415.out
    have hnc79 := NB415_437.out
    have hnb80 := NB437_416.out
    have hnc80 := NB416_437.out
    have hnb81 := NB437_438.out
    have hnc81 := NB438_437.out
    have hcz82_0 : w59.cell? ⟨gb437,0,none⟩ = some (.slice none 0 0) := bc BK437 0
    have hcz82_1 : w59.cell? ⟨gb437,1,none⟩ = some (.string (⟨#[]⟩ : ByteArray)) := bc BK437 1
    have hcz82_2 : w59.cell? ⟨gb437,2,none⟩ = some (.slice none 0 0) := bc BK437 2
    have hcz82_3 : w59.cell? ⟨gb437,3,none⟩ = some (.slice none 0 0) := bc BK437 3
    have hfz82_0 := blk_frozen BK437.out 0
    have hfz82_1 := blk_frozen BK437.out 1
    have hfz82_2 := blk_frozen BK437.out 2
    have hfz82_3 := blk_frozen BK437.out 3
    have hnb83 := NB400_401.out
    have hnc83 := NB401_400.out
    have hnb84 := NB400_415.out
    have hnc84 := NB415_400.out
    have hnb85 := NB400_416.out
    have hnc85 := NB416_400.out
    have hnb86 := NB400_438.out
    have hnc86 := NB438_400.out
    have hcz87_0 : w59.cell? ⟨gb400,0,none⟩ = some (.slice Ao9 t387.length co9) := bc BK400 0
    have hcz87_1 : w59.cell? ⟨gb400,1,none⟩ = some (.string t390) := bc BK400 1
    have hcz87_2 : w59.cell? ⟨gb400,2,none⟩ = some (.slice Ao12 t391.length co12) := bc BK400 2
    have hcz87_3 : w59.cell? ⟨gb400,3,none⟩ = some (.slice Ao13 t394.length co13) := bc BK400 3
    have hfz87_0 := blk_frozen BK400.out 0
    have hfz87_1 := blk_frozen BK400.out 1
    have hfz87_2 := blk_frozen BK400.out 2
    have hfz87_3 := blk_frozen BK400.out 3
    go_wp2_with (first | ((with_reducible refine gate_callee (f := 6) rfl ?_);refine goesL_ (some 52) rfl rfl Tryd.func6 Z253 rfl #[.agg #[.slice Ao60 t424.length co60,.string t427,.slice Ao67 t428.length co67,.slice Ao68 t431.length co68],.agg #[.slice Ao9 t387.length co9,.string t390,.slice Ao12 t391.length co12,.slice Ao13 t394.length co13]] rfl Z173 ?_;(with_reducible refine (laws_eqTable.calls kj4 _ _ t424 t427 _ _ t428 _ _ t431 _ _ t387 t390 _ _ t391 _ _ t394 true _ ?side1 ?side2 ?side3 ?side4 ?side5 ?side6 ?side7 ?side8 ?side9 ?side10 ?side11 ?side12 A74.out).mono ?_);(case side1 => refine (Kd.R_reads' (e := 9) (base := w.heap.size) (ok := fun k_ => ((True ∧ some k_ ≠ (.slice Ao9 t387.length co9 : Value).ownBlock) ∧ some k_ ≠ (.slice Ao18 t402.length co18 : Value).ownBlock)) (n := t424.length) (c := co60) ?_).2.2;exact Z25);(case side2 => exact (Kd.R_reads' HO426.out).2.1);(case side3 => refine (Kd.S_reads' (e := 24) (base := w.heap.size) (ok := fun k_ => ((((some k_ ≠ (.slice Ao68 t431.length co68 : Value).ownBlock ∧ some k_ ≠ (.slice Ao12 t391.length co12 : Value).ownBlock) ∧ some k_ ≠ (.slice Ao13 t394.length co13 : Value).ownBlock) ∧ some k_ ≠ (.slice Ao23 t406.length co23 : Value).ownBlock) ∧ some k_ ≠ (.slice Ao24 t409.length co24 : Value).ownBlock)) (n := t428.length) (c := co67) ?_).2.2;exact Z23);(case side4 => exact (Kd.S_reads' HO430.out).2.1);(case side5 => refine (Kd.R_reads' (e := 3) (base := w.heap.size) (ok := fun k_ => ((True ∧ some k_ ≠ (.slice Ao13 t394.length co13 : Value).ownBlock) ∧ some k_ ≠ (.slice Ao24 t409.length co24 : Value).ownBlock)) (n := t431.length) (c := co68) ?_).2.2;exact Z24);(case side6 => exact (Kd.R_reads' HO433.out).2.1);(case side7 => refine (Kd.R_reads' (e := 9) (base := w.heap.size) (ok := fun k_ => (some k_ ≠ (.slice Ao18 t402.length co18 : Value).ownBlock ∧ some k_ ≠ (.slice Ao60 t424.length co60 : Value).ownBlock)) (n := t387.length) (c := co9) ?_).2.2;exact Z22);(case side8 => exact (Kd.R_reads' HO_401000.out).2.1);(case side9 => refine (Kd.S_reads' (e := 24) (base := w.heap.size) (ok := fun k_ => (((some k_ ≠ (.slice Ao13 t394.length co13 : Value).ownBlock ∧ (some k_ ≠ (.slice Ao23 t406.length co23 : Value).ownBlock ∧ some k_ ≠ (.slice Ao24 t409.length co24 : Value).ownBlock)) ∧ some k_ ≠ (.slice Ao67 t428.length co67 : Value).ownBlock) ∧ some k_ ≠ (.slice Ao68 t431.length co68 : Value).ownBlock)) (n := t391.length) (c := co12) ?_).2.2;exact Z20);(case side10 => exact (Kd.S_reads' HO_401002.out).2.1);(case side11 => refine (Kd.R_reads' (e := 3) (base := w.heap.size) (ok := fun k_ => (some k_ ≠ (.slice Ao24 t409.length co24 : Value).ownBlock ∧ some k_ ≠ (.slice Ao68 t431.length co68 : Value).ownBlock)) (n := t394.length) (c := co13) ?_).2.2;exact Z21);(case side12 => exact (Kd.R_reads' HO_401003.out).2.1);rintro e w88 ⟨rfl,hb⟩;refine ⟨_,rfl,?_⟩;have n_ := jA (Kd.R_below Z22 hb) (jA (Kd.S_below Z20 hb) (jA (Kd.R_below Z21 hb) (jA (Kd.R_below (by (with_reducible repeat (first | apply Kd.R_alloc | apply Kd.R_drewN | apply Kd.R_drew));exact (Kd.R_mono (Kd.R_mono (Kd.R_far (p := ⟨gb438,2,none⟩) (Kd.R_far (p := ⟨gb438,1,none⟩) (Kd.R_far (p := ⟨gb438,0,none⟩) (Kd.R_far (p := ⟨gb437,3,none⟩) (Kd.R_far (p := ⟨gb437,2,none⟩) (Kd.R_far (p := ⟨gb437,1,none⟩) (Kd.R_far (p := ⟨gb437,0,none⟩) (Kd.R_types (Kd.R_types HO_416000.out BK437.out Z355) BK438.out Z355) (fun _ hk => hk.1.2) (.slice Ao60 t424.length co60)) (fun _ hk => hk.1.2) (.string t427)) (fun _ hk => hk.1.2) (.slice Ao67 t428.length co67)) (fun _ hk => hk.1.2) (.slice Ao68 t431.length co68)) (fun _ hk => hk.2) (.int .i64 t434)) (fun _ hk => hk.2) (.int .i64 t435)) (fun _ hk => hk.2) (.int .i64 t436)) (fun _ h_ => h_.1)) (fun _ h_ => h_.1))) hb) (jA (Kd.S_below (by (with_reducible repeat (first | apply Kd.S_alloc | apply Kd.S_drewN | apply Kd.S_drew));exact (Kd.S_mono (Kd.S_mono (Kd.S_far (p := ⟨gb438,2,none⟩) (Kd.S_far (p := ⟨gb438,1,none⟩) (Kd.S_far (p := ⟨gb438,0,none⟩) (Kd.S_far (p := ⟨gb437,3,none⟩) (Kd.S_far (p := ⟨gb437,2,none⟩) (Kd.S_far (p := ⟨gb437,1,none⟩) (Kd.S_far (p := ⟨gb437,0,none⟩) (Kd.S_types (Kd.S_types HO_416002.out BK437.out Z355) BK438.out Z355) (fun _ hk => hk.1.2) (.slice Ao60 t424.length co60)) (fun _ hk => hk.1.2) (.string t427)) (fun _ hk => hk.1.2) (.slice Ao67 t428.length co67)) (fun _ hk => hk.1.2) (.slice Ao68 t431.length co68)) (fun _ hk => hk.2) (.int .i64 t434)) (fun _ hk => hk.2) (.int .i64 t435)) (fun _ hk => hk.2) (.int .i64 t436)) (fun _ h_ => h_.1)) (fun _ h_ => h_.1))) hb) (jA (Kd.R_below (by (with_reducible repeat (first | apply Kd.R_alloc | apply Kd.R_drewN | apply Kd.R_drew));exact (Kd.R_mono (Kd.R_mono (Kd.R_far (p := ⟨gb438,2,none⟩) (Kd.R_far (p := ⟨gb438,1,none⟩) (Kd.R_far (p := ⟨gb438,0,none⟩) (Kd.R_far (p := ⟨gb437,3,none⟩) (Kd.R_far (p := ⟨gb437,2,none⟩) (Kd.R_far (p := ⟨gb437,1,none⟩) (Kd.R_far (p := ⟨gb437,0,none⟩) (Kd.R_types (Kd.R_types HO_416003.out BK437.out Z355) BK438.out Z355) (fun _ hk => hk.1.2) (.slice Ao60 t424.length co60)) (fun _ hk => hk.1.2) (.string t427)) (fun _ hk => hk.1.2) (.slice Ao67 t428.length co67)) (fun _ hk => hk.1.2) (.slice Ao68 t431.length co68)) (fun _ hk => hk.2) (.int .i64 t434)) (fun _ hk => hk.2) (.int .i64 t435)) (fun _ hk => hk.2) (.int .i64 t436)) (fun _ h_ => h_.1)) (fun _ h_ => h_.1))) hb) (jA (Kd.R_below Z25 hb) (jA (Kd.S_below Z23 hb) (jA (Kd.R_below Z24 hb) (jA (blk_below (g := gb400) (o := .cells #[.slice Ao9 t387.length co9,.string t390,.slice Ao12 t391.length co12,.slice Ao13 t394.length co13] 26 (0,0)) (by (with_reducible repeat (first | refine blk_drewN ?_ _ | refine blk_drew ?_ | refine blk_alloc ?_ _));refine blk_far ?_ NB400_438.out _;(with_reducible repeat (first | refine blk_drewN ?_ _ | refine blk_drew ?_ | refine blk_alloc ?_ _));refine blk_far ?_ NB400_438.out _;(with_reducible repeat (first | refine blk_drewN ?_ _ | refine blk_drew ?_ | refine blk_alloc ?_ _));refine blk_far ?_ NB400_438.out _;(with_reducible repeat (first | refine blk_drewN ?_ _ | refine blk_drew ?_ | refine blk_alloc ?_ _));refine blk_far ?_ NB400_437.out _;(with_reducible repeat (first | refine blk_drewN ?_ _ | refine blk_drew ?_ | refine blk_alloc ?_ _));refine blk_far ?_ NB400_437.out _;(with_reducible repeat (first | refine blk_drewN ?_ _ | refine blk_drew ?_ | refine blk_alloc ?_ _));refine blk_far ?_ NB400_437.out _;(with_reducible repeat (first | refine blk_drewN ?_ _ | refine blk_drew ?_ | refine blk_alloc ?_ _));refine blk_far ?_ NB400_437.out _;(with_reducible repeat (first | refine blk_drewN ?_ _ | refine blk_drew ?_ | refine blk_alloc ?_ _));exact BK400.out) hb) (jA (blk_below (g := gb401) (o := .cells #[.int .i64 t397,.int .i64 t398,.int .i64 t399] 28 (0,0)) (by (with_reducible repeat (first | refine blk_drewN ?_ _ | refine blk_drew ?_ | refine blk_alloc ?_ _));refine blk_far ?_ NB401_438.out _;(with_reducible repeat (first | refine blk_drewN ?_ _ | refine blk_drew ?_ | refine blk_alloc ?_ _));refine blk_far ?_ NB401_438.out _;(with_reducible repeat (first | refine blk_drewN ?_ _ | refine blk_drew ?_ | refine blk_alloc ?_ _));refine blk_far ?_ NB401_438.out _;(with_reducible repeat (first | refine blk_drewN ?_ _ | refine blk_drew ?_ | refine blk_alloc ?_ _));refine blk_far ?_ NB401_437.out _;(with_reducible repeat (first | refine blk_drewN ?_ _ | refine blk_drew ?_ | refine blk_alloc ?_ _));refine blk_far ?_ NB401_437.out _;(with_reducible repeat (first | refine blk_drewN ?_ _ | refine blk_drew ?_ | refine blk_alloc ?_ _));refine blk_far ?_ NB401_437.out _;(with_reducible repeat (first | refine blk_drewN ?_ _ | refine blk_drew ?_ | refine blk_alloc ?_ _));refine blk_far ?_ NB401_437.out _;(with_reducible repeat (first | refine blk_drewN ?_ _ | refine blk_drew ?_ | refine blk_alloc ?_ _));exact BK401.out) hb) (jA (blk_below (g := gb415) (o := .cells #[.slice Ao18 t402.length co18,.string t405,.slice Ao23 t406.length co23,.slice Ao24 t409.length co24] 26 (0,0)) (by (with_reducible repeat (first | refine blk_drewN ?_ _ | refine blk_drew ?_ | refine blk_alloc ?_ _));refine blk_far ?_ NB415_438.out _;(with_reducible repeat (first | refine blk_drewN ?_ _ | refine blk_drew ?_ | refine blk_alloc ?_ _));refine blk_far ?_ NB415_438.out _;(with_reducible repeat (first | refine blk_drewN ?_ _ | refine blk_drew ?_ | refine blk_alloc ?_ _));refine blk_far ?_ NB415_438.out _;(with_reducible repeat (first | refine blk_drewN ?_ _ | refine blk_drew ?_ | refine blk_alloc ?_ _));refine blk_far ?_ NB415_437.out _;(with_reducible repeat (first | refine blk_drewN ?_ _ | refine blk_drew ?_ | refine blk_alloc ?_ _));refine blk_far ?_ NB415_437.out _;(with_reducible repeat (first | refine blk_drewN ?_ _ | refine blk_drew ?_ | refine blk_alloc ?_ _));refine blk_far ?_ NB415_437.out _;(with_reducible repeat (first | refine blk_drewN ?_ _ | refine blk_drew ?_ | refine blk_alloc ?_ _));refine blk_far ?_ NB415_437.out _;(with_reducible repeat (first | refine blk_drewN ?_ _ | refine blk_drew ?_ | refine blk_alloc ?_ _));exact BK415.out) hb) (jA (blk_below (g := gb416) (o := .cells #[.int .i64 t412,.int .i64 t413,.int .i64 t414] 28 (0,0)) (by (with_reducible repeat (first | refine blk_drewN ?_ _ | refine blk_drew ?_ | refine blk_alloc ?_ _));refine blk_far ?_ NB416_438.out _;(with_reducible repeat (first | refine blk_drewN ?_ _ | refine blk_drew ?_ | refine blk_alloc ?_ _));refine blk_far ?_ NB416_438.out _;(with_reducible repeat (first | refine blk_drewN ?_ _ | refine blk_drew ?_ | refine blk_alloc ?_ _));refine blk_far ?_ NB416_438.out _;(with_reducible repeat (first | refine blk_drewN ?_ _ | refine blk_drew ?_ | refine blk_alloc ?_ _));refine blk_far ?_ NB416_437.out _;(with_reducible repeat (first | refine blk_drewN ?_ _ | refine blk_drew ?_ | refine blk_alloc ?_ _));refine blk_far ?_ NB416_437.out _;(with_reducible repeat (first | refine blk_drewN ?_ _ | refine blk_drew ?_ | refine blk_alloc ?_ _));refine blk_far ?_ NB416_437.out _;(with_reducible repeat (first | refine blk_drewN ?_ _ | refine blk_drew ?_ | refine blk_alloc ?_ _));refine blk_far ?_ NB416_437.out _;(with_reducible repeat (first | refine blk_drewN ?_ _ | refine blk_drew ?_ | refine blk_alloc ?_ _));exact BK416.out) hb) (jA (blk_below (g := gb437) (o := .cells #[.slice Ao60 t424.length co60,.string t427,.slice Ao67 t428.length co67,.slice Ao68 t431.length co68] 26 (0,0)) (by (with_reducible repeat (first | refine blk_drewN ?_ _ | refine blk_drew ?_ | refine blk_alloc ?_ _));refine blk_far ?_ NB437_438.out _;(with_reducible repeat (first | refine blk_drewN ?_ _ | refine blk_drew ?_ | refine blk_alloc ?_ _));refine blk_far ?_ NB437_438.out _;(with_reducible repeat (first | refine blk_drewN ?_ _ | refine blk_drew ?_ | refine blk_alloc ?_ _));refine blk_far ?_ NB437_438.out _;(with_reducible repeat (first | refine blk_drewN ?_ _ | refine blk_drew ?_ | refine blk_alloc ?_ _));refine blk_put (cs := #[.slice Ao60 t424.length co60,.string t427,.slice Ao67 t428.length co67,.slice none 0 0]) ?_ 3 _ rfl;(with_reducible repeat (first | refine blk_drewN ?_ _ | refine blk_drew ?_ | refine blk_alloc ?_ _));refine blk_put (cs := #[.slice Ao60 t424.length co60,.string t427,.slice none 0 0,.slice none 0 0]) ?_ 2 _ rfl;(with_reducible repeat (first | refine blk_drewN ?_ _ | refine blk_drew ?_ | refine blk_alloc ?_ _));refine blk_put (cs := #[.slice Ao60 t424.length co60,.string (⟨#[]⟩ : ByteArray),.slice none 0 0,.slice none 0 0]) ?_ 1 _ rfl;(with_reducible repeat (first | refine blk_drewN ?_ _ | refine blk_drew ?_ | refine blk_alloc ?_ _));refine blk_put (cs := #[.slice none 0 0,.string (⟨#[]⟩ : ByteArray),.slice none 0 0,.slice none 0 0]) ?_ 0 _ rfl;(with_reducible repeat (first | refine blk_drewN ?_ _ | refine blk_drew ?_ | refine blk_alloc ?_ _));exact BK437.out) hb) (jA (blk_below (g := gb438) (o := .cells #[.int .i64 t434,.int .i64 t435,.int .i64 t436] 28 (0,0)) (by (with_reducible repeat (first | refine blk_drewN ?_ _ | refine blk_drew ?_ | refine blk_alloc ?_ _));refine blk_put (cs := #[.int .i64 t434,.int .i64 t435,.int .i64 0]) ?_ 2 _ rfl;(with_reducible repeat (first | refine blk_drewN ?_ _ | refine blk_drew ?_ | refine blk_alloc ?_ _));refine blk_put (cs := #[.int .i64 t434,.int .i64 0,.int .i64 0]) ?_ 1 _ rfl;(with_reducible repeat (first | refine blk_drewN ?_ _ | refine blk_drew ?_ | refine blk_alloc ?_ _));refine blk_put (cs := #[.int .i64 0,.int .i64 0,.int .i64 0]) ?_ 0 _ rfl;(with_reducible repeat (first | refine blk_drewN ?_ _ | refine blk_drew ?_ | refine blk_alloc ?_ _));refine blk_far ?_ NB438_437.out _;(with_reducible repeat (first | refine blk_drewN ?_ _ | refine blk_drew ?_ | refine blk_alloc ?_ _));refine blk_far ?_ NB438_437.out _;(with_reducible repeat (first | refine blk_drewN ?_ _ | refine blk_drew ?_ | refine blk_alloc ?_ _));refine blk_far ?_ NB438_437.out _;(with_reducible repeat (first | refine blk_drewN ?_ _ | refine blk_drew ?_ | refine blk_alloc ?_ _));refine blk_far ?_ NB438_437.out _;(with_reducible repeat (first | refine blk_drewN ?_ _ | refine blk_drew ?_ | refine blk_alloc ?_ _));exact BK438.out) hb) (Aside0.mk (below_step Z78 hb))))))))))))))));clear HO_401000 HO_401002 HO_401003 HO_416000 HO_416002 HO_416003 HO426 HO430 HO433 BK400 BK401 BK415 BK416 BK437 BK438 HB;obtain ⟨HO_401000,HO_401002,HO_401003,HO_416000,HO_416002,HO_416003,HO426,HO430,HO433,BK400,BK401,BK415,BK416,BK437,BK438,HB⟩ := n_;(try clear hb);(try clear hb2);(try clear hk);(try clear hi);have hnb89 := NB438_401.out;have hnc89 := NB401_438.out;have hnb90 := NB438_415.out;have hnc90 := NB415_438.out;have hnb91 := NB438_416.out;have hnc91 := NB416_438.out;have hcz92_0 : w88.cell? ⟨gb438,0,none⟩ = some (.int .i64 t434) := bc BK438 0;have hcz92_1 : w88.cell? ⟨gb438,1,none⟩ = some (.int .i64 t435) := bc BK438 1;have hcz92_2 : w88.cell? ⟨gb438,2,none⟩ = some (.int .i64 t436) := bc BK438 2;have hfz92_0 := blk_frozen BK438.out 0;have hfz92_1 := blk_frozen BK438.out 1;have hfz92_2 := blk_frozen BK438.out 2;have hnb93 := NB401_415.out;have hnc93 := NB415_401.out;have hnb94 := NB401_416.out;have hnc94 := NB416_401.out;have hcz95_0 : w88.cell? ⟨gb401,0,none⟩ = some (.int .i64 t397) := bc BK401 0;have hcz95_1 : w88.cell? ⟨gb401,1,none⟩ = some (.int .i64 t398) := bc BK401 1;have hcz95_2 : w88.cell? ⟨gb401,2,none⟩ = some (.int .i64 t399) := bc BK401 2;have hfz95_0 := blk_frozen BK401.out 0;have hfz95_1 := blk_frozen BK401.out 1;have hfz95_2 := blk_frozen BK401.out 2) | (go_at_call 7;(with_reducible refine (laws_eqFault.calls t434 t435 t436 t397 t398 t399 t440 _ A76.out).mono ?_);rintro e w96 ⟨rfl,hb⟩;have n_ := jA (Kd.R_below Z191 hb) (jA (Kd.S_below Z193 hb) (jA (Kd.R_below Z189 hb) (jA (Kd.R_below Z190 hb) (jA (Kd.S_below Z192 hb) (jA (Kd.R_below Z188 hb) (jA (Kd.R_below Z203 hb) (jA (Kd.S_below Z201 hb) (jA (Kd.R_below Z202 hb) (jA (blk_below (g := gb400) (o := .cells #[.slice Ao9 t387.length co9,.string t390,.slice Ao12 t391.length co12,.slice Ao13 t394.length co13] 26 (0,0)) Z303 hb) (jA (blk_below (g := gb401) (o := .cells #[.int .i64 t397,.int .i64 t398,.int .i64 t399] 28 (0,0)) Z305 hb) (jA (blk_below (g := gb415) (o := .cells #[.slice Ao18 t402.length co18,.string t405,.slice Ao23 t406.length co23,.slice Ao24 t409.length co24] 26 (0,0)) Z304 hb) (jA (blk_below (g := gb416) (o := .cells #[.int .i64 t412,.int .i64 t413,.int .i64 t414] 28 (0,0)) Z306 hb) (jA (blk_below (g := gb437) (o := .cells #[.slice Ao60 t424.length co60,.string t427,.slice Ao67 t428.length co67,.slice Ao68 t431.length co68] 26 (0,0)) Z182 hb) (jA (blk_below (g := gb438) (o := .cells #[.int .i64 t434,.int .i64 t435,.int .i64 t436] 28 (0,0)) Z183 hb) (Aside0.mk (below_step Z78 hb))))))))))))))));clear HO_401000 HO_401002 HO_401003 HO_416000 HO_416002 HO_416003 HO426 HO430 HO433 BK400 BK401 BK415 BK416 BK437 BK438 HB;obtain ⟨HO_401000,HO_401002,HO_401003,HO_416000,HO_416002,HO_416003,HO426,HO430,HO433,BK400,BK401,BK415,BK416,BK437,BK438,HB⟩ := n_;(try clear hb);(try clear hb2);(try clear hk);(try clear hi)))
    go_meet
    case rel => exact ⟨_,(!t440),Z238,H',⟨by have := HJ4.out;first | omega | exact Nat.le_refl _⟩,⟨Z191⟩,⟨by (with_reducible repeat (first | apply Kd.S_alloc | apply Kd.S_drewN | apply Kd.S_drew));exact Kd.S_mono HO_401002.out (fun _ hk => ⟨hk.1.1.1,⟨hk.1.1.2.1,⟨hk.1.1.2.2,⟨hk.1.2,hk.2⟩⟩⟩⟩)⟩,⟨Z189⟩,⟨Z190⟩,⟨by (with_reducible repeat (first | apply Kd.S_alloc | apply Kd.S_drewN | apply Kd.S_drew));exact Kd.S_mono HO_416002.out (fun _ hk => ⟨hk.1.1.1.1.1.1.1.1.1,⟨hk.1.1.1.1.1.1.1.1.2.1,⟨hk.1.1.1.1.1.1.1.1.2.2,⟨hk.1.2,hk.2⟩⟩⟩⟩)⟩,⟨Z188⟩,⟨by (with_reducible repeat (first | apply Kd.R_alloc | apply Kd.R_drewN | apply Kd.R_drew));exact Kd.R_mono HO426.out (fun _ hk => ⟨hk.1.2,hk.2⟩)⟩,⟨by (with_reducible repeat (first | apply Kd.S_alloc | apply Kd.S_drewN | apply Kd.S_drew));exact Kd.S_mono HO430.out (fun _ hk => ⟨hk.1.1.1.2,⟨hk.1.1.2,⟨hk.1.2,⟨hk.2,hk.1.1.1.1⟩⟩⟩⟩)⟩,⟨by (with_reducible repeat (first | apply Kd.R_alloc | apply Kd.R_drewN | apply Kd.R_drew));exact Kd.R_mono HO433.out (fun _ hk => ⟨hk.1.2,hk.2⟩)⟩,⟨Z303⟩,⟨Z305⟩,⟨Z304⟩,⟨Z306⟩,⟨Z182⟩,⟨Z183⟩,⟨Z78⟩⟩
   case rest =>
    clear HC49
    try clear c1
    try clear c2
    try clear c2b0
    try clear c2b1
    try clear p2
    try clear c3
    try clear c4
    try clear c5
    try clear c6
    try clear c7
    try clear c8
    try clear c9
    try clear c10
    try clear c19
    try clear c20
    try clear c21
    try clear c25
    try clear c26
    try clear c29
    try clear c31
    try clear c32
    try clear c33
    try clear c35
    try clear c36
    try clear c39
    try clear c43
    try clear c46
    try clear c46b0
    try clear c47
    try clear c47b0
    try clear c47b1
    try clear c50
    try clear c51
    try clear c52
    try clear c61
    try clear c62
    try clear c63
    try clear c64
    try clear c65
    try clear c69
    try clear c70
    try clear c71
    try clear c72
    try clear c75
    try clear c77
    try clear c78
    try clear c79
    try clear c80
    try clear c81
    try clear c83
    try clear c84
    try clear c85
    try clear c86
    try clear c89
    try clear c90
    try clear c91
    try clear c93
    try clear c94
    try clear p2
    obtain ⟨kq,x59_48,rfl,HA,HJ48,HO_401000,HO_401002,HO_401003,HO_416000,HO_416002,HO_416003,HO_438000,HO_438002,HO_438003,BK400,BK401,BK415,BK416,BK437,BK438,HB⟩ := hcut
    have hl416000_48 := (Kd.R_reads' HO_416000.out).1
    rw [hl416000_48] at HO_416000
    (try simp only [hl416000_48])
    (try simp only [hl416000_48] at BK400)
    (try simp only [hl416000_48] at BK401)
    (try simp only [hl416000_48] at BK415)
    (try simp only [hl416000_48] at BK416)
    (try simp only [hl416000_48] at BK437)
    (try simp only [hl416000_48] at BK438)
    (try simp only [hl416000_48] at HO_401000)
    (try simp only [hl416000_48] at HO_401002)
    (try simp only [hl416000_48] at HO_401003)
    (try simp only [hl416000_48] at HO_416002)
    (try simp only [hl416000_48] at HO_416003)
    (try simp only [hl416000_48] at HO_438000)
    (try simp only [hl416000_48] at HO_438002)
    (try simp only [hl416000_48] at HO_438003)
    have hl416002_48 := (Kd.S_reads' HO_416002.out).1
    rw [hl416002_48] at HO_416002
    (try simp only [hl416002_48])
    (try simp only [hl416002_48] at BK400)
    (try simp only [hl416002_48] at BK401)
    (try simp only [hl416002_48] at BK415)
    (try simp only [hl416002_48] at BK416)
    (try simp only [hl416002_48] at BK437)
    (try simp only [hl416002_48] at BK438)
    (try simp only [hl416002_48] at HO_401000)
    (try simp only [hl416002_48] at HO_401002)
    (try simp only [hl416002_48] at HO_401003)
    (try simp only [hl416002_48] at HO_416000)
    (try simp only [hl416002_48] at HO_416003)
    (try simp only [hl416002_48] at HO_438000)
    (try simp only [hl416002_48] at HO_438002)
    (try simp only [hl416002_48] at HO_438003)
    have hl416003_48 := (Kd.R_reads' HO_416003.out).1
    rw [hl416003_48] at HO_416003
    (try simp only [hl416003_48])
    (try simp only [hl416003_48] at BK400)
    (try simp only [hl416003_48] at BK401)
    (try simp only [hl416003_48] at BK415)
    (try simp only [hl416003_48] at BK416)
    (try simp only [hl416003_48] at BK437)
    (try simp only [hl416003_48] at BK438)
    (try simp only [hl416003_48] at HO_401000)
    (try simp only [hl416003_48] at HO_401002)
    (try simp only [hl416003_48] at HO_401003)
    (try simp only [hl416003_48] at HO_416000)
    (try simp only [hl416003_48] at HO_416002)
    (try simp only [hl416003_48] at HO_438000)
    (try simp only [hl416003_48] at HO_438002)
    (try simp only [hl416003_48] at HO_438003)
    cases kq with
    | zero => exact absurd HA.out (by simp [laws_FnExactReadTable.j1])
    | succ kj48 =>
     have H := HA.out
     clear HA
     simp only [laws_FnExactReadTable.j1] at H
     by_cases c97 : x59_48 = true
     ·subst c97
      rw [if_pos rfl] at H
      exact absurd ((Option.some.inj H).trans HRT.out) Z355
     replace c97 := Bool.eq_false_iff.mpr c97
     subst c97
     rw [if_neg Bool.false_ne_true] at H
     obtain ⟨t441,A980,H⟩ := Option.bind_eq_some_iff.mp H
     have A98 := Aside0.mk A980
     clear A980
     by_cases c99 : t441 < 0
     ·rw [if_pos c99] at H
      have c99b0 : decide (t441 < 0) = true := decide_eq_true c99
      clear c99
      exact absurd ((Option.some.inj H).trans HRT.out) Z355
     rw [if_neg c99] at H
     have c99b0 : decide (t441 < 0) = false := decide_eq_false c99
     clear c99
     by_cases c100 : t441 = t419
     rotate_left
     ·rw [if_neg c100] at H
      have c100b0 : (t441 == t419) = false := beq_eq_false_iff_ne.mpr c100
      have c100b1 : (t441 != t419) = true := bne_iff_ne.mpr c100
      exact absurd ((Option.some.inj H).trans HRT.out) Z355
     rw [if_pos c100] at H
     have c100b0 : (t441 == t419) = true := beq_iff_eq.mpr c100
     have c100b1 : (t441 != t419) = false := bne_eq_false_iff_eq.mpr c100
     clear c100
     obtain rfl := Option.some.inj H
     have hnb101 := NB415_400.out
     have hnc101 := NB400_415.out
     have hnb102 := NB415_401.out
     have hnc102 := NB401_415.out
     have hnb103 := NB415_416.out
     have hnc103 := NB416_415.out
     have hnb104 := NB415_437.out
     have hnc104 := NB437_415.out
     have hnb105 := NB415_438.out
     have hnc105 := NB438_415.out
     have hcz106_0 : wc.cell? ⟨gb415,0,none⟩ = some (.slice Ao18 t420.length co18) := bc BK415 0
     have hcz106_1 : wc.cell? ⟨gb415,1,none⟩ = some (.string t405) := bc BK415 1
     have hcz106_2 : wc.cell? ⟨gb415,2,none⟩ = some (.slice Ao23 t421.length co23) := bc BK415 2
     have hcz106_3 : wc.cell? ⟨gb415,3,none⟩ = some (.slice Ao24 t422.length co24) := bc BK415 3
     have hfz106_0 := blk_frozen BK415.out 0
     have hfz106_1 := blk_frozen BK415.out 1
     have hfz106_2 := blk_frozen BK415.out 2
     have hfz106_3 := blk_frozen BK415.out 3
     go_wp2_with (first | ((with_reducible refine gate_callee (f := 9) rfl ?_);refine goesL_ (some 62) rfl rfl Tryd.func9 Z253 rfl #[.agg #[.slice Ao18 t420.length co18,.string t405,.slice Ao23 t421.length co23,.slice Ao24 t422.length co24],.int .i64 1] rfl Z173 ?_;(with_reducible refine (laws_heldTable.calls kj48 _ _ t420 t405 _ _ t421 _ _ t422 1 t441 _ ?side1 ?side2 ?side3 ?side4 ?side5 ?side6 A98.out).mono ?_);(case side1 => exact Z132);(case side2 => exact (Kd.R_reads' HO_416000.out).2.1);(case side3 => exact Z130);(case side4 => exact (Kd.S_reads' HO_416002.out).2.1);(case side5 => exact Z131);(case side6 => exact (Kd.R_reads' HO_416003.out).2.1);rintro e wq1 ⟨rfl,hb⟩;refine ⟨_,rfl,?_⟩;have n_ := jA (Kd.R_below Z191 hb) (jA (Kd.S_below Z193 hb) (jA (Kd.R_below Z189 hb) (jA (Kd.R_below Z190 hb) (jA (Kd.S_below Z192 hb) (jA (Kd.R_below Z188 hb) (jA (Kd.R_below (by (with_reducible repeat (first | apply Kd.R_alloc | apply Kd.R_drewN | apply Kd.R_drew));exact HO_438000.out) hb) (jA (Kd.S_below (by (with_reducible repeat (first | apply Kd.S_alloc | apply Kd.S_drewN | apply Kd.S_drew));exact HO_438002.out) hb) (jA (Kd.R_below (by (with_reducible repeat (first | apply Kd.R_alloc | apply Kd.R_drewN | apply Kd.R_drew));exact HO_438003.out) hb) (jA (blk_below (g := gb400) (o := .cells #[.slice Ao9 t387.length co9,.string t390,.slice Ao12 t391.length co12,.slice Ao13 t394.length co13] 26 (0,0)) Z303 hb) (jA (blk_below (g := gb401) (o := .cells #[.int .i64 t397,.int .i64 t398,.int .i64 t399] 28 (0,0)) Z305 hb) (jA (blk_below (g := gb415) (o := .cells #[.slice Ao18 t420.length co18,.string t405,.slice Ao23 t421.length co23,.slice Ao24 t422.length co24] 26 (0,0)) Z304 hb) (jA (blk_below (g := gb416) (o := .cells #[.int .i64 t412,.int .i64 t413,.int .i64 t414] 28 (0,0)) Z306 hb) (jA (blk_below (g := gb437) (o := .cells #[.slice Ao60 t424.length co60,.string t427,.slice Ao67 t428.length co67,.slice Ao68 t431.length co68] 26 (0,0)) Z182 hb) (jA (blk_below (g := gb438) (o := .cells #[.int .i64 t434,.int .i64 t435,.int .i64 t436] 28 (0,0)) Z183 hb) (Aside0.mk (below_step Z78 hb))))))))))))))));clear HO_401000 HO_401002 HO_401003 HO_416000 HO_416002 HO_416003 HO_438000 HO_438002 HO_438003 BK400 BK401 BK415 BK416 BK437 BK438 HB;obtain ⟨HO_401000,HO_401002,HO_401003,HO_416000,HO_416002,HO_416003,HO_438000,HO_438002,HO_438003,BK400,BK401,BK415,BK416,BK437,BK438,HB⟩ := n_;(try clear hb);(try clear hb2);(try clear hk);(try clear hi)))
     go_ret
     exact ⟨Z218,Z78⟩

/-- THE ONE PURE STATEMENT of laws_FnExactReadTable: yours. -/
def laws_FnExactReadTable.Pure : Prop := ∀ (a0 : ByteArray),a0.size ≤ 140737488351232 → ∃ k,laws_FnExactReadTable.f k a0 = some true
theorem laws_FnExactReadTable.walk (P : laws_FnExactReadTable.Pure) (a0 : ByteArray) (w : World) (hG : GT w) (w0 : a0.size ≤ 140737488351232) :
  Calls Tryd.prog 3 #[.string a0] w fun e w' => e = .returned (.bool true) ∧ Below w.heap.size w w' := by
 obtain ⟨k,h⟩ := P a0 w0
 refine (laws_FnExactReadTable.calls k a0 true w hG h rfl).mono ?_
 rintro e w' ⟨rfl,hd⟩
 exact ⟨rfl,hd⟩

end Go.Proofs.YtepnbcdbagjmbaaDoor.QFnExactReadTable
