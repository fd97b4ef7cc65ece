/- The machine side of FnColumn: what each Go function that it reaches comes to. Conditions: none. -/
import Derived.Test.YtiacoiiapmfaeaaQFnColumnx0
import Derived.Test.YtiacoiiapmfaeaaQFnColumnx1
import Derived.Test.YtiacoiiapmfaeaaQFnColumnx2
import Derived.Test.YtiacoiiapmfaeaaQFnColumnx3
namespace Go.Proofs.Ytiacoiiapmfaeaa.QFnColumn
open Go.RowKit Go.Proofs.YtiacoiiapmfaeaaW.PrintWords Go.Proofs.YtiacoiiapmfaeaaW.PrintLast Go.Proofs.YtiacoiiapmfaeaaW.PrintMore
attribute [local go_sem] max2_int min2_int max_two min_two max_three min_three max_four min_four   -- for this text's walks alone
set_option linter.unusedVariables false
set_option linter.unusedSimpArgs false

/-! ### spec_l9Bent: function 48 -/
def spec_l9Bent.l0 : Nat → List Int → Int → Int → List ByteArray → ByteArray → List (List Int) → List Int → Option (List ByteArray × ByteArray × (List (List Int)) × List Int × Int × Int)
 | 0,_,_,_,_,_,_,_ => none
 | k + 1,x1000,x1001,x1002,x248000,x248001,x248002,x248003 => (spec_l1Below.f x1000 x1001 x1002 2).bind fun bt293 => (if (x248002.length : Int) < (wrap64 (40 + bt293.1)) then ((some (([] : List Int) : List Int)).bind fun y296 => (if 0 < (x248002.length : Int) then (if y296.length + (rd_L3 x248002 0).length < 17592186044416 then (if x248002.length < 5864062014805 then (if x248003.length < 17592186044416 then (spec_l9Bent.l0 k x1000 bt293.2.1 bt293.2.2 x248000 x248001 (x248002 ++ [(y296 ++ (rd_L3 x248002 0))]) (x248003 ++ [0])) else (none)) else (none)) else (none)) else (none))) else (some (x248000,x248001,x248002,x248003,bt293.2.1,bt293.2.2)))
def spec_l9Bent.f (k : Nat) (s0_0 : List Int) (s0_1 : Int) (s0_2 : Int) : Option (List ByteArray × ByteArray × (List (List Int)) × List Int × Int × Int) := (spec_l9Right.f k s0_0 s0_1 s0_2).bind fun bt235 => ((spec_l1Below.f s0_0 bt235.2.2.2.2.1 bt235.2.2.2.2.2 (bt235.2.2.1.length : Int)).bind fun bt248 => ((spec_l1Below.f s0_0 bt248.2.1 bt248.2.2 14).bind fun bt251 => (if bt251.1 = 0 then ((spec_l1Pick.f s0_0 bt251.2.1 bt251.2.2 (([(⟨#[]⟩ : ByteArray),(⟨#[65]⟩ : ByteArray),(⟨#[49,97]⟩ : ByteArray),(⟨#[121]⟩ : ByteArray),(⟨#[97,98,99,100,101,102,103,104,105,106,107,108]⟩ : ByteArray),(⟨#[97,98,99,100,101,102,103,104,105,106,107,108,109]⟩ : ByteArray),(⟨#[98]⟩ : ByteArray)] : List ByteArray))).bind fun bt257 => (if 0 < (bt235.1.length : Int) then (some ((bt235.1.set (0 : Int).toNat bt257.1),bt235.2.1,bt235.2.2.1,bt235.2.2.2.1,bt257.2.1,bt257.2.2)) else (none))) else (if bt251.1 = 1 then ((spec_l1Pick.f s0_0 bt251.2.1 bt251.2.2 (([(⟨#[]⟩ : ByteArray),(⟨#[97]⟩ : ByteArray),(⟨#[121,45]⟩ : ByteArray)] : List ByteArray))).bind fun bt264 => (some (bt235.1,bt264.1,bt235.2.2.1,bt235.2.2.2.1,bt264.2.1,bt264.2.2))) else (if bt251.1 = 2 then (if 0 ≤ bt248.1 then (if bt248.1 < (bt235.2.2.1.length : Int) then (if (rd_L3 bt235.2.2.1 bt248.1).length < 17592186044416 then (some (bt235.1,bt235.2.1,(bt235.2.2.1.set (bt248.1 : Int).toNat ((rd_L3 bt235.2.2.1 bt248.1) ++ [0])),bt235.2.2.2.1,bt251.2.1,bt251.2.2)) else (none)) else (none)) else (none)) else (if bt251.1 = 3 then (if 0 ≤ bt248.1 then (if bt248.1 < (bt235.2.2.1.length : Int) then ((spec_l1PickInt.f s0_0 bt251.2.1 bt251.2.2 (([2147483647,2147483648,(-2147483648)] : List Int))).bind fun bt276 => (if 0 < ((rd_L3 bt235.2.2.1 bt248.1).length : Int) then (some (bt235.1,bt235.2.1,(bt235.2.2.1.set (bt248.1 : Int).toNat ((rd_L3 bt235.2.2.1 bt248.1).set (0 : Int).toNat bt276.1)),bt235.2.2.2.1,bt276.2.1,bt276.2.2)) else (none))) else (none)) else (none)) else (if bt251.1 = 4 then ((spec_l1Whole.f k s0_0 bt251.2.1 bt251.2.2).bind fun bt282 => (if 0 ≤ bt248.1 then (if bt248.1 < (bt235.2.2.2.1.length : Int) then (some (bt235.1,bt235.2.1,bt235.2.2.1,(bt235.2.2.2.1.set (bt248.1 : Int).toNat bt282.1),bt282.2.1,bt282.2.2)) else (none)) else (none))) else (if bt251.1 = 5 then (if bt235.2.2.2.1.length < 17592186044416 then (some (bt235.1,bt235.2.1,bt235.2.2.1,(bt235.2.2.2.1 ++ [1]),bt251.2.1,bt251.2.2)) else (none)) else (if bt251.1 = 6 then (if 0 ≤ bt248.1 then (if bt248.1 < (bt235.2.2.1.length : Int) then (some (bt235.1,bt235.2.1,(bt235.2.2.1.set (bt248.1 : Int).toNat (([] : List Int))),bt235.2.2.2.1,bt251.2.1,bt251.2.2)) else (none)) else (none)) else (if bt251.1 = 7 then (spec_l9Bent.l0 k s0_0 bt251.2.1 bt251.2.2 bt235.1 bt235.2.1 bt235.2.2.1 bt235.2.2.2.1) else (some (bt235.1,bt235.2.1,bt235.2.2.1,bt235.2.2.2.1,bt251.2.1,bt251.2.2))))))))))))
theorem spec_l9Bent.mono_l : ∀ k,(∀ y0 y1 y2 y3 y4 y5 y6,LeO (spec_l9Bent.l0 k y0 y1 y2 y3 y4 y5 y6) (spec_l9Bent.l0 (k + 1) y0 y1 y2 y3 y4 y5 y6))
 | 0 => fun _ _ _ _ _ _ _ r h => by simp [spec_l9Bent.l0] at h
 | k + 1 => by
  have ih0 := spec_l9Bent.mono_l k
  ·intro y0 y1 y2 y3 y4 y5 y6
   unfold spec_l9Bent.l0
   repeat' first
   | (with_reducible exact ih0 _ _ _ _ _ _ _)
   | (with_reducible exact spec_l1Whole.mono _ _ _ _)
   | (with_reducible exact spec_l9Right.mono _ _ _ _)
   | (with_reducible exact LeO.refl _)
   | (with_reducible exact LeO.none _)
   | (with_reducible refine LeO.ite ?_ ?_)
   | (with_reducible refine LeO.bind ?_ (fun _ => ?_))
   | exact ih0 _ _ _ _ _ _ _
   | exact spec_l1Whole.mono _ _ _ _
   | exact spec_l9Right.mono _ _ _ _
   | exact LeO.none _
   | refine LeO.ite ?_ ?_
   | refine LeO.bind ?_ (fun _ => ?_)
theorem spec_l9Bent.mono : ∀ a0 a1 a2 k,LeO (spec_l9Bent.f k a0 a1 a2) (spec_l9Bent.f (k + 1) a0 a1 a2) := by
 intro a0 a1 a2 k
 have ih0 := spec_l9Bent.mono_l k
 unfold spec_l9Bent.f
 repeat' first
   | (with_reducible exact ih0 _ _ _ _ _ _ _)
   | (with_reducible exact spec_l1Whole.mono _ _ _ _)
   | (with_reducible exact spec_l9Right.mono _ _ _ _)
   | (with_reducible exact LeO.refl _)
   | (with_reducible exact LeO.none _)
   | (with_reducible refine LeO.ite ?_ ?_)
   | (with_reducible refine LeO.bind ?_ (fun _ => ?_))
   | exact ih0 _ _ _ _ _ _ _
   | exact spec_l1Whole.mono _ _ _ _
   | exact spec_l9Right.mono _ _ _ _
   | exact LeO.none _
   | refine LeO.ite ?_ ?_
   | refine LeO.bind ?_ (fun _ => ?_)
def spec_l9Bent.T9 : Bool × List (List Nat × List Nat) := (true,[([],[]),([0],[0]),([],[]),([],[]),([3],[3]),([],[]),([4,5],[4,5]),([6],[6]),([],[]),([7,8],[7,8]),([1,2,0,1,2,3,4,5,6,7,8,9],[1,2]),([10,9,9,0,1,2,3,4,5,6,7,8,9],[9,10])])
def spec_l9Bent.B9 : List Nat := [0,1,0,0,8,0,56,120,0,504,1023,2047]
theorem spec_l9Bent.tab9 : rtab .any (opsOf Try.f48 9) = spec_l9Bent.T9 := by kernel_rfl
theorem spec_l9Bent.bits9 : waitsOk spec_l9Bent.T9.2 spec_l9Bent.B9 = true := by kernel_rfl
def spec_l9Bent.T11 : Bool × List (List Nat × List Nat) := (true,[([],[]),([0],[0]),([],[]),([1,2],[1,2]),([3],[3]),([],[]),([],[]),([5,6],[5,6]),([4,0,1,2,3,4,5,6,7],[4]),([8,7,7,0,1,2,3,4,5,6,7],[7,8])])
def spec_l9Bent.B11 : List Nat := [0,1,0,7,15,0,0,96,255,511]
theorem spec_l9Bent.tab11 : rtab .any (opsOf Try.f48 11) = spec_l9Bent.T11 := by kernel_rfl
theorem spec_l9Bent.bits11 : waitsOk spec_l9Bent.T11.2 spec_l9Bent.B11 = true := by kernel_rfl
def spec_l9Bent.T20 : Bool × List (List Nat × List Nat) := (true,[([],[]),([0],[0]),([],[]),([],[]),([3],[3]),([4],[4]),([5],[5]),([2,6],[2,6]),([7],[7]),([1,8,7],[1,8]),([0,1,2,3,4,5,6,7,8,9],[]),([10,9,9,0,1,2,3,4,5,6,7,8,9],[9,10])])
def spec_l9Bent.B20 : List Nat := [0,1,0,0,8,24,56,124,252,511,1023,2047]
theorem spec_l9Bent.tab20 : rtab .any (opsOf Try.f48 20) = spec_l9Bent.T20 := by kernel_rfl
theorem spec_l9Bent.bits20 : waitsOk spec_l9Bent.T20.2 spec_l9Bent.B20 = true := by kernel_rfl
set_option maxHeartbeats 8000000 in
set_option maxRecDepth 100000 in
theorem spec_l9Bent.calls (k : Nat) (g : Nat) (s0_0 : List Int) (s0_1 : Int) (s0_2 : Int) (r1 : List ByteArray) (r2 : ByteArray) (r3 : List (List Int)) (r4 : List Int) (r5 : Int) (r6 : Int) (w0 w : World) (hI : IsS100 w0 w g s0_0 s0_1 s0_2) (hB : Below w0.heap.size w0 w) (h : spec_l9Bent.f k s0_0 s0_1 s0_2 = some (r1,r2,r3,r4,r5,r6)) :
  Calls Try.prog 48 #[.pointer (some ⟨g,0,none⟩)] w fun e w' => ∃ v0_ v2_ v3_ : Value,e = .returned (.agg #[v0_,.string r2,v2_,v3_]) ∧ Kd.R Kd.string 9 w' w.heap.size (fun _ => True) v0_ r1 ∧ Kd.S (Kd.slice 3 (Kd.int .i64)) 34 w' w.heap.size (fun k_ => some k_ ≠ (v3_ : Value).ownBlock) v2_ r3 ∧ Kd.R (Kd.int .i64) 3 w' w.heap.size (fun _ => True) v3_ r4 ∧ IsS100 w0 w' g s0_0 r5 r6 ∧ Below w0.heap.size w0 w' ∧ KeepBut w w' g none := by
 have hu36 := Try.underlying36
 have HI0 := Aside0.mk hI
 have HK := Aside0.mk (KeepBut.refl w g none)
 have HL := Aside0.mk hB.size
 clear hI
 have HW0 := Aside0.mk hB.size
 have HB := Aside0.mk hB
 clear hB
 have H := h
 clear h
 unfold spec_l9Bent.f at H
 obtain ⟨⟨t235,t238,t239,t242,t245,t246⟩,A20,H⟩ := Option.bind_eq_some_iff.mp H
 try dsimp only at H
 have A2 := Aside0.mk A20
 clear A20
 obtain ⟨⟨t248,t249,t250⟩,A30,H⟩ := Option.bind_eq_some_iff.mp H
 try dsimp only at H
 have A3 := Aside0.mk A30
 clear A30
 obtain ⟨⟨t251,t252,t253⟩,A40,H⟩ := Option.bind_eq_some_iff.mp H
 try dsimp only at H
 have A4 := Aside0.mk A40
 clear A40
 by_cases c5 : t251 = 0
 ·rw [if_pos c5] at H
  have c5b0 : (t251 == 0) = true := beq_iff_eq.mpr c5
  have c5b1 : (t251 != 0) = false := bne_eq_false_iff_eq.mpr c5
  clear c5
  obtain ⟨y254,hy254⟩ : ∃ y_ : List ByteArray,y_ = (([(⟨#[]⟩ : ByteArray),(⟨#[65]⟩ : ByteArray),(⟨#[49,97]⟩ : ByteArray),(⟨#[121]⟩ : ByteArray),(⟨#[97,98,99,100,101,102,103,104,105,106,107,108]⟩ : ByteArray),(⟨#[97,98,99,100,101,102,103,104,105,106,107,108,109]⟩ : ByteArray),(⟨#[98]⟩ : ByteArray)] : List ByteArray)) := ⟨_,rfl⟩
  replace H : ((spec_l1Pick.f s0_0 t252 t253 y254).bind fun bt257 => (if 0 < (t235.length : Int) then (some ((t235.set (0 : Int).toNat bt257.1),t238,t239,t242,bt257.2.1,bt257.2.2)) else (none))) = some (r1,r2,r3,r4,r5,r6) := by first | (rw [hy254];with_reducible exact H) | (have H2_ := (Option.bind_some _ _).symm.trans H;rw [hy254];with_reducible exact H2_) | (have H2_ := (Option.bind_some _ _).symm.trans H;with_reducible exact H2_) | with_reducible exact H | (rw [hy254];exact H) | exact H
  have Ny254 := Aside0.mk hy254
  clear hy254
  obtain ⟨⟨t257,t258,t259⟩,A60,H⟩ := Option.bind_eq_some_iff.mp H
  try dsimp only at H
  have A6 := Aside0.mk A60
  clear A60
  by_cases c7 : 0 < (t235.length : Int)
  ·rw [if_pos c7] at H
   have c7b0 : decide (0 < (t235.length : Int)) = true := decide_eq_true c7
   have c7b1 : decide (0 < t235.length) = true := decide_eq_true Z149
   clear c7
   obtain ⟨y260,hy260⟩ : ∃ y_ : List ByteArray,y_ = (t235.set (0 : Int).toNat t257) := ⟨_,rfl⟩
   replace H : (some (y260,t238,t239,t242,t258,t259)) = some (r1,r2,r3,r4,r5,r6) := by first | (rw [hy260];with_reducible exact H) | (have H2_ := (Option.bind_some _ _).symm.trans H;rw [hy260];with_reducible exact H2_) | (have H2_ := (Option.bind_some _ _).symm.trans H;with_reducible exact H2_) | with_reducible exact H | (rw [hy260];exact H) | exact H
   have Ny260 := Aside0.mk hy260
   clear hy260
   simp only [Option.some.injEq,Prod.mk.injEq] at H
   obtain ⟨rfl,rfl,rfl,rfl,rfl,rfl⟩ := H
   go_enter Try.func48,Try.ntmps48
   try go_wp2_with (first | ((with_reducible refine gate_dst (N := 2) rfl ?_);refine bE 2 #[.slice none 0 0,.string (⟨#[]⟩ : ByteArray),.slice none 0 0,.slice none 0 0] 36 (h := ?_);intro gb234 hg w9 hbox hb;have n_ := Z8;clear HI0 HK HB;obtain ⟨HI0,HK,HB,BK234,GW234,GE234,NB0_234,NB234_0⟩ := n_;clear hb hbox hg) | ((with_reducible refine gate_callee (f := 75) rfl ?_);refine goesL_ (some 6) rfl rfl Try.func75 Z102 rfl #[.pointer (some ⟨g,0,none⟩)] rfl Z60 ?_;(with_reducible refine (spec_l9Right.calls k g s0_0 s0_1 s0_2 t235 t238 t239 t242 t245 t246 w0 _ ?side1 ?side2 A2.out).mono ?_);(case side1 => exact Z114);(case side2 => exact Z116);rintro e w10 ⟨v236,v240,v243,rfl,ho0,ho1,ho2,hi,hb,hk⟩;refine ⟨_,rfl,?_⟩;have n_ := Z11;clear BK234 HK HB HI0;obtain ⟨BK234,HO237,HO241,HO244,HK,HB,HI0⟩ := n_;(try clear hb);(try clear hb2);(try clear hk);(try clear hi);(try clear ho0);(try clear ho1);(try clear ho2)) | ((with_reducible refine gate_dst (N := 3) rfl ?_);refine bE 3 #[.slice none 0 0,.string (⟨#[]⟩ : ByteArray),.slice none 0 0,.slice none 0 0] 36 (h := ?_);intro gb247 hg w11 hbox hb;have n_ := Z3;clear HO237 HO241 HO244 HI0 BK234 HK HB;obtain ⟨HO237,HO241,HO244,HI0,BK234,HK,HB,BK247,GW247,GE247,NB234_247,NB247_234,NB0_247,NB247_0⟩ := n_;clear hb hbox hg;obtain ⟨Ao12,co12,eo12⟩ := Kd.R_slice HO237.out;subst eo12;have hnb13 := NB247_234.out;have hnc13 := NB234_247.out;have hnb14 := NB247_0.out;have hnc14 := NB0_247.out;obtain ⟨hcz15_0,hcz15_1,hcz15_2,hcz15_3,hfz15_0,hfz15_1,hfz15_2,hfz15_3⟩ := cells4 BK247.out;obtain ⟨Ao16,co16,eo16⟩ := Kd.S_slice HO241.out;subst eo16;obtain ⟨Ao17,co17,eo17⟩ := Kd.R_slice HO244.out;subst eo17) | ((with_reducible refine gate_callee (f := 76) rfl ?_);refine goesL_ (some 11) rfl rfl Try.func76 Z102 rfl #[.pointer (some ⟨g,0,none⟩),.int .i64 (t239.length : Int)] rfl Z60 ?_;(with_reducible refine (spec_l1Below.calls g s0_0 t245 t246 (t239.length : Int) t248 t249 t250 w0 _ ?side1 ?side2 A3.out).mono ?_);(case side1 => exact Z107);(case side2 => exact Z30);rintro e w18 ⟨rfl,hi,hb,hk⟩;refine ⟨_,rfl,?_⟩;have n_ := jA (KeepBut.blk hk (g' := gb234) (o := .cells #[.slice none 0 0,.string (⟨#[]⟩ : ByteArray),.slice none 0 0,.slice none 0 0] 36 (0,0)) Z111 NB234_0.out Z150) (jA (Kd.R_mono (Kd.R_keep (IsS100.apart (show IsS100 w0 _ g s0_0 t245 t246 from Z107) (by (with_reducible repeat (first | apply Kd.R_alloc | apply Kd.R_drewN | apply Kd.R_drew));exact (Kd.R_mono (Kd.R_far (p := ⟨gb247,3,none⟩) (Kd.R_far (p := ⟨gb247,2,none⟩) (Kd.R_far (p := ⟨gb247,1,none⟩) (Kd.R_far (p := ⟨gb247,0,none⟩) (Kd.R_types HO237.out BK247.out Z154) (fun _ hk => hk.2) (.slice Ao12 t235.length co12)) (fun _ hk => hk.2) (.string t238)) (fun _ hk => hk.2) (.slice Ao16 t239.length co16)) (fun _ hk => hk.2) (.slice Ao17 t242.length co17)) (fun _ h_ => h_.1))) Z154) hk (fun _ h => h.2)) (fun _ h => h.1)) (jA (Kd.S_mono (Kd.S_keep (IsS100.apartS (show IsS100 w0 _ g s0_0 t245 t246 from Z107) (by (with_reducible repeat (first | apply Kd.S_alloc | apply Kd.S_drewN | apply Kd.S_drew));exact (Kd.S_mono (Kd.S_far (p := ⟨gb247,3,none⟩) (Kd.S_far (p := ⟨gb247,2,none⟩) (Kd.S_far (p := ⟨gb247,1,none⟩) (Kd.S_far (p := ⟨gb247,0,none⟩) (Kd.S_types HO241.out BK247.out Z154) (fun _ hk => hk.2) (.slice Ao12 t235.length co12)) (fun _ hk => hk.2) (.string t238)) (fun _ hk => hk.2) (.slice Ao16 t239.length co16)) (fun _ hk => hk.2) (.slice Ao17 t242.length co17)) (fun _ h_ => h_.1))) Z154) hk (fun _ h => h.2)) (fun _ h => h.1)) (jA (Kd.R_mono (Kd.R_keep (IsS100.apart (show IsS100 w0 _ g s0_0 t245 t246 from Z107) (by (with_reducible repeat (first | apply Kd.R_alloc | apply Kd.R_drewN | apply Kd.R_drew));exact (Kd.R_mono (Kd.R_far (p := ⟨gb247,3,none⟩) (Kd.R_far (p := ⟨gb247,2,none⟩) (Kd.R_far (p := ⟨gb247,1,none⟩) (Kd.R_far (p := ⟨gb247,0,none⟩) (Kd.R_types HO244.out BK247.out Z154) (fun _ hk => hk.2) (.slice Ao12 t235.length co12)) (fun _ hk => hk.2) (.string t238)) (fun _ hk => hk.2) (.slice Ao16 t239.length co16)) (fun _ hk => hk.2) (.slice Ao17 t242.length co17)) (fun _ h_ => h_.1))) Z154) hk (fun _ h => h.2)) (fun _ h => h.1)) (jA (KeepBut.blk hk (g' := gb247) (o := .cells #[.slice Ao12 t235.length co12,.string t238,.slice Ao16 t239.length co16,.slice Ao17 t242.length co17] 36 (0,0)) (by refine bP ?_;refine blk_put (cs := #[.slice Ao12 t235.length co12,.string t238,.slice Ao16 t239.length co16,.slice none 0 0]) ?_ 3 _ rfl;refine bP ?_;refine blk_put (cs := #[.slice Ao12 t235.length co12,.string t238,.slice none 0 0,.slice none 0 0]) ?_ 2 _ rfl;refine bP ?_;refine blk_put (cs := #[.slice Ao12 t235.length co12,.string (⟨#[]⟩ : ByteArray),.slice none 0 0,.slice none 0 0]) ?_ 1 _ rfl;refine bP ?_;refine blk_put (cs := #[.slice none 0 0,.string (⟨#[]⟩ : ByteArray),.slice none 0 0,.slice none 0 0]) ?_ 0 _ rfl;refine bP ?_;exact BK247.out) NB247_0.out Z150) (jA (KeepBut.trans Z112 hk (.inl rfl)) (jA (hb) (Aside0.mk (hi))))))));clear BK234 HO237 HO241 HO244 BK247 HK HB HI0;obtain ⟨BK234,HO237,HO241,HO244,BK247,HK,HB,HI0⟩ := n_;(try clear hb);(try clear hb2);(try clear hk);(try clear hi)) | ((with_reducible refine gate_callee (f := 76) rfl ?_);refine goesL_ (some 13) rfl rfl Try.func76 Z102 rfl #[.pointer (some ⟨g,0,none⟩),.int .i64 14] rfl Z60 ?_;(with_reducible refine (spec_l1Below.calls g s0_0 t249 t250 14 t251 t252 t253 w0 _ ?side1 ?side2 A4.out).mono ?_);(case side1 => exact Z107);(case side2 => exact Z30);rintro e w19 ⟨rfl,hi,hb,hk⟩;refine ⟨_,rfl,?_⟩;have n_ := jA (KeepBut.blk hk (g' := gb234) (o := .cells #[.slice none 0 0,.string (⟨#[]⟩ : ByteArray),.slice none 0 0,.slice none 0 0] 36 (0,0)) Z142 NB234_0.out Z150) (jA (Kd.R_mono (Kd.R_keep (IsS100.apart (show IsS100 w0 _ g s0_0 t249 t250 from Z107) Z134 Z154) hk (fun _ h => h.2)) (fun _ h => h.1)) (jA (Kd.S_mono (Kd.S_keep (IsS100.apartS (show IsS100 w0 _ g s0_0 t249 t250 from Z107) Z135 Z154) hk (fun _ h => h.2)) (fun _ h => h.1)) (jA (Kd.R_mono (Kd.R_keep (IsS100.apart (show IsS100 w0 _ g s0_0 t249 t250 from Z107) Z133 Z154) hk (fun _ h => h.2)) (fun _ h => h.1)) (jA (KeepBut.blk hk (g' := gb247) (o := .cells #[.slice Ao12 t235.length co12,.string t238,.slice Ao16 t239.length co16,.slice Ao17 t242.length co17] 36 (0,0)) Z144 NB247_0.out Z150) (jA (KeepBut.trans Z112 hk (.inl rfl)) (jA (hb) (Aside0.mk (hi))))))));clear BK234 HO237 HO241 HO244 BK247 HK HB HI0;obtain ⟨BK234,HO237,HO241,HO244,BK247,HK,HB,HI0⟩ := n_;(try clear hb);(try clear hb2);(try clear hk);(try clear hi)))
   have n0_ := Aside0.mk (Kd.R_drew HO237.out)
   have n1_ := Aside0.mk (Kd.S_drew HO241.out)
   have n2_ := Aside0.mk (Kd.R_drew HO244.out)
   have n3_ := Aside0.mk (blk_drew BK234.out)
   have n4_ := Aside0.mk (blk_drew BK247.out)
   have n5_ := Aside0.mk (IsS100.drew HI0.out)
   have n6_ := Aside0.mk (keep_drew HK.out)
   have n7_ := Aside0.mk (below_drew1 HB.out)
   clear HO237
   clear HO241
   clear HO244
   clear BK234
   clear BK247
   clear HI0
   clear HK
   clear HB
   have HO237 := n0_
   have HO241 := n1_
   have HO244 := n2_
   have BK234 := n3_
   have BK247 := n4_
   have HI0 := n5_
   have HK := n6_
   have HB := n7_
   clear n0_ n1_ n2_ n3_ n4_ n5_ n6_ n7_
   refine start_ (n := 7) (S := fun w' => w'.cell? ⟨gb247,0,none⟩ = some (.slice Ao12 t235.length co12) ∧ w'.cell? ⟨gb247,1,none⟩ = some (.string t238) ∧ w'.cell? ⟨gb247,2,none⟩ = some (.slice Ao16 t239.length co16) ∧ w'.cell? ⟨gb247,3,none⟩ = some (.slice Ao17 t242.length co17)) (ds := [6]) #[false,false,false,false,false,false,false] Z102 rfl rfl ⟨(blk_cell BK247.out 0).trans rfl,(blk_cell BK247.out 1).trans rfl,(blk_cell BK247.out 2).trans rfl,(blk_cell BK247.out 3).trans rfl⟩ (fun hHeld => ?_)
   generalize w19.drew = w20 at HO237 HO241 HO244 BK234 BK247 HI0 HK HB hHeld ⊢
   refine pure_ (i := 0) (N := some 16) (v := ?_) (a' := ?_) #[true,false,false,false,false,false,false] rfl rfl Z102 (fun _ _ _ h => h) (Or.inl ⟨Z103,?_⟩) ?_ ?_
   rotate_left
   ·intro w'
    go_simp
    with_reducible rfl
   rotate_left
   ·simp only [Act.put,List.setIfInBounds_toArray,List.set_cons_zero,List.set_cons_succ,i64_w,i32_w]
    rfl
   refine pure_ (i := 2) (N := some 18) (v := ?_) (a' := ?_) #[true,false,true,false,false,false,false] rfl rfl Z102 (fun _ _ _ h => h) (Or.inl ⟨Z103,?_⟩) ?_ ?_
   rotate_left
   ·intro w'
    go_simp
    with_reducible rfl
   rotate_left
   ·simp only [Act.put,List.setIfInBounds_toArray,List.set_cons_zero,List.set_cons_succ,i64_w,i32_w]
    rfl
   refine take_ (i := 1) (N := some 17) (v := ?_) (a' := ?_) #[true,true,true,false,false,false,false] rfl rfl Z102 (fun _ _ _ h => h) (Or.inl ⟨Z103,?_⟩) hHeld ?_ ?_
   rotate_left
   ·rintro w' ⟨s0,s1,s2,s3⟩
    go_simp
    with_reducible rfl
   rotate_left
   ·simp only [Act.put,List.setIfInBounds_toArray,List.set_cons_zero,List.set_cons_succ,i64_w,i32_w]
    rfl
   refine one_ (i := 3) (N := some 19) #[true,true,true,true,false,false,false] rfl rfl Z102 Z154 (fun K hK => ?_)
   refine Kd.R_lit_step Kd.string _ 9 ?hg (N := 19) ?hd (xs := ([(⟨#[]⟩ : ByteArray),(⟨#[65]⟩ : ByteArray),(⟨#[49,97]⟩ : ByteArray),(⟨#[121]⟩ : ByteArray),(⟨#[97,98,99,100,101,102,103,104,105,106,107,108]⟩ : ByteArray),(⟨#[97,98,99,100,101,102,103,104,105,106,107,108,109]⟩ : ByteArray),(⟨#[98]⟩ : ByteArray)] : List ByteArray)) (inner := [.string (⟨#[]⟩ : ByteArray),.string (⟨#[65]⟩ : ByteArray),.string (⟨#[49,97]⟩ : ByteArray),.string (⟨#[121]⟩ : ByteArray),.string (⟨#[97,98,99,100,101,102,103,104,105,106,107,108]⟩ : ByteArray),.string (⟨#[97,98,99,100,101,102,103,104,105,106,107,108,109]⟩ : ByteArray),.string (⟨#[98]⟩ : ByteArray)]) (ok := fun _ => True) (okp := fun _ => True) ?hr ?hp (fun _ hk => hk) trivial (Below.refl _ _) (Nat.le_refl _) Z150 ?_;(case hd => rfl);(case hg => rfl);(case hr => exact Z87);(case hp => exact (Reps.one (show Kd.M Kd.string _ _ _ (⟨#[]⟩ : ByteArray) [.string (⟨#[]⟩ : ByteArray)] from rfl) (Reps.one (show Kd.M Kd.string _ _ _ (⟨#[65]⟩ : ByteArray) [.string (⟨#[65]⟩ : ByteArray)] from rfl) (Reps.one (show Kd.M Kd.string _ _ _ (⟨#[49,97]⟩ : ByteArray) [.string (⟨#[49,97]⟩ : ByteArray)] from rfl) (Reps.one (show Kd.M Kd.string _ _ _ (⟨#[121]⟩ : ByteArray) [.string (⟨#[121]⟩ : ByteArray)] from rfl) (Reps.one (show Kd.M Kd.string _ _ _ (⟨#[97,98,99,100,101,102,103,104,105,106,107,108]⟩ : ByteArray) [.string (⟨#[97,98,99,100,101,102,103,104,105,106,107,108]⟩ : ByteArray)] from rfl) (Reps.one (show Kd.M Kd.string _ _ _ (⟨#[97,98,99,100,101,102,103,104,105,106,107,108,109]⟩ : ByteArray) [.string (⟨#[97,98,99,100,101,102,103,104,105,106,107,108,109]⟩ : ByteArray)] from rfl) (Reps.one (show Kd.M Kd.string _ _ _ (⟨#[98]⟩ : ByteArray) [.string (⟨#[98]⟩ : ByteArray)] from rfl) (Reps.none _ _)))))))))
   intro v255 w21 ho22 hb hg_ hnew_
   clear hg_ hnew_
   (first | rw [← Ny254.out] at ho22 | (simp only [Int.reduceToNat] at ho22;rw [← Ny254.out] at ho22))
   have n0_ := Aside0.mk (Kd.R_elder' Z134 (Kd.R_base ho22) hb)
   have n1_ := Aside0.mk (Kd.S_below Z135 hb)
   have n2_ := Aside0.mk (Kd.R_below Z133 hb)
   have n3_ := Aside0.mk (Kd.R_lower (Kd.R_new' ho22 (Kd.R_lt Z134)) (keep_size (w := w) (g := g) (row := none) Z112))
   have n4_ := Aside0.mk (IsS100.below Z107 hb)
   have n5_ := Aside0.mk (blk_below (g := gb234) (o := .cells #[.slice none 0 0,.string (⟨#[]⟩ : ByteArray),.slice none 0 0,.slice none 0 0] 36 (0,0)) Z142 hb)
   have n6_ := Aside0.mk (blk_below (g := gb247) (o := .cells #[.slice Ao12 t235.length co12,.string t238,.slice Ao16 t239.length co16,.slice Ao17 t242.length co17] 36 (0,0)) Z144 hb)
   have n7_ := Aside0.mk (KeepBut.trans Z112 (KeepBut.of_below hb g none) (.inl rfl))
   have n8_ := Aside0.mk (below_step Z30 hb)
   clear HO237
   clear HO241
   clear HO244
   clear HI0
   clear BK234
   clear BK247
   clear HK
   clear HB
   have HO237 := n0_
   have HO241 := n1_
   have HO244 := n2_
   have HO256 := n3_
   have HI0 := n4_
   have BK234 := n5_
   have BK247 := n6_
   have HK := n7_
   have HB := n8_
   clear n0_ n1_ n2_ n3_ n4_ n5_ n6_ n7_ n8_
   clear hb ho22
   obtain ⟨Ao23,co23,eo23⟩ := Kd.R_slice HO256.out
   (first | subst eo23 | (injection eo23 with f1_ f2_ f3_;have f4_ := f1_.symm;have f5_ := f3_.symm;clear f1_ f2_ f3_;subst f4_;subst f5_))
   refine hK.out _ _ ⟨(blk_cell BK247.out 0).trans rfl,(blk_cell BK247.out 1).trans rfl,(blk_cell BK247.out 2).trans rfl,(blk_cell BK247.out 3).trans rfl⟩ (fun hHeld => ?_)
   clear hK K
   refine norm_ (a' := ?_) ?_ ?_
   rotate_left
   ·show Act.put _ (some 19) _ = _
    simp only [Act.put,List.setIfInBounds_toArray,List.set_cons_zero,List.set_cons_succ,i64_w,i32_w]
    rfl
   refine one_ (i := 4) (N := some 20) #[true,true,true,true,true,false,false] rfl rfl Z102 Z154 (fun K hK => ?_)
   refine goes_ Try.func77 Z102 rfl #[.pointer (some ⟨g,0,none⟩),.slice Ao23 y254.length co23] Z103 rfl rfl Z60 ?_
   with_reducible refine (spec_l1Pick.calls g s0_0 t252 t253 _ _ y254 t257 t258 t259 w0 _ ?side1 ?side2 ?side3 ?side4 ?side5 A6.out).mono ?_
   (case side1 => exact Z107)
   (case side2 => exact Z30)
   (case side3 => repeat (first | exact (Kd.R_reads' HO256.out).2.2 | (with_reducible refine Kd.C_alloc ?_ _) | (with_reducible refine Kd.C_drewN ?_ _) | (with_reducible refine Kd.C_drew ?_)))
   (case side4 => exact (Kd.R_reads' HO256.out).2.1)
   (case side5 => exact far_slice (IsS100.own_ne HI0.out HO256.out Z154))
   rintro e w24 ⟨rfl,hi,hb,hk⟩
   refine ⟨_,rfl,?_⟩
   have n0_ := Aside0.mk (KeepBut.blk hk (g' := gb234) (o := .cells #[.slice none 0 0,.string (⟨#[]⟩ : ByteArray),.slice none 0 0,.slice none 0 0] 36 (0,0)) Z142 NB234_0.out Z150)
   have n1_ := Aside0.mk (Kd.R_mono (Kd.R_keep (IsS100.apart (show IsS100 w0 _ g s0_0 t252 t253 from Z107) Z134 Z154) hk (fun _ h => h.2)) (fun _ h => h.1))
   have n2_ := Aside0.mk (Kd.S_mono (Kd.S_keep (IsS100.apartS (show IsS100 w0 _ g s0_0 t252 t253 from Z107) Z135 Z154) hk (fun _ h => h.2)) (fun _ h => h.1))
   have n3_ := Aside0.mk (Kd.R_mono (Kd.R_keep (IsS100.apart (show IsS100 w0 _ g s0_0 t252 t253 from Z107) Z133 Z154) hk (fun _ h => h.2)) (fun _ h => h.1))
   have n4_ := Aside0.mk (KeepBut.blk hk (g' := gb247) (o := .cells #[.slice Ao12 t235.length co12,.string t238,.slice Ao16 t239.length co16,.slice Ao17 t242.length co17] 36 (0,0)) Z144 NB247_0.out Z150)
   have n5_ := Aside0.mk (Kd.R_mono (Kd.R_keep (IsS100.apart (show IsS100 w0 _ g s0_0 t252 t253 from Z107) (by (with_reducible repeat (first | apply Kd.R_alloc | apply Kd.R_drewN | apply Kd.R_drew));exact HO256.out) Z154) hk (fun _ h => h.2)) (fun _ h => h.1))
   have n6_ := Aside0.mk (KeepBut.trans Z112 hk (.inl rfl))
   have n7_ := Aside0.mk (hb)
   have n8_ := Aside0.mk (hi)
   clear BK234
   clear HO237
   clear HO241
   clear HO244
   clear BK247
   clear HO256
   clear HK
   clear HB
   clear HI0
   have BK234 := n0_
   have HO237 := n1_
   have HO241 := n2_
   have HO244 := n3_
   have BK247 := n4_
   have HO256 := n5_
   have HK := n6_
   have HB := n7_
   have HI0 := n8_
   clear n0_ n1_ n2_ n3_ n4_ n5_ n6_ n7_ n8_
   (try clear hb)
   (try clear hb2)
   (try clear hk)
   (try clear hi)
   have p8 : 0 ≤ (0 : Int) := Z149
   have q8 : (0 : Int) < ((t235.length : Int) : Int) := of_decide_eq_true Z85
   have qi8 : (0 < t235.length) = True := eq_true Z149
   obtain ⟨go8,co8,eo8,gb8,gl8,cl8,HG8⟩ := Kd.R_form HO237.out Z149
   (first | cases eo8 | (injection eo8 with ea_ en_ ec_;(first | subst ea_ | (injection ea_ with ea_;subst ea_));subst ec_;clear en_))
   have GB8 := Aside0.mk gb8
   have GG8 := Aside0.mk HG8
   clear gb8 gl8 HG8
   obtain ⟨hx8_0,hf8_0⟩ := Kd.R_celln (⟨#[]⟩ : ByteArray) HO237.out (0 : Int) p8 q8
   (try rw [show ((0 : Int)).toNat = 0 from rfl] at hx8_0)
   (try simp only [Nat.reduceMul,Nat.zero_mul,Nat.zero_add,Nat.reduceAdd] at hx8_0)
   (try rw [show ((0 : Int)).toNat = 0 from rfl] at hf8_0)
   (try simp only [Nat.reduceMul,Nat.zero_mul,Nat.zero_add,Nat.reduceAdd] at hf8_0)
   replace p8 := eq_true p8
   replace q8 := eq_true q8
   have HN0_go8 := Aside0.mk (show g ≠ go8 from by have h_ := IsS100.own_ne HI0.out HO237.out Z154;intro e_;exact h_ Z101)
   have HP25 := Kd.R_putn HO237.out (0 : Int) t257
   rw [← Ny260.out] at HP25
   have HQ25 := Aside0.mk HP25
   clear HP25
   refine hK.out _ _ ⟨(blk_cell BK247.out 0).trans rfl,(blk_cell BK247.out 1).trans rfl,(blk_cell BK247.out 2).trans rfl,(blk_cell BK247.out 3).trans rfl⟩ (fun hHeld => ?_)
   clear hK K
   refine norm_ (a' := ?_) ?_ ?_
   rotate_left
   ·show Act.put _ (some 20) _ = _
    simp only [Act.put,List.setIfInBounds_toArray,List.set_cons_zero,List.set_cons_succ,i64_w,i32_w]
    rfl
   refine pure_ (i := 5) (N := some 21) (v := ?_) (a' := ?_) #[true,true,true,true,true,true,false] rfl rfl Z102 (fun _ _ _ h => h) (Or.inl ⟨Z103,?_⟩) ?_ ?_
   rotate_left
   ·intro w'
    go_simp
    with_reducible rfl
   rotate_left
   ·simp only [Act.put,List.setIfInBounds_toArray,List.set_cons_zero,List.set_cons_succ,i64_w,i32_w]
    rfl
   refine last_ (i := 6) (N := none) #[true,true,true,true,true,true,true] rfl rfl Z102 Z154 (fun K hK => ?_)
   refine skip_ (w1 := ?_) Z103 rfl ?_ ?_
   rotate_left
   ·go_simp
    rfl
   refine hK.out _ _ ?_
   clear hK K
   refine done_ Z102 ?_
   have n0_ : Aside0 (Kd.R Kd.string 9 (w24.setCell ⟨go8,0,none⟩ (.string t257)) w.heap.size (fun k_ => some k_ ≠ (.slice Ao23 y254.length co23 : Value).ownBlock) (.slice (some ⟨go8,0,none⟩) t235.length co12) y260) := ⟨by (with_reducible repeat (first | apply Kd.R_alloc | apply Kd.R_drewN | apply Kd.R_drew));exact Kd.R_mono HQ25.out (fun _ hk => hk.2)⟩
   have n1_ : Aside0 (Kd.S (Kd.slice 3 (Kd.int .i64)) 34 (w24.setCell ⟨go8,0,none⟩ (.string t257)) w.heap.size (fun k_ => some k_ ≠ (.slice Ao17 t242.length co17 : Value).ownBlock) (.slice Ao16 t239.length co16) t239) := ⟨by (with_reducible repeat (first | apply Kd.S_alloc | apply Kd.S_drewN | apply Kd.S_drew));exact Kd.S_mono (Kd.S_far (p := ⟨go8,0,none⟩) (Kd.S_types HO241.out GG8.out Z154) (fun _ hk => hk.2) (.string t257)) (fun _ hk => hk.1)⟩
   have n2_ : Aside0 (Kd.R (Kd.int .i64) 3 (w24.setCell ⟨go8,0,none⟩ (.string t257)) w.heap.size (fun _ => True) (.slice Ao17 t242.length co17) t242) := ⟨by (with_reducible repeat (first | apply Kd.R_alloc | apply Kd.R_drewN | apply Kd.R_drew));exact Kd.R_mono (Kd.R_far (p := ⟨go8,0,none⟩) (Kd.R_types HO244.out GG8.out Z154) (fun _ hk => hk.2) (.string t257)) (fun _ hk => trivial)⟩
   have n3_ : Aside0 (Kd.R Kd.string 9 (w24.setCell ⟨go8,0,none⟩ (.string t257)) w.heap.size (fun k_ => some k_ ≠ (.slice (some ⟨go8,0,none⟩) t235.length co12 : Value).ownBlock) (.slice Ao23 y254.length co23) y254) := ⟨by (with_reducible repeat (first | apply Kd.R_alloc | apply Kd.R_drewN | apply Kd.R_drew));exact Kd.R_mono (Kd.R_far (p := ⟨go8,0,none⟩) (Kd.R_mono HO256.out (fun k_ hk => (⟨hk,fun e_ => hk.2 Z101⟩ : _ ∧ k_ ≠ go8))) (fun _ hk => hk.2) (.string t257)) (fun _ hk => hk.1.2)⟩
   have n4_ : Aside0 ((w24.setCell ⟨go8,0,none⟩ (.string t257)).heap[gb234]? = some (.cells #[.slice none 0 0,.string (⟨#[]⟩ : ByteArray),.slice none 0 0,.slice none 0 0] 36 (0,0))) := ⟨by refine bP ?_;refine blk_far ?_ (by have h_ := Kd.R_ne HO237.out BK234.out Z154;intro e_;exact h_ Z101) _;refine bP ?_;exact BK234.out⟩
   have n5_ : Aside0 ((w24.setCell ⟨go8,0,none⟩ (.string t257)).heap[gb247]? = some (.cells #[.slice (some ⟨go8,0,none⟩) t235.length co12,.string t238,.slice Ao16 t239.length co16,.slice Ao17 t242.length co17] 36 (0,0))) := ⟨by refine bP ?_;refine blk_far ?_ (by have h_ := Kd.R_ne HO237.out BK247.out Z154;intro e_;exact h_ Z101) _;refine bP ?_;exact BK247.out⟩
   have n6_ : Aside0 (IsS100 w0 (w24.setCell ⟨go8,0,none⟩ (.string t257)) g s0_0 t258 t259) := ⟨by repeat (first | (with_reducible first | exact HI0.out | apply IsS100.alloc | apply IsS100.drewN | apply IsS100.drew | apply IsS100.set_1 | apply IsS100.set_2 | refine IsS100.far ?_ HN0_go8.out _ | refine IsS100.far ?_ NB0_234.out _ | refine IsS100.far ?_ NB0_247.out _) | exact HI0.out)⟩
   have n7_ : Aside0 (KeepBut w (w24.setCell ⟨go8,0,none⟩ (.string t257)) g none) := ⟨by repeat (first | (with_reducible first | exact HK.out | apply KeepBut.set_ | apply keep_drewN | apply keep_drew | apply keep_alloc | refine keep_far ?_ GB8.out _ | refine keep_far ?_ GW234.out _ | refine keep_far ?_ GW247.out _) | exact HK.out)⟩
   have n8_ : Aside0 (Below w0.heap.size w0 (w24.setCell ⟨go8,0,none⟩ (.string t257))) := ⟨by repeat (first | (with_reducible first | exact HB.out | apply below_alloc | apply pw_below_drewN | apply below_drew1 | refine below_set ?_ (Nat.le_trans HL.out GB8.out) | refine below_set ?_ (IsS100.ge HI0.out) | refine below_set ?_ GE234.out | refine below_set ?_ GE247.out) | exact HB.out)⟩
   (try clear HO237)
   (try clear HO241)
   (try clear HO244)
   (try clear HO256)
   (try clear BK234)
   (try clear BK247)
   (try clear HI0)
   (try clear HK)
   (try clear HB)
   generalize (w24.setCell ⟨go8,0,none⟩ (.string t257)) = w26 at n0_ n1_ n2_ n3_ n4_ n5_ n6_ n7_ n8_ ⊢
   have HO237 := n0_
   have HO241 := n1_
   have HO244 := n2_
   have HO256 := n3_
   have BK234 := n4_
   have BK247 := n5_
   have HI0 := n6_
   have HK := n7_
   have HB := n8_
   clear n0_ n1_ n2_ n3_ n4_ n5_ n6_ n7_ n8_
   obtain ⟨hcz27_0,hcz27_1,hcz27_2,hcz27_3,hfz27_0,hfz27_1,hfz27_2,hfz27_3⟩ := cells4 BK247.out
   have hnb28 := NB234_0.out
   have hnc28 := NB0_234.out
   obtain ⟨hcz29_0,hcz29_1,hcz29_2,hcz29_3,hfz29_0,hfz29_1,hfz29_2,hfz29_3⟩ := cells4 BK234.out
   try go_wp2
   refine bodyPost_ret (results_cell_row rfl _ _ gb234 36 #[.slice (some ⟨go8,0,none⟩) t235.length co12,.string t238,.slice Ao16 t239.length co16,.slice Ao17 t242.length co17] (0,0) _ rfl (by refine bP ?_;refine blk_put (cs := #[.slice (some ⟨go8,0,none⟩) t235.length co12,.string t238,.slice Ao16 t239.length co16,.slice none 0 0]) ?_ 3 _ rfl;refine bP ?_;refine blk_put (cs := #[.slice (some ⟨go8,0,none⟩) t235.length co12,.string t238,.slice none 0 0,.slice none 0 0]) ?_ 2 _ rfl;refine bP ?_;refine blk_put (cs := #[.slice (some ⟨go8,0,none⟩) t235.length co12,.string (⟨#[]⟩ : ByteArray),.slice none 0 0,.slice none 0 0]) ?_ 1 _ rfl;refine bP ?_;refine blk_put (cs := #[.slice none 0 0,.string (⟨#[]⟩ : ByteArray),.slice none 0 0,.slice none 0 0]) ?_ 0 _ rfl;refine bP ?_;exact BK234.out) Try.underlying36 rfl Z102) rfl ?_
   exact ⟨_,_,_,Z77,by (with_reducible repeat (first | apply Kd.R_alloc | apply Kd.R_drewN | apply Kd.R_drew));exact Kd.R_mono (Kd.R_far (p := ⟨gb234,3,none⟩) (Kd.R_far (p := ⟨gb234,2,none⟩) (Kd.R_far (p := ⟨gb234,1,none⟩) (Kd.R_far (p := ⟨gb234,0,none⟩) (Kd.R_types HO237.out BK234.out Z154) (fun _ hk => hk.2) (.slice (some ⟨go8,0,none⟩) t235.length co12)) (fun _ hk => hk.2) (.string t238)) (fun _ hk => hk.2) (.slice Ao16 t239.length co16)) (fun _ hk => hk.2) (.slice Ao17 t242.length co17)) (fun _ hk => trivial),by (with_reducible repeat (first | apply Kd.S_alloc | apply Kd.S_drewN | apply Kd.S_drew));exact Kd.S_mono (Kd.S_far (p := ⟨gb234,3,none⟩) (Kd.S_far (p := ⟨gb234,2,none⟩) (Kd.S_far (p := ⟨gb234,1,none⟩) (Kd.S_far (p := ⟨gb234,0,none⟩) (Kd.S_types HO241.out BK234.out Z154) (fun _ hk => hk.2) (.slice (some ⟨go8,0,none⟩) t235.length co12)) (fun _ hk => hk.2) (.string t238)) (fun _ hk => hk.2) (.slice Ao16 t239.length co16)) (fun _ hk => hk.2) (.slice Ao17 t242.length co17)) (fun _ hk => hk.1),by (with_reducible repeat (first | apply Kd.R_alloc | apply Kd.R_drewN | apply Kd.R_drew));exact Kd.R_mono (Kd.R_far (p := ⟨gb234,3,none⟩) (Kd.R_far (p := ⟨gb234,2,none⟩) (Kd.R_far (p := ⟨gb234,1,none⟩) (Kd.R_far (p := ⟨gb234,0,none⟩) (Kd.R_types HO244.out BK234.out Z154) (fun _ hk => hk.2) (.slice (some ⟨go8,0,none⟩) t235.length co12)) (fun _ hk => hk.2) (.string t238)) (fun _ hk => hk.2) (.slice Ao16 t239.length co16)) (fun _ hk => hk.2) (.slice Ao17 t242.length co17)) (fun _ hk => trivial),Z107,Z30,Z112⟩
  ·rw [if_neg c7] at H
   exact absurd H Z150
 ·rw [if_neg c5] at H
  have c5b0 : (t251 == 0) = false := beq_eq_false_iff_ne.mpr c5
  have c5b1 : (t251 != 0) = true := bne_iff_ne.mpr c5
  by_cases c30 : t251 = 1
  ·rw [if_pos c30] at H
   have c30b0 : (t251 == 1) = true := beq_iff_eq.mpr c30
   have c30b1 : (t251 != 1) = false := bne_eq_false_iff_eq.mpr c30
   clear c30
   obtain ⟨y261,hy261⟩ : ∃ y_ : List ByteArray,y_ = (([(⟨#[]⟩ : ByteArray),(⟨#[97]⟩ : ByteArray),(⟨#[121,45]⟩ : ByteArray)] : List ByteArray)) := ⟨_,rfl⟩
   replace H : ((spec_l1Pick.f s0_0 t252 t253 y261).bind fun bt264 => (some (t235,bt264.1,t239,t242,bt264.2.1,bt264.2.2))) = some (r1,r2,r3,r4,r5,r6) := by first | (rw [hy261];with_reducible exact H) | (have H2_ := (Option.bind_some _ _).symm.trans H;rw [hy261];with_reducible exact H2_) | (have H2_ := (Option.bind_some _ _).symm.trans H;with_reducible exact H2_) | with_reducible exact H | (rw [hy261];exact H) | exact H
   have Ny261 := Aside0.mk hy261
   clear hy261
   obtain ⟨⟨t264,t265,t266⟩,A310,H⟩ := Option.bind_eq_some_iff.mp H
   try dsimp only at H
   have A31 := Aside0.mk A310
   clear A310
   simp only [Option.some.injEq,Prod.mk.injEq] at H
   obtain ⟨rfl,rfl,rfl,rfl,rfl,rfl⟩ := H
   go_enter Try.func48,Try.ntmps48
   go_wp2_with (first | ((with_reducible refine gate_dst (N := 2) rfl ?_);refine bE 2 #[.slice none 0 0,.string (⟨#[]⟩ : ByteArray),.slice none 0 0,.slice none 0 0] 36 (h := ?_);intro gb234 hg wq1 hbox hb;have n_ := Z8;clear HI0 HK HB;obtain ⟨HI0,HK,HB,BK234,GW234,GE234,NB0_234,NB234_0⟩ := n_;clear hb hbox hg) | ((with_reducible refine gate_callee (f := 75) rfl ?_);refine goesL_ (some 6) rfl rfl Try.func75 Z102 rfl #[.pointer (some ⟨g,0,none⟩)] rfl Z60 ?_;(with_reducible refine (spec_l9Right.calls k g s0_0 s0_1 s0_2 t235 t238 t239 t242 t245 t246 w0 _ ?side1 ?side2 A2.out).mono ?_);(case side1 => exact Z114);(case side2 => exact Z116);rintro e wq2 ⟨vq3,vq4,vq5,rfl,hoq6,hoq7,hoq8,hi,hb,hk⟩;refine ⟨_,rfl,?_⟩;have n_ := Z10;clear BK234 HK HB HI0;obtain ⟨BK234,HO237,HO241,HO244,HK,HB,HI0⟩ := n_;(try clear hb);(try clear hb2);(try clear hk);(try clear hi);(try clear hoq6);(try clear hoq7);(try clear hoq8)) | ((with_reducible refine gate_dst (N := 3) rfl ?_);refine bE 3 #[.slice none 0 0,.string (⟨#[]⟩ : ByteArray),.slice none 0 0,.slice none 0 0] 36 (h := ?_);intro gb247 hg wq9 hbox hb;have n_ := Z3;clear HO237 HO241 HO244 HI0 BK234 HK HB;obtain ⟨HO237,HO241,HO244,HI0,BK234,HK,HB,BK247,GW247,GE247,NB234_247,NB247_234,NB0_247,NB247_0⟩ := n_;clear hb hbox hg;obtain ⟨Aoq10,coq10,eoq10⟩ := Kd.R_slice HO237.out;subst eoq10;have hnbq11 := NB247_234.out;have hncq11 := NB234_247.out;have hnbq12 := NB247_0.out;have hncq12 := NB0_247.out;obtain ⟨hczq13_0,hczq13_1,hczq13_2,hczq13_3,hfzq13_0,hfzq13_1,hfzq13_2,hfzq13_3⟩ := cells4 BK247.out;obtain ⟨Aoq14,coq14,eoq14⟩ := Kd.S_slice HO241.out;subst eoq14;obtain ⟨Aoq15,coq15,eoq15⟩ := Kd.R_slice HO244.out;subst eoq15) | ((with_reducible refine gate_callee (f := 76) rfl ?_);refine goesL_ (some 11) rfl rfl Try.func76 Z102 rfl #[.pointer (some ⟨g,0,none⟩),.int .i64 (t239.length : Int)] rfl Z60 ?_;(with_reducible refine (spec_l1Below.calls g s0_0 t245 t246 (t239.length : Int) t248 t249 t250 w0 _ ?side1 ?side2 A3.out).mono ?_);(case side1 => exact Z107);(case side2 => exact Z30);rintro e wq16 ⟨rfl,hi,hb,hk⟩;refine ⟨_,rfl,?_⟩;have n_ := Z1;clear BK234 HO237 HO241 HO244 BK247 HK HB HI0;obtain ⟨BK234,HO237,HO241,HO244,BK247,HK,HB,HI0⟩ := n_;(try clear hb);(try clear hb2);(try clear hk);(try clear hi)) | ((with_reducible refine gate_callee (f := 76) rfl ?_);refine goesL_ (some 13) rfl rfl Try.func76 Z102 rfl #[.pointer (some ⟨g,0,none⟩),.int .i64 14] rfl Z60 ?_;(with_reducible refine (spec_l1Below.calls g s0_0 t249 t250 14 t251 t252 t253 w0 _ ?side1 ?side2 A4.out).mono ?_);(case side1 => exact Z107);(case side2 => exact Z30);rintro e wq17 ⟨rfl,hi,hb,hk⟩;refine ⟨_,rfl,?_⟩;have n_ := Z5;clear BK234 HO237 HO241 HO244 BK247 HK HB HI0;obtain ⟨BK234,HO237,HO241,HO244,BK247,HK,HB,HI0⟩ := n_;(try clear hb);(try clear hb2);(try clear hk);(try clear hi)) | ((with_reducible refine gate_dst (N := 25) rfl ?_);refine Kd.R_lit Kd.string _ 9 ?hg (N := 25) ?hd (xs := ([(⟨#[]⟩ : ByteArray),(⟨#[97]⟩ : ByteArray),(⟨#[121,45]⟩ : ByteArray)] : List ByteArray)) (inner := [.string (⟨#[]⟩ : ByteArray),.string (⟨#[97]⟩ : ByteArray),.string (⟨#[121,45]⟩ : ByteArray)]) (ok := fun _ => True) (okp := fun _ => True) ?hr ?hp (fun _ hk => hk) trivial (Below.refl _ _) (Nat.le_refl _) Z150 ?_;(case hd => rfl);(case hg => rfl);(case hr => exact Z87);(case hp => exact (Reps.one (show Kd.M Kd.string _ _ _ (⟨#[]⟩ : ByteArray) [.string (⟨#[]⟩ : ByteArray)] from rfl) (Reps.one (show Kd.M Kd.string _ _ _ (⟨#[97]⟩ : ByteArray) [.string (⟨#[97]⟩ : ByteArray)] from rfl) (Reps.one (show Kd.M Kd.string _ _ _ (⟨#[121,45]⟩ : ByteArray) [.string (⟨#[121,45]⟩ : ByteArray)] from rfl) (Reps.none _ _)))));intro vq18 wq19 hoq20 hb hg_ hnew_;clear hg_ hnew_;(first | rw [← Ny261.out] at hoq20 | (simp only [Int.reduceToNat] at hoq20;rw [← Ny261.out] at hoq20));have n_ := jA (Kd.R_elder' Z134 (Kd.R_base hoq20) hb) (jA (Kd.S_below Z135 hb) (jA (Kd.R_below Z133 hb) (jA (Kd.R_lower (Kd.R_new' hoq20 (Kd.R_lt Z134)) (keep_size (w := w) (g := g) (row := none) Z112)) (jA (IsS100.below Z107 hb) (jA (blk_below (g := gb234) (o := .cells #[.slice none 0 0,.string (⟨#[]⟩ : ByteArray),.slice none 0 0,.slice none 0 0] 36 (0,0)) Z142 hb) (jA (blk_below (g := gb247) (o := .cells #[.slice Aoq10 t235.length coq10,.string t238,.slice Aoq14 t239.length coq14,.slice Aoq15 t242.length coq15] 36 (0,0)) Z144 hb) (jA (KeepBut.trans Z112 (KeepBut.of_below hb g none) (.inl rfl)) (Aside0.mk (below_step Z30 hb)))))))));clear HO237 HO241 HO244 HI0 BK234 BK247 HK HB;obtain ⟨HO237,HO241,HO244,HO263,HI0,BK234,BK247,HK,HB⟩ := n_;clear hb hoq20;obtain ⟨Aoq21,coq21,eoq21⟩ := Kd.R_slice HO263.out;subst eoq21) | ((with_reducible refine gate_callee (f := 77) rfl ?_);refine goesL_ (some 26) rfl rfl Try.func77 Z102 rfl #[.pointer (some ⟨g,0,none⟩),.slice Aoq21 y261.length coq21] rfl Z60 ?_;(with_reducible refine (spec_l1Pick.calls g s0_0 t252 t253 _ _ y261 t264 t265 t266 w0 _ ?side1 ?side2 ?side3 ?side4 ?side5 A31.out).mono ?_);(case side1 => exact Z107);(case side2 => exact Z30);(case side3 => repeat (first | exact (Kd.R_reads' HO263.out).2.2 | (with_reducible refine Kd.C_alloc ?_ _) | (with_reducible refine Kd.C_drewN ?_ _) | (with_reducible refine Kd.C_drew ?_)));(case side4 => exact (Kd.R_reads' HO263.out).2.1);(case side5 => exact far_slice (IsS100.own_ne HI0.out HO263.out Z154));rintro e wq22 ⟨rfl,hi,hb,hk⟩;refine ⟨_,rfl,?_⟩;have n_ := jA (KeepBut.blk hk (g' := gb234) (o := .cells #[.slice none 0 0,.string (⟨#[]⟩ : ByteArray),.slice none 0 0,.slice none 0 0] 36 (0,0)) Z142 NB234_0.out Z150) (jA (Kd.R_mono (Kd.R_keep (IsS100.apart (show IsS100 w0 _ g s0_0 t252 t253 from Z107) Z134 Z154) hk (fun _ h => h.2)) (fun _ h => h.1)) (jA (Kd.S_mono (Kd.S_keep (IsS100.apartS (show IsS100 w0 _ g s0_0 t252 t253 from Z107) Z135 Z154) hk (fun _ h => h.2)) (fun _ h => h.1)) (jA (Kd.R_mono (Kd.R_keep (IsS100.apart (show IsS100 w0 _ g s0_0 t252 t253 from Z107) Z133 Z154) hk (fun _ h => h.2)) (fun _ h => h.1)) (jA (KeepBut.blk hk (g' := gb247) (o := .cells #[.slice Aoq10 t235.length coq10,.string t238,.slice Aoq14 t239.length coq14,.slice Aoq15 t242.length coq15] 36 (0,0)) Z144 NB247_0.out Z150) (jA (Kd.R_mono (Kd.R_keep (IsS100.apart (show IsS100 w0 _ g s0_0 t252 t253 from Z107) (by (with_reducible repeat (first | apply Kd.R_alloc | apply Kd.R_drewN | apply Kd.R_drew));exact HO263.out) Z154) hk (fun _ h => h.2)) (fun _ h => h.1)) (jA (KeepBut.trans Z112 hk (.inl rfl)) (jA (hb) (Aside0.mk (hi)))))))));clear BK234 HO237 HO241 HO244 BK247 HO263 HK HB HI0;obtain ⟨BK234,HO237,HO241,HO244,BK247,HO263,HK,HB,HI0⟩ := n_;(try clear hb);(try clear hb2);(try clear hk);(try clear hi);obtain ⟨hczq23_0,hczq23_1,hczq23_2,hczq23_3,hfzq23_0,hfzq23_1,hfzq23_2,hfzq23_3⟩ := cells4 BK247.out;have hnbq24 := NB234_0.out;have hncq24 := NB0_234.out;obtain ⟨hczq25_0,hczq25_1,hczq25_2,hczq25_3,hfzq25_0,hfzq25_1,hfzq25_2,hfzq25_3⟩ := cells4 BK234.out))
   refine bodyPost_ret (results_cell_row rfl _ _ gb234 36 #[.slice Aoq10 t235.length coq10,.string t264,.slice Aoq14 t239.length coq14,.slice Aoq15 t242.length coq15] (0,0) _ rfl (by refine bP ?_;refine blk_put (cs := #[.slice Aoq10 t235.length coq10,.string t264,.slice Aoq14 t239.length coq14,.slice none 0 0]) ?_ 3 _ rfl;refine bP ?_;refine blk_put (cs := #[.slice Aoq10 t235.length coq10,.string t264,.slice none 0 0,.slice none 0 0]) ?_ 2 _ rfl;refine bP ?_;refine blk_put (cs := #[.slice Aoq10 t235.length coq10,.string (⟨#[]⟩ : ByteArray),.slice none 0 0,.slice none 0 0]) ?_ 1 _ rfl;refine bP ?_;refine blk_put (cs := #[.slice none 0 0,.string (⟨#[]⟩ : ByteArray),.slice none 0 0,.slice none 0 0]) ?_ 0 _ rfl;refine bP ?_;refine blk_far ?_ NB234_247.out _;refine bP ?_;exact BK234.out) Try.underlying36 rfl Z102) rfl ?_
   exact ⟨_,_,_,Z77,by (with_reducible repeat (first | apply Kd.R_alloc | apply Kd.R_drewN | apply Kd.R_drew));exact Kd.R_mono (Kd.R_far (p := ⟨gb234,3,none⟩) (Kd.R_far (p := ⟨gb234,2,none⟩) (Kd.R_far (p := ⟨gb234,1,none⟩) (Kd.R_far (p := ⟨gb234,0,none⟩) (Kd.R_far (p := ⟨gb247,1,none⟩) (Kd.R_types (Kd.R_types HO237.out BK247.out Z154) BK234.out Z154) (fun _ hk => hk.1.2) (.string t264)) (fun _ hk => hk.2) (.slice Aoq10 t235.length coq10)) (fun _ hk => hk.2) (.string t264)) (fun _ hk => hk.2) (.slice Aoq14 t239.length coq14)) (fun _ hk => hk.2) (.slice Aoq15 t242.length coq15)) (fun _ hk => trivial),by (with_reducible repeat (first | apply Kd.S_alloc | apply Kd.S_drewN | apply Kd.S_drew));exact Kd.S_mono (Kd.S_far (p := ⟨gb234,3,none⟩) (Kd.S_far (p := ⟨gb234,2,none⟩) (Kd.S_far (p := ⟨gb234,1,none⟩) (Kd.S_far (p := ⟨gb234,0,none⟩) (Kd.S_far (p := ⟨gb247,1,none⟩) (Kd.S_types (Kd.S_types HO241.out BK247.out Z154) BK234.out Z154) (fun _ hk => hk.1.2) (.string t264)) (fun _ hk => hk.2) (.slice Aoq10 t235.length coq10)) (fun _ hk => hk.2) (.string t264)) (fun _ hk => hk.2) (.slice Aoq14 t239.length coq14)) (fun _ hk => hk.2) (.slice Aoq15 t242.length coq15)) (fun _ hk => hk.1.1),by (with_reducible repeat (first | apply Kd.R_alloc | apply Kd.R_drewN | apply Kd.R_drew));exact Kd.R_mono (Kd.R_far (p := ⟨gb234,3,none⟩) (Kd.R_far (p := ⟨gb234,2,none⟩) (Kd.R_far (p := ⟨gb234,1,none⟩) (Kd.R_far (p := ⟨gb234,0,none⟩) (Kd.R_far (p := ⟨gb247,1,none⟩) (Kd.R_types (Kd.R_types HO244.out BK247.out Z154) BK234.out Z154) (fun _ hk => hk.1.2) (.string t264)) (fun _ hk => hk.2) (.slice Aoq10 t235.length coq10)) (fun _ hk => hk.2) (.string t264)) (fun _ hk => hk.2) (.slice Aoq14 t239.length coq14)) (fun _ hk => hk.2) (.slice Aoq15 t242.length coq15)) (fun _ hk => trivial),Z107,Z30,Z112⟩
  ·rw [if_neg c30] at H
   have c30b0 : (t251 == 1) = false := beq_eq_false_iff_ne.mpr c30
   have c30b1 : (t251 != 1) = true := bne_iff_ne.mpr c30
   by_cases c50 : t251 = 2
   ·rw [if_pos c50] at H
    have c50b0 : (t251 == 2) = true := beq_iff_eq.mpr c50
    have c50b1 : (t251 != 2) = false := bne_eq_false_iff_eq.mpr c50
    clear c50
    by_cases c51 : 0 ≤ t248
    ·rw [if_pos c51] at H
     have c51b0 : decide (0 ≤ t248) = true := decide_eq_true c51
     clear c51
     by_cases c52 : t248 < (t239.length : Int)
     ·rw [if_pos c52] at H
      have c52b0 : decide (t248 < (t239.length : Int)) = true := decide_eq_true c52
      clear c52
      by_cases c53 : (rd_L3 t239 t248).length < 17592186044416
      ·rw [if_pos c53] at H
       have LMc53 := Aside0.mk c53
       clear c53
       obtain ⟨y268,hy268⟩ : ∃ y_ : List Int,y_ = ((rd_L3 t239 t248) ++ [0]) := ⟨_,rfl⟩
       replace H : (some (t235,t238,(t239.set (t248 : Int).toNat y268),t242,t252,t253)) = some (r1,r2,r3,r4,r5,r6) := by first | (rw [hy268];with_reducible exact H) | (have H2_ := (Option.bind_some _ _).symm.trans H;rw [hy268];with_reducible exact H2_) | (have H2_ := (Option.bind_some _ _).symm.trans H;with_reducible exact H2_) | with_reducible exact H | (rw [hy268];exact H) | exact H
       have Ny268 := Aside0.mk hy268
       clear hy268
       obtain ⟨y271,hy271⟩ : ∃ y_ : List (List Int),y_ = (t239.set (t248 : Int).toNat y268) := ⟨_,rfl⟩
       replace H : (some (t235,t238,y271,t242,t252,t253)) = some (r1,r2,r3,r4,r5,r6) := by first | (rw [hy271];with_reducible exact H) | (have H2_ := (Option.bind_some _ _).symm.trans H;rw [hy271];with_reducible exact H2_) | (have H2_ := (Option.bind_some _ _).symm.trans H;with_reducible exact H2_) | with_reducible exact H | (rw [hy271];exact H) | exact H
       have Ny271 := Aside0.mk hy271
       clear hy271
       simp only [Option.some.injEq,Prod.mk.injEq] at H
       obtain ⟨rfl,rfl,rfl,rfl,rfl,rfl⟩ := H
       go_enter Try.func48,Try.ntmps48
       try go_wp2_with (first | ((with_reducible refine gate_dst (N := 2) rfl ?_);refine bE 2 #[.slice none 0 0,.string (⟨#[]⟩ : ByteArray),.slice none 0 0,.slice none 0 0] 36 (h := ?_);intro gb234 hg w55 hbox hb;have n_ := Z8;clear HI0 HK HB;obtain ⟨HI0,HK,HB,BK234,GW234,GE234,NB0_234,NB234_0⟩ := n_;clear hb hbox hg) | ((with_reducible refine gate_callee (f := 75) rfl ?_);refine goesL_ (some 6) rfl rfl Try.func75 Z102 rfl #[.pointer (some ⟨g,0,none⟩)] rfl Z60 ?_;(with_reducible refine (spec_l9Right.calls k g s0_0 s0_1 s0_2 t235 t238 t239 t242 t245 t246 w0 _ ?side1 ?side2 A2.out).mono ?_);(case side1 => exact Z114);(case side2 => exact Z116);rintro e w56 ⟨v236,v240,v243,rfl,ho0,ho1,ho2,hi,hb,hk⟩;refine ⟨_,rfl,?_⟩;have n_ := Z11;clear BK234 HK HB HI0;obtain ⟨BK234,HO237,HO241,HO244,HK,HB,HI0⟩ := n_;(try clear hb);(try clear hb2);(try clear hk);(try clear hi);(try clear ho0);(try clear ho1);(try clear ho2)) | ((with_reducible refine gate_dst (N := 3) rfl ?_);refine bE 3 #[.slice none 0 0,.string (⟨#[]⟩ : ByteArray),.slice none 0 0,.slice none 0 0] 36 (h := ?_);intro gb247 hg w57 hbox hb;have n_ := Z3;clear HO237 HO241 HO244 HI0 BK234 HK HB;obtain ⟨HO237,HO241,HO244,HI0,BK234,HK,HB,BK247,GW247,GE247,NB234_247,NB247_234,NB0_247,NB247_0⟩ := n_;clear hb hbox hg;obtain ⟨Ao58,co58,eo58⟩ := Kd.R_slice HO237.out;subst eo58;have hnb59 := NB247_234.out;have hnc59 := NB234_247.out;have hnb60 := NB247_0.out;have hnc60 := NB0_247.out;obtain ⟨hcz61_0,hcz61_1,hcz61_2,hcz61_3,hfz61_0,hfz61_1,hfz61_2,hfz61_3⟩ := cells4 BK247.out;obtain ⟨Ao62,co62,eo62⟩ := Kd.S_slice HO241.out;subst eo62;obtain ⟨Ao63,co63,eo63⟩ := Kd.R_slice HO244.out;subst eo63) | ((with_reducible refine gate_callee (f := 76) rfl ?_);refine goesL_ (some 11) rfl rfl Try.func76 Z102 rfl #[.pointer (some ⟨g,0,none⟩),.int .i64 (t239.length : Int)] rfl Z60 ?_;(with_reducible refine (spec_l1Below.calls g s0_0 t245 t246 (t239.length : Int) t248 t249 t250 w0 _ ?side1 ?side2 A3.out).mono ?_);(case side1 => exact Z107);(case side2 => exact Z30);rintro e w64 ⟨rfl,hi,hb,hk⟩;refine ⟨_,rfl,?_⟩;have n_ := jA (KeepBut.blk hk (g' := gb234) (o := .cells #[.slice none 0 0,.string (⟨#[]⟩ : ByteArray),.slice none 0 0,.slice none 0 0] 36 (0,0)) Z111 NB234_0.out Z150) (jA (Kd.R_mono (Kd.R_keep (IsS100.apart (show IsS100 w0 _ g s0_0 t245 t246 from Z107) (by (with_reducible repeat (first | apply Kd.R_alloc | apply Kd.R_drewN | apply Kd.R_drew));exact (Kd.R_mono (Kd.R_far (p := ⟨gb247,3,none⟩) (Kd.R_far (p := ⟨gb247,2,none⟩) (Kd.R_far (p := ⟨gb247,1,none⟩) (Kd.R_far (p := ⟨gb247,0,none⟩) (Kd.R_types HO237.out BK247.out Z154) (fun _ hk => hk.2) (.slice Ao58 t235.length co58)) (fun _ hk => hk.2) (.string t238)) (fun _ hk => hk.2) (.slice Ao62 t239.length co62)) (fun _ hk => hk.2) (.slice Ao63 t242.length co63)) (fun _ h_ => h_.1))) Z154) hk (fun _ h => h.2)) (fun _ h => h.1)) (jA (Kd.S_mono (Kd.S_keep (IsS100.apartS (show IsS100 w0 _ g s0_0 t245 t246 from Z107) (by (with_reducible repeat (first | apply Kd.S_alloc | apply Kd.S_drewN | apply Kd.S_drew));exact (Kd.S_mono (Kd.S_far (p := ⟨gb247,3,none⟩) (Kd.S_far (p := ⟨gb247,2,none⟩) (Kd.S_far (p := ⟨gb247,1,none⟩) (Kd.S_far (p := ⟨gb247,0,none⟩) (Kd.S_types HO241.out BK247.out Z154) (fun _ hk => hk.2) (.slice Ao58 t235.length co58)) (fun _ hk => hk.2) (.string t238)) (fun _ hk => hk.2) (.slice Ao62 t239.length co62)) (fun _ hk => hk.2) (.slice Ao63 t242.length co63)) (fun _ h_ => h_.1))) Z154) hk (fun _ h => h.2)) (fun _ h => h.1)) (jA (Kd.R_mono (Kd.R_keep (IsS100.apart (show IsS100 w0 _ g s0_0 t245 t246 from Z107) (by (with_reducible repeat (first | apply Kd.R_alloc | apply Kd.R_drewN | apply Kd.R_drew));exact (Kd.R_mono (Kd.R_far (p := ⟨gb247,3,none⟩) (Kd.R_far (p := ⟨gb247,2,none⟩) (Kd.R_far (p := ⟨gb247,1,none⟩) (Kd.R_far (p := ⟨gb247,0,none⟩) (Kd.R_types HO244.out BK247.out Z154) (fun _ hk => hk.2) (.slice Ao58 t235.length co58)) (fun _ hk => hk.2) (.string t238)) (fun _ hk => hk.2) (.slice Ao62 t239.length co62)) (fun _ hk => hk.2) (.slice Ao63 t242.length co63)) (fun _ h_ => h_.1))) Z154) hk (fun _ h => h.2)) (fun _ h => h.1)) (jA (KeepBut.blk hk (g' := gb247) (o := .cells #[.slice Ao58 t235.length co58,.string t238,.slice Ao62 t239.length co62,.slice Ao63 t242.length co63] 36 (0,0)) (by refine bP ?_;refine blk_put (cs := #[.slice Ao58 t235.length co58,.string t238,.slice Ao62 t239.length co62,.slice none 0 0]) ?_ 3 _ rfl;refine bP ?_;refine blk_put (cs := #[.slice Ao58 t235.length co58,.string t238,.slice none 0 0,.slice none 0 0]) ?_ 2 _ rfl;refine bP ?_;refine blk_put (cs := #[.slice Ao58 t235.length co58,.string (⟨#[]⟩ : ByteArray),.slice none 0 0,.slice none 0 0]) ?_ 1 _ rfl;refine bP ?_;refine blk_put (cs := #[.slice none 0 0,.string (⟨#[]⟩ : ByteArray),.slice none 0 0,.slice none 0 0]) ?_ 0 _ rfl;refine bP ?_;exact BK247.out) NB247_0.out Z150) (jA (KeepBut.trans Z112 hk (.inl rfl)) (jA (hb) (Aside0.mk (hi))))))));clear BK234 HO237 HO241 HO244 BK247 HK HB HI0;obtain ⟨BK234,HO237,HO241,HO244,BK247,HK,HB,HI0⟩ := n_;(try clear hb);(try clear hb2);(try clear hk);(try clear hi)) | ((with_reducible refine gate_callee (f := 76) rfl ?_);refine goesL_ (some 13) rfl rfl Try.func76 Z102 rfl #[.pointer (some ⟨g,0,none⟩),.int .i64 14] rfl Z60 ?_;(with_reducible refine (spec_l1Below.calls g s0_0 t249 t250 14 t251 t252 t253 w0 _ ?side1 ?side2 A4.out).mono ?_);(case side1 => exact Z107);(case side2 => exact Z30);rintro e w65 ⟨rfl,hi,hb,hk⟩;refine ⟨_,rfl,?_⟩;have n_ := jA (KeepBut.blk hk (g' := gb234) (o := .cells #[.slice none 0 0,.string (⟨#[]⟩ : ByteArray),.slice none 0 0,.slice none 0 0] 36 (0,0)) Z142 NB234_0.out Z150) (jA (Kd.R_mono (Kd.R_keep (IsS100.apart (show IsS100 w0 _ g s0_0 t249 t250 from Z107) Z134 Z154) hk (fun _ h => h.2)) (fun _ h => h.1)) (jA (Kd.S_mono (Kd.S_keep (IsS100.apartS (show IsS100 w0 _ g s0_0 t249 t250 from Z107) Z135 Z154) hk (fun _ h => h.2)) (fun _ h => h.1)) (jA (Kd.R_mono (Kd.R_keep (IsS100.apart (show IsS100 w0 _ g s0_0 t249 t250 from Z107) Z133 Z154) hk (fun _ h => h.2)) (fun _ h => h.1)) (jA (KeepBut.blk hk (g' := gb247) (o := .cells #[.slice Ao58 t235.length co58,.string t238,.slice Ao62 t239.length co62,.slice Ao63 t242.length co63] 36 (0,0)) Z144 NB247_0.out Z150) (jA (KeepBut.trans Z112 hk (.inl rfl)) (jA (hb) (Aside0.mk (hi))))))));clear BK234 HO237 HO241 HO244 BK247 HK HB HI0;obtain ⟨BK234,HO237,HO241,HO244,BK247,HK,HB,HI0⟩ := n_;(try clear hb);(try clear hb2);(try clear hk);(try clear hi)))
       have n0_ := Aside0.mk (Kd.R_drew HO237.out)
       have n1_ := Aside0.mk (Kd.S_drew HO241.out)
       have n2_ := Aside0.mk (Kd.R_drew HO244.out)
       have n3_ := Aside0.mk (blk_drew BK234.out)
       have n4_ := Aside0.mk (blk_drew BK247.out)
       have n5_ := Aside0.mk (IsS100.drew HI0.out)
       have n6_ := Aside0.mk (keep_drew HK.out)
       have n7_ := Aside0.mk (below_drew1 HB.out)
       clear HO237
       clear HO241
       clear HO244
       clear BK234
       clear BK247
       clear HI0
       clear HK
       clear HB
       have HO237 := n0_
       have HO241 := n1_
       have HO244 := n2_
       have BK234 := n3_
       have BK247 := n4_
       have HI0 := n5_
       have HK := n6_
       have HB := n7_
       clear n0_ n1_ n2_ n3_ n4_ n5_ n6_ n7_
       have p267 : 0 ≤ (t248 : Int) := of_decide_eq_true Z85
       have q267 : t248 < (t239.length : Int) := of_decide_eq_true Z85
       obtain ⟨ad267,A267_0,c267_0,e267,hx267_0,hl267_0,hi267_0⟩ := at_L3 (Kd.S_reads' HO241.out).2.2 t248 p267 q267
       cases e267
       obtain ⟨ce267,hce267,hMe267,hcc267⟩ := Kd.S_get HO241.out [] t248 p267 (by first | exact q267 | exact of_decide_eq_true Z85 | (have e_ := (Kd.S_reads' HO241.out).1;omega))
       obtain ⟨ve267_0,rfl,ge267_0⟩ := hMe267
       have hv267_0 := hcc267 0 _ rfl
       rw [Nat.add_zero,show ((Kd.slice 3 (Kd.int .i64))).sz = 1 from rfl,Nat.mul_one] at hv267_0
       replace hv267_0 := Option.some.inj (hv267_0.symm.trans hx267_0)
       rw [hv267_0] at ge267_0
       have HL267_0 := Aside0.mk (show Kd.R (Kd.int .i64) 3 _ _ _ _ (rd_L3 t239 t248) from ge267_0)
       clear hv267_0 ge267_0
       have HX267_0 := Aside0.mk hx267_0
       clear hcc267 hce267
       have HR267_0 := Aside0.mk hi267_0
       have HC267_0 := Aside0.mk hl267_0
       clear hi267_0 hl267_0
       replace p267 := eq_true p267
       replace q267 := eq_true q267
       obtain ⟨go67,co67,eo67,gb67,gl67,cl67,HG67⟩ := Kd.S_form HO241.out (by have h_ : (t248 : Int) < ((t239.length : Int) : Int) := of_decide_eq_true Z85;have h2_ : 0 ≤ (t248 : Int) := (of_decide_eq_true Z85);omega)
       (first | cases eo67 | (injection eo67 with ea_ en_ ec_;(first | subst ea_ | (injection ea_ with ea_;subst ea_));subst ec_;clear en_))
       have GB67 := Aside0.mk gb67
       have GG67 := Aside0.mk HG67
       clear gb67 gl67 HG67
       (first | simp only [add_plain] at hx267_0 | skip)
       obtain ⟨oki67,ce67,hcl67,hM67,hcc67,_,_,hH67⟩ := Kd.S_elem HO241.out [] (t248 : Int) (of_decide_eq_true Z85) (by have h_ : (t248 : Int) < ((t239.length : Int) : Int) := of_decide_eq_true Z85;first | exact h_ | (have e_ := (Kd.S_reads' HO241.out).1;omega) | simpa using h_)
       obtain ⟨ve67_0,rfl,ge67_0⟩ := hM67
       have hv67 := hcc67 0 _ rfl
       have hX67 := HX267_0.out
       (try simp only [add_plain] at hX67)
       (try simp only [Nat.add_zero] at hv67)
       (try rw [show ((Kd.slice 3 (Kd.int .i64))).sz = 1 from rfl,Nat.mul_one] at hv67)
       replace hv67 := Option.some.inj (hv67.symm.trans hX67)
       subst hv67
       clear hX67 hcc67 hcl67
       have UU67 := Aside0.mk (show Kd.R (Kd.int .i64) 3 _ w.heap.size oki67 (.slice A267_0 (rd_L3 t239 t248).length c267_0) (rd_L3 t239 t248) from ge67_0)
       have HH67 := Aside0.mk hH67
       have HN67 := Aside0.mk (Kd.S_reads' HO241.out).1
       clear hH67 ge67_0
       refine start_ (n := 12) (S := fun w' => w'.cell? ⟨gb247,0,none⟩ = some (.slice Ao58 t235.length co58) ∧ w'.cell? ⟨gb247,1,none⟩ = some (.string t238) ∧ w'.cell? ⟨gb247,2,none⟩ = some (.slice (some ⟨go67,0,none⟩) t239.length co62) ∧ w'.cell? ⟨gb247,3,none⟩ = some (.slice Ao63 t242.length co63) ∧ w'.cell? ⟨go67,(t248).toNat,none⟩ = some (.slice A267_0 (rd_L3 t239 t248).length c267_0)) (ds := [11]) #[false,false,false,false,false,false,false,false,false,false,false,false] Z102 rfl rfl ⟨(blk_cell BK247.out 0).trans rfl,(blk_cell BK247.out 1).trans rfl,(blk_cell BK247.out 2).trans rfl,(blk_cell BK247.out 3).trans rfl,hx267_0⟩ (fun hHeld => ?_);refine with_tabW spec_l9Bent.tab9 spec_l9Bent.bits9 (fun HT_ HW_ => ?_)
       generalize w65.drew = w66 at HO237 HO241 HO244 BK234 BK247 HI0 HK HB GG67 HH67 HL267_0 HR267_0 HX267_0 UU67 hx267_0 hHeld ⊢
       refine pure_ (i := 0) (N := some 30) (v := ?_) (a' := ?_) #[true,false,false,false,false,false,false,false,false,false,false,false] rfl rfl (any_of HT_.out Z102) (fun _ _ _ h => h) (Or.inl ⟨Z103,?_⟩) ?_ ?_
       rotate_left
       ·intro w'
        go_simp
        with_reducible rfl
       rotate_left
       ·simp only [Act.put,List.setIfInBounds_toArray,List.set_cons_zero,List.set_cons_succ,i64_w,i32_w]
        rfl
       refine pure_ (i := 2) (N := some 32) (v := ?_) (a' := ?_) #[true,false,true,false,false,false,false,false,false,false,false,false] rfl rfl (any_of HT_.out Z102) (fun _ _ _ h => h) (Or.inl ⟨Z103,?_⟩) ?_ ?_
       rotate_left
       ·intro w'
        go_simp
        with_reducible rfl
       rotate_left
       ·simp only [Act.put,List.setIfInBounds_toArray,List.set_cons_zero,List.set_cons_succ,i64_w,i32_w]
        rfl
       refine pure_ (i := 3) (N := some 33) (v := ?_) (a' := ?_) #[true,false,true,true,false,false,false,false,false,false,false,false] rfl rfl (any_of HT_.out Z102) (fun _ _ _ h => h) (Or.inl ⟨Z103,?_⟩) ?_ ?_
       rotate_left
       ·intro w'
        go_simp
        with_reducible rfl
       rotate_left
       ·simp only [Act.put,List.setIfInBounds_toArray,List.set_cons_zero,List.set_cons_succ,i64_w,i32_w]
        rfl
       refine pure_ (i := 5) (N := some 35) (v := ?_) (a' := ?_) #[true,false,true,true,false,true,false,false,false,false,false,false] rfl rfl (any_of HT_.out Z102) (fun _ _ _ h => h) (Or.inl ⟨Z103,?_⟩) ?_ ?_
       rotate_left
       ·intro w'
        go_simp
        with_reducible rfl
       rotate_left
       ·simp only [Act.put,List.setIfInBounds_toArray,List.set_cons_zero,List.set_cons_succ,i64_w,i32_w]
        rfl
       refine take_ (i := 1) (N := some 31) (v := ?_) (a' := ?_) #[true,true,true,true,false,true,false,false,false,false,false,false] rfl rfl (take_ofW HT_.out HW_.out Z102) (fun _ _ _ h => h) (Or.inl ⟨Z103,?_⟩) hHeld ?_ ?_
       rotate_left
       ·rintro w' ⟨s0,s1,s2,s3,s4⟩
        go_simp
        with_reducible rfl
       rotate_left
       ·simp only [Act.put,List.setIfInBounds_toArray,List.set_cons_zero,List.set_cons_succ,i64_w,i32_w]
        rfl
       refine take_ (i := 4) (N := some 34) (v := ?_) (a' := ?_) #[true,true,true,true,true,true,false,false,false,false,false,false] rfl rfl (take_ofW HT_.out HW_.out Z102) (fun _ _ _ h => h) (Or.inl ⟨Z103,?_⟩) hHeld ?_ ?_
       rotate_left
       ·rintro w' ⟨s0,s1,s2,s3,s4⟩
        go_simp
        with_reducible rfl
       rotate_left
       ·simp only [Act.put,List.setIfInBounds_toArray,List.set_cons_zero,List.set_cons_succ,i64_w,i32_w]
        rfl
       refine pure_ (i := 6) (N := some 36) (v := ?_) (a' := ?_) #[true,true,true,true,true,true,true,false,false,false,false,false] rfl rfl (any_of HT_.out Z102) (fun _ _ _ h => h) (Or.inl ⟨Z103,?_⟩) ?_ ?_
       rotate_left
       ·intro w'
        go_simp
        with_reducible rfl
       rotate_left
       ·simp only [Act.put,List.setIfInBounds_toArray,List.set_cons_zero,List.set_cons_succ,i64_w,i32_w]
        rfl
       refine take_ (i := 7) (N := some 37) (v := ?_) (a' := ?_) #[true,true,true,true,true,true,true,true,false,false,false,false] rfl rfl (take_ofW HT_.out HW_.out Z102) (fun _ _ _ h => h) (Or.inl ⟨Z103,?_⟩) hHeld ?_ ?_
       rotate_left
       ·rintro w' ⟨s0,s1,s2,s3,s4⟩
        go_simp
        with_reducible rfl
       rotate_left
       ·simp only [Act.put,List.setIfInBounds_toArray,List.set_cons_zero,List.set_cons_succ,i64_w,i32_w]
        rfl
       refine one_ (i := 8) (N := some 38) #[true,true,true,true,true,true,true,true,true,false,false,false] rfl rfl (one_of HT_.out Z102) Z154 (fun K hK => ?_)
       refine value_ (w1 := ?_) (v := ?_) Z103 rfl ?_ ?_
       rotate_left 2
       ·go_simp
        constructor
        ·rfl
        ·rfl
       refine hK.out _ _ ⟨(blk_cell (blk_alloc BK247.out _) 0).trans rfl,(blk_cell (blk_alloc BK247.out _) 1).trans rfl,(blk_cell (blk_alloc BK247.out _) 2).trans rfl,(blk_cell (blk_alloc BK247.out _) 3).trans rfl,(World.cell?_alloc_lt _ _ _ (World.block_lt_of_cell? _ _ (hHeld.2.2.2.2))).trans (hHeld.2.2.2.2)⟩ (fun hHeld => ?_)
       clear hK K
       refine norm_ (a' := ?_) ?_ ?_
       rotate_left
       ·show Act.put _ (some 38) _ = _
        simp only [Act.put,List.setIfInBounds_toArray,List.set_cons_zero,List.set_cons_succ,i64_w,i32_w]
        rfl
       refine one_ (i := 9) (N := some 39) #[true,true,true,true,true,true,true,true,true,true,false,false] rfl rfl (one_of HT_.out Z102) Z154 (fun K hK => ?_)
       refine Kd.R_append_step (Kd.int .i64) w.heap.size Z103 (.tmp 37) (.tmp 38) 34 3 (.int .i64 0) 8 rfl Try.underlying34 info3 rfl Z154 Z149 (.slice A267_0 (rd_L3 t239 t248).length c267_0) (rd_L3 t239 t248) 0 [.int .i64 0] (fun k_ => oki67 k_ ∨ ((fun k_ => some k_ ≠ (.slice Ao63 t242.length co63 : Value).ownBlock)) k_ ∧ w66.heap.size ≤ k_) (fun _ => False) rfl rfl ?aP (fun _ hk => hk.elim) ?aF ?aO (Below.refl _ _) ?aS ?aL ?_
       (case aP => exact rfl)
       (case aF => exact (fun k_ hk => .inr ⟨Kd.fresh' (Kd.R_lt Z133) k_ hk,hk⟩))
       (case aO => exact (by (with_reducible repeat (first | apply Kd.R_alloc | apply Kd.R_drewN | apply Kd.R_drew));exact Kd.R_mono UU67.out (fun _ hk => .inl hk)))
       (case aS => exact Z28)
       (case aL => have := LMc53.out;omega)
       intro v269 w68 ho hb hg hat
       (first | have HS4_ := cell_grown hg (hHeld.2.2.2.2) Z31 | have HS4_ := cell_grown hg (cell_unalloc (hHeld.2.2.2.2) (by first | (rw [add_block];exact Kd.S_lt HO241.out _ rfl) | (show (Addr.add _ _).block < _;rw [add_block];exact Kd.S_lt HO241.out _ rfl) | exact Kd.S_lt HO241.out _ rfl)) Z31)
       rw [← Ny268.out] at ho
       have n0_ := Aside0.mk (IsS100.grown Z23 hg (IsS100.own_ne HI0.out HL267_0.out Z154))
       have n1_ := Aside0.mk (blk_grown (g := gb234) (o := .cells #[.slice none 0 0,.string (⟨#[]⟩ : ByteArray),.slice none 0 0,.slice none 0 0] 36 (0,0)) Z142 hg (Kd.R_ne HL267_0.out BK234.out Z154))
       have n2_ := Aside0.mk (Kd.R_over' (v := (.slice A267_0 (rd_L3 t239 t248).length c267_0)) Z134 (Kd.R_typed HL267_0.out) Z154 hg)
       have n3_ := Aside0.mk (Kd.R_grown2 Z133 rfl hg (fun k_ e_ => (HL267_0.out.1 k_ e_).1))
       have n4_ := Aside0.mk (blk_grown (g := gb247) (o := .cells #[.slice Ao58 t235.length co58,.string t238,.slice (some ⟨go67,0,none⟩) t239.length co62,.slice Ao63 t242.length co63] 36 (0,0)) Z144 hg (Kd.R_ne HL267_0.out BK247.out Z154))
       have n5_ := Aside0.mk (below_weaken Z30 HL.out hb)
       have n6_ := Aside0.mk (KeepBut.trans Z112 (KeepBut.of_grown hg g) (Kd.R_base2 HL267_0.out))
       have n7_ := Aside0.mk (Kd.H_grown (Kd.H_widen (by repeat (first | exact HH67.out | refine Kd.H_alloc ?_ _ | refine Kd.H_drewN ?_ _ | refine Kd.H_drew ?_))) hg (fun k_ e_ => .inl (UU67.out.1 k_ e_)))
       have n8_ := Aside0.mk (ho)
       clear HI0
       clear BK234
       clear HO237
       clear HO244
       clear BK247
       clear HB
       clear HK
       clear HH67
       clear HO241
       clear UU67
       clear HL267_0
       have HI0 := n0_
       have BK234 := n1_
       have HO237 := n2_
       have HO244 := n3_
       have BK247 := n4_
       have HB := n5_
       have HK := n6_
       have HH67 := n7_
       have HO270 := n8_
       clear n0_ n1_ n2_ n3_ n4_ n5_ n6_ n7_ n8_
       clear ho hb hg hat
       have p54 : 0 ≤ (t248 : Int) := of_decide_eq_true Z85
       have q54 : (t248 : Int) < ((t239.length : Int) : Int) := of_decide_eq_true Z85
       replace p54 := eq_true p54
       replace q54 := eq_true q54
       obtain ⟨Ao71,co71,eo71⟩ := Kd.R_slice HO270.out
       (first | subst eo71 | (injection eo71 with f1_ f2_ f3_;have f4_ := f1_.symm;have f5_ := f3_.symm;clear f1_ f2_ f3_;subst f4_;subst f5_))
       obtain ⟨_,_,hraw69,_,_,hcc69,_⟩ := Kd.H_raw HH67.out (of_decide_eq_true Z85) (by have h_ : (t248 : Int) < ((t239.length : Int) : Int) := of_decide_eq_true Z85;first | exact h_ | (have e_ := (HN67.out);omega) | simpa using h_)
       obtain ⟨_,hfr69⟩ := Kd.H_at HH67.out (of_decide_eq_true Z85) (by have h_ : (t248 : Int) < ((t239.length : Int) : Int) := of_decide_eq_true Z85;first | exact h_ | (have e_ := (HN67.out);omega) | simpa using h_)
       have hx69_0 := hcc69 0 _ rfl
       have hf69_0 := hfr69 0
       (try simp only [Nat.add_zero] at hx69_0 hf69_0)
       (try rw [show ((Kd.slice 3 (Kd.int .i64))).sz = 1 from rfl,Nat.mul_one] at hx69_0)
       (try rw [show ((Kd.slice 3 (Kd.int .i64))).sz = 1 from rfl,Nat.mul_one] at hf69_0)
       have HP69 := Kd.S_seg0 HH67.out (of_decide_eq_true Z85) (by have h_ : (t248 : Int) < ((t239.length : Int) : Int) := of_decide_eq_true Z85;first | exact h_ | (have e_ := (HN67.out);omega) | simpa using h_) (seg := [.slice Ao71 y268.length co71]) (j := 0) (show 1 ≤ 1 from Z154) (x' := y268) (Kd.M_row HO270.out) (fun _ hk => hk)
       (try simp only [show ((Kd.slice 3 (Kd.int .i64))).sz = 1 from rfl,Nat.mul_one,Nat.add_zero] at HP69)
       clear hcc69 hfr69
       have HN0_go67 := Aside0.mk (show g ≠ go67 from by have h_ := IsS100.own_ne HI0.out hraw69 Z154;intro e_;exact h_ Z101)
       have HNB234_go67 := Aside0.mk (show gb234 ≠ go67 from by have h_ := Kd.R_ne hraw69 BK234.out Z154;intro e_;exact h_ Z101)
       have HNB247_go67 := Aside0.mk (show gb247 ≠ go67 from by have h_ := Kd.R_ne hraw69 BK247.out Z154;intro e_;exact h_ Z101)
       have HS69 := HP69.1
       rw [← Ny271.out] at HS69
       have HQ69 := Aside0.mk HS69
       obtain ⟨_,hgg69⟩ := Kd.R_typed hraw69 go67 rfl
       have GG69_ := Aside0.mk hgg69
       clear HP69 HS69 hgg69
       refine hK.out _ _ ⟨(blk_cell BK247.out 0).trans rfl,(blk_cell BK247.out 1).trans rfl,(blk_cell BK247.out 2).trans rfl,(blk_cell BK247.out 3).trans rfl,HS4_⟩ (fun hHeld => ?_)
       clear hK K
       refine norm_ (a' := ?_) ?_ ?_
       rotate_left
       ·show Act.put _ (some 39) _ = _
        simp only [Act.put,List.setIfInBounds_toArray,List.set_cons_zero,List.set_cons_succ,i64_w,i32_w]
        rfl
       refine pure_ (i := 10) (N := some 40) (v := ?_) (a' := ?_) #[true,true,true,true,true,true,true,true,true,true,true,false] rfl rfl (any_of HT_.out Z102) (fun _ _ _ h => h) (Or.inl ⟨Z103,?_⟩) ?_ ?_
       rotate_left
       ·intro w'
        go_simp
        with_reducible rfl
       rotate_left
       ·simp only [Act.put,List.setIfInBounds_toArray,List.set_cons_zero,List.set_cons_succ,i64_w,i32_w]
        rfl
       refine last_ (i := 11) (N := none) #[true,true,true,true,true,true,true,true,true,true,true,true] rfl rfl (one_of HT_.out Z102) Z154 (fun K hK => ?_)
       refine skip_ (w1 := ?_) Z103 rfl ?_ ?_
       rotate_left
       ·go_simp
        rfl
       refine hK.out _ _ ?_
       clear hK K
       refine done_ (done_of HT_.out Z102) ?_
       have n0_ : Aside0 (Kd.R Kd.string 9 (w68.setCell ⟨go67,(t248 : Int).toNat,none⟩ (.slice Ao71 y268.length co71)) w.heap.size (fun _ => True) (.slice Ao58 t235.length co58) t235) := ⟨by (with_reducible repeat (first | apply Kd.R_alloc | apply Kd.R_drewN | apply Kd.R_drew));exact Kd.R_mono (Kd.R_far (p := ⟨go67,(t248 : Int).toNat,none⟩) (Kd.R_types HO237.out GG69_.out Z154) (fun _ hk => hk.2) (.slice Ao71 y268.length co71)) (fun _ hk => trivial)⟩
       have n1_ : Aside0 (Kd.R (Kd.int .i64) 3 (w68.setCell ⟨go67,(t248 : Int).toNat,none⟩ (.slice Ao71 y268.length co71)) w.heap.size (fun _ => True) (.slice Ao63 t242.length co63) t242) := ⟨by (with_reducible repeat (first | apply Kd.R_alloc | apply Kd.R_drewN | apply Kd.R_drew));exact Kd.R_mono (Kd.R_far (p := ⟨go67,(t248 : Int).toNat,none⟩) (Kd.R_types HO244.out GG69_.out Z154) (fun _ hk => hk.2) (.slice Ao71 y268.length co71)) (fun _ hk => trivial)⟩
       have n2_ : Aside0 (Kd.S (Kd.slice 3 (Kd.int .i64)) 34 (w68.setCell ⟨go67,(t248 : Int).toNat,none⟩ (.slice Ao71 y268.length co71)) w.heap.size (fun k_ => some k_ ≠ (.slice Ao63 t242.length co63 : Value).ownBlock) (.slice (some ⟨go67,0,none⟩) t239.length co62) y271) := ⟨by (with_reducible repeat (first | apply Kd.S_alloc | apply Kd.S_drewN | apply Kd.S_drew));exact HQ69.out⟩
       have n3_ : Aside0 ((w68.setCell ⟨go67,(t248 : Int).toNat,none⟩ (.slice Ao71 y268.length co71)).heap[gb234]? = some (.cells #[.slice none 0 0,.string (⟨#[]⟩ : ByteArray),.slice none 0 0,.slice none 0 0] 36 (0,0))) := ⟨by refine bP ?_;refine blk_far ?_ HNB234_go67.out _;refine bP ?_;exact BK234.out⟩
       have n4_ : Aside0 ((w68.setCell ⟨go67,(t248 : Int).toNat,none⟩ (.slice Ao71 y268.length co71)).heap[gb247]? = some (.cells #[.slice Ao58 t235.length co58,.string t238,.slice (some ⟨go67,0,none⟩) t239.length co62,.slice Ao63 t242.length co63] 36 (0,0))) := ⟨by refine bP ?_;refine blk_far ?_ HNB247_go67.out _;refine bP ?_;exact BK247.out⟩
       have n5_ : Aside0 (IsS100 w0 (w68.setCell ⟨go67,(t248 : Int).toNat,none⟩ (.slice Ao71 y268.length co71)) g s0_0 t252 t253) := ⟨by repeat (first | (with_reducible first | exact HI0.out | apply IsS100.alloc | apply IsS100.drewN | apply IsS100.drew | apply IsS100.set_1 | apply IsS100.set_2 | refine IsS100.far ?_ HN0_go67.out _ | refine IsS100.far ?_ NB0_234.out _ | refine IsS100.far ?_ NB0_247.out _) | exact HI0.out)⟩
       have n6_ : Aside0 (KeepBut w (w68.setCell ⟨go67,(t248 : Int).toNat,none⟩ (.slice Ao71 y268.length co71)) g none) := ⟨by repeat (first | (with_reducible first | exact HK.out | apply KeepBut.set_ | apply keep_drewN | apply keep_drew | apply keep_alloc | refine keep_far ?_ GB67.out _ | refine keep_far ?_ GW234.out _ | refine keep_far ?_ GW247.out _) | exact HK.out)⟩
       have n7_ : Aside0 (Below w0.heap.size w0 (w68.setCell ⟨go67,(t248 : Int).toNat,none⟩ (.slice Ao71 y268.length co71))) := ⟨by repeat (first | (with_reducible first | exact HB.out | apply below_alloc | apply pw_below_drewN | apply below_drew1 | refine below_set ?_ (Nat.le_trans HL.out GB67.out) | refine below_set ?_ (IsS100.ge HI0.out) | refine below_set ?_ GE234.out | refine below_set ?_ GE247.out) | exact HB.out)⟩
       (try clear HO237)
       (try clear HO244)
       (try clear HO241)
       (try clear BK234)
       (try clear BK247)
       (try clear HI0)
       (try clear HK)
       (try clear HB)
       generalize (w68.setCell ⟨go67,(t248 : Int).toNat,none⟩ (.slice Ao71 y268.length co71)) = w72 at n0_ n1_ n2_ n3_ n4_ n5_ n6_ n7_ ⊢
       have HO237 := n0_
       have HO244 := n1_
       have HO241 := n2_
       have BK234 := n3_
       have BK247 := n4_
       have HI0 := n5_
       have HK := n6_
       have HB := n7_
       clear n0_ n1_ n2_ n3_ n4_ n5_ n6_ n7_
       obtain ⟨hcz73_0,hcz73_1,hcz73_2,hcz73_3,hfz73_0,hfz73_1,hfz73_2,hfz73_3⟩ := cells4 BK247.out
       have hnb74 := NB234_0.out
       have hnc74 := NB0_234.out
       obtain ⟨hcz75_0,hcz75_1,hcz75_2,hcz75_3,hfz75_0,hfz75_1,hfz75_2,hfz75_3⟩ := cells4 BK234.out
       try go_wp2
       refine bodyPost_ret (results_cell_row rfl _ _ gb234 36 #[.slice Ao58 t235.length co58,.string t238,.slice (some ⟨go67,0,none⟩) t239.length co62,.slice Ao63 t242.length co63] (0,0) _ rfl (by refine bP ?_;refine blk_put (cs := #[.slice Ao58 t235.length co58,.string t238,.slice (some ⟨go67,0,none⟩) t239.length co62,.slice none 0 0]) ?_ 3 _ rfl;refine bP ?_;refine blk_put (cs := #[.slice Ao58 t235.length co58,.string t238,.slice none 0 0,.slice none 0 0]) ?_ 2 _ rfl;refine bP ?_;refine blk_put (cs := #[.slice Ao58 t235.length co58,.string (⟨#[]⟩ : ByteArray),.slice none 0 0,.slice none 0 0]) ?_ 1 _ rfl;refine bP ?_;refine blk_put (cs := #[.slice none 0 0,.string (⟨#[]⟩ : ByteArray),.slice none 0 0,.slice none 0 0]) ?_ 0 _ rfl;refine bP ?_;exact BK234.out) Try.underlying36 rfl Z102) rfl ?_
       exact ⟨_,_,_,Z77,by (with_reducible repeat (first | apply Kd.R_alloc | apply Kd.R_drewN | apply Kd.R_drew));exact Kd.R_mono (Kd.R_far (p := ⟨gb234,3,none⟩) (Kd.R_far (p := ⟨gb234,2,none⟩) (Kd.R_far (p := ⟨gb234,1,none⟩) (Kd.R_far (p := ⟨gb234,0,none⟩) (Kd.R_types HO237.out BK234.out Z154) (fun _ hk => hk.2) (.slice Ao58 t235.length co58)) (fun _ hk => hk.2) (.string t238)) (fun _ hk => hk.2) (.slice (some ⟨go67,0,none⟩) t239.length co62)) (fun _ hk => hk.2) (.slice Ao63 t242.length co63)) (fun _ hk => trivial),by (with_reducible repeat (first | apply Kd.S_alloc | apply Kd.S_drewN | apply Kd.S_drew));exact Kd.S_mono (Kd.S_far (p := ⟨gb234,3,none⟩) (Kd.S_far (p := ⟨gb234,2,none⟩) (Kd.S_far (p := ⟨gb234,1,none⟩) (Kd.S_far (p := ⟨gb234,0,none⟩) (Kd.S_types HO241.out BK234.out Z154) (fun _ hk => hk.2) (.slice Ao58 t235.length co58)) (fun _ hk => hk.2) (.string t238)) (fun _ hk => hk.2) (.slice (some ⟨go67,0,none⟩) t239.length co62)) (fun _ hk => hk.2) (.slice Ao63 t242.length co63)) (fun _ hk => hk.1),by (with_reducible repeat (first | apply Kd.R_alloc | apply Kd.R_drewN | apply Kd.R_drew));exact Kd.R_mono (Kd.R_far (p := ⟨gb234,3,none⟩) (Kd.R_far (p := ⟨gb234,2,none⟩) (Kd.R_far (p := ⟨gb234,1,none⟩) (Kd.R_far (p := ⟨gb234,0,none⟩) (Kd.R_types HO244.out BK234.out Z154) (fun _ hk => hk.2) (.slice Ao58 t235.length co58)) (fun _ hk => hk.2) (.string t238)) (fun _ hk => hk.2) (.slice (some ⟨go67,0,none⟩) t239.length co62)) (fun _ hk => hk.2) (.slice Ao63 t242.length co63)) (fun _ hk => trivial),Z107,Z30,Z112⟩
      ·rw [if_neg c53] at H
       exact absurd H Z150
     ·rw [if_neg c52] at H
      exact absurd H Z150
    ·rw [if_neg c51] at H
     exact absurd H Z150
   ·rw [if_neg c50] at H
    have c50b0 : (t251 == 2) = false := beq_eq_false_iff_ne.mpr c50
    have c50b1 : (t251 != 2) = true := bne_iff_ne.mpr c50
    by_cases c76 : t251 = 3
    ·rw [if_pos c76] at H
     have c76b0 : (t251 == 3) = true := beq_iff_eq.mpr c76
     have c76b1 : (t251 != 3) = false := bne_eq_false_iff_eq.mpr c76
     clear c76
     by_cases c77 : 0 ≤ t248
     ·rw [if_pos c77] at H
      have c77b0 : decide (0 ≤ t248) = true := decide_eq_true c77
      clear c77
      by_cases c78 : t248 < (t239.length : Int)
      ·rw [if_pos c78] at H
       have c78b0 : decide (t248 < (t239.length : Int)) = true := decide_eq_true c78
       clear c78
       obtain ⟨y273,hy273⟩ : ∃ y_ : List Int,y_ = (([2147483647,2147483648,(-2147483648)] : List Int)) := ⟨_,rfl⟩
       replace H : ((spec_l1PickInt.f s0_0 t252 t253 y273).bind fun bt276 => (if 0 < ((rd_L3 t239 t248).length : Int) then (some (t235,t238,(t239.set (t248 : Int).toNat ((rd_L3 t239 t248).set (0 : Int).toNat bt276.1)),t242,bt276.2.1,bt276.2.2)) else (none))) = some (r1,r2,r3,r4,r5,r6) := by first | (rw [hy273];with_reducible exact H) | (have H2_ := (Option.bind_some _ _).symm.trans H;rw [hy273];with_reducible exact H2_) | (have H2_ := (Option.bind_some _ _).symm.trans H;with_reducible exact H2_) | with_reducible exact H | (rw [hy273];exact H) | exact H
       have Ny273 := Aside0.mk hy273
       clear hy273
       obtain ⟨⟨t276,t277,t278⟩,A790,H⟩ := Option.bind_eq_some_iff.mp H
       try dsimp only at H
       have A79 := Aside0.mk A790
       clear A790
       by_cases c80 : 0 < ((rd_L3 t239 t248).length : Int)
       ·rw [if_pos c80] at H
        have c80b0 : decide (0 < ((rd_L3 t239 t248).length : Int)) = true := decide_eq_true c80
        have c80b1 : decide (0 < (rd_L3 t239 t248).length) = true := decide_eq_true Z149
        clear c80
        obtain ⟨y279,hy279⟩ : ∃ y_ : List Int,y_ = ((rd_L3 t239 t248).set (0 : Int).toNat t276) := ⟨_,rfl⟩
        replace H : (some (t235,t238,(t239.set (t248 : Int).toNat y279),t242,t277,t278)) = some (r1,r2,r3,r4,r5,r6) := by first | (rw [hy279];with_reducible exact H) | (have H2_ := (Option.bind_some _ _).symm.trans H;rw [hy279];with_reducible exact H2_) | (have H2_ := (Option.bind_some _ _).symm.trans H;with_reducible exact H2_) | with_reducible exact H | (rw [hy279];exact H) | exact H
        have Ny279 := Aside0.mk hy279
        clear hy279
        obtain ⟨y281,hy281⟩ : ∃ y_ : List (List Int),y_ = (t239.set (t248 : Int).toNat y279) := ⟨_,rfl⟩
        replace H : (some (t235,t238,y281,t242,t277,t278)) = some (r1,r2,r3,r4,r5,r6) := by first | (rw [hy281];with_reducible exact H) | (have H2_ := (Option.bind_some _ _).symm.trans H;rw [hy281];with_reducible exact H2_) | (have H2_ := (Option.bind_some _ _).symm.trans H;with_reducible exact H2_) | with_reducible exact H | (rw [hy281];exact H) | exact H
        have Ny281 := Aside0.mk hy281
        clear hy281
        simp only [Option.some.injEq,Prod.mk.injEq] at H
        obtain ⟨rfl,rfl,rfl,rfl,rfl,rfl⟩ := H
        go_enter Try.func48,Try.ntmps48
        try go_wp2_with (first | ((with_reducible refine gate_dst (N := 2) rfl ?_);refine bE 2 #[.slice none 0 0,.string (⟨#[]⟩ : ByteArray),.slice none 0 0,.slice none 0 0] 36 (h := ?_);intro gb234 hg w82 hbox hb;have n_ := Z8;clear HI0 HK HB;obtain ⟨HI0,HK,HB,BK234,GW234,GE234,NB0_234,NB234_0⟩ := n_;clear hb hbox hg) | ((with_reducible refine gate_callee (f := 75) rfl ?_);refine goesL_ (some 6) rfl rfl Try.func75 Z102 rfl #[.pointer (some ⟨g,0,none⟩)] rfl Z60 ?_;(with_reducible refine (spec_l9Right.calls k g s0_0 s0_1 s0_2 t235 t238 t239 t242 t245 t246 w0 _ ?side1 ?side2 A2.out).mono ?_);(case side1 => exact Z114);(case side2 => exact Z116);rintro e w83 ⟨v236,v240,v243,rfl,ho0,ho1,ho2,hi,hb,hk⟩;refine ⟨_,rfl,?_⟩;have n_ := Z11;clear BK234 HK HB HI0;obtain ⟨BK234,HO237,HO241,HO244,HK,HB,HI0⟩ := n_;(try clear hb);(try clear hb2);(try clear hk);(try clear hi);(try clear ho0);(try clear ho1);(try clear ho2)) | ((with_reducible refine gate_dst (N := 3) rfl ?_);refine bE 3 #[.slice none 0 0,.string (⟨#[]⟩ : ByteArray),.slice none 0 0,.slice none 0 0] 36 (h := ?_);intro gb247 hg w84 hbox hb;have n_ := Z3;clear HO237 HO241 HO244 HI0 BK234 HK HB;obtain ⟨HO237,HO241,HO244,HI0,BK234,HK,HB,BK247,GW247,GE247,NB234_247,NB247_234,NB0_247,NB247_0⟩ := n_;clear hb hbox hg;obtain ⟨Ao85,co85,eo85⟩ := Kd.R_slice HO237.out;subst eo85;have hnb86 := NB247_234.out;have hnc86 := NB234_247.out;have hnb87 := NB247_0.out;have hnc87 := NB0_247.out;obtain ⟨hcz88_0,hcz88_1,hcz88_2,hcz88_3,hfz88_0,hfz88_1,hfz88_2,hfz88_3⟩ := cells4 BK247.out;obtain ⟨Ao89,co89,eo89⟩ := Kd.S_slice HO241.out;subst eo89;obtain ⟨Ao90,co90,eo90⟩ := Kd.R_slice HO244.out;subst eo90) | ((with_reducible refine gate_callee (f := 76) rfl ?_);refine goesL_ (some 11) rfl rfl Try.func76 Z102 rfl #[.pointer (some ⟨g,0,none⟩),.int .i64 (t239.length : Int)] rfl Z60 ?_;(with_reducible refine (spec_l1Below.calls g s0_0 t245 t246 (t239.length : Int) t248 t249 t250 w0 _ ?side1 ?side2 A3.out).mono ?_);(case side1 => exact Z107);(case side2 => exact Z30);rintro e w91 ⟨rfl,hi,hb,hk⟩;refine ⟨_,rfl,?_⟩;have n_ := jA (KeepBut.blk hk (g' := gb234) (o := .cells #[.slice none 0 0,.string (⟨#[]⟩ : ByteArray),.slice none 0 0,.slice none 0 0] 36 (0,0)) Z111 NB234_0.out Z150) (jA (Kd.R_mono (Kd.R_keep (IsS100.apart (show IsS100 w0 _ g s0_0 t245 t246 from Z107) (by (with_reducible repeat (first | apply Kd.R_alloc | apply Kd.R_drewN | apply Kd.R_drew));exact (Kd.R_mono (Kd.R_far (p := ⟨gb247,3,none⟩) (Kd.R_far (p := ⟨gb247,2,none⟩) (Kd.R_far (p := ⟨gb247,1,none⟩) (Kd.R_far (p := ⟨gb247,0,none⟩) (Kd.R_types HO237.out BK247.out Z154) (fun _ hk => hk.2) (.slice Ao85 t235.length co85)) (fun _ hk => hk.2) (.string t238)) (fun _ hk => hk.2) (.slice Ao89 t239.length co89)) (fun _ hk => hk.2) (.slice Ao90 t242.length co90)) (fun _ h_ => h_.1))) Z154) hk (fun _ h => h.2)) (fun _ h => h.1)) (jA (Kd.S_mono (Kd.S_keep (IsS100.apartS (show IsS100 w0 _ g s0_0 t245 t246 from Z107) (by (with_reducible repeat (first | apply Kd.S_alloc | apply Kd.S_drewN | apply Kd.S_drew));exact (Kd.S_mono (Kd.S_far (p := ⟨gb247,3,none⟩) (Kd.S_far (p := ⟨gb247,2,none⟩) (Kd.S_far (p := ⟨gb247,1,none⟩) (Kd.S_far (p := ⟨gb247,0,none⟩) (Kd.S_types HO241.out BK247.out Z154) (fun _ hk => hk.2) (.slice Ao85 t235.length co85)) (fun _ hk => hk.2) (.string t238)) (fun _ hk => hk.2) (.slice Ao89 t239.length co89)) (fun _ hk => hk.2) (.slice Ao90 t242.length co90)) (fun _ h_ => h_.1))) Z154) hk (fun _ h => h.2)) (fun _ h => h.1)) (jA (Kd.R_mono (Kd.R_keep (IsS100.apart (show IsS100 w0 _ g s0_0 t245 t246 from Z107) (by (with_reducible repeat (first | apply Kd.R_alloc | apply Kd.R_drewN | apply Kd.R_drew));exact (Kd.R_mono (Kd.R_far (p := ⟨gb247,3,none⟩) (Kd.R_far (p := ⟨gb247,2,none⟩) (Kd.R_far (p := ⟨gb247,1,none⟩) (Kd.R_far (p := ⟨gb247,0,none⟩) (Kd.R_types HO244.out BK247.out Z154) (fun _ hk => hk.2) (.slice Ao85 t235.length co85)) (fun _ hk => hk.2) (.string t238)) (fun _ hk => hk.2) (.slice Ao89 t239.length co89)) (fun _ hk => hk.2) (.slice Ao90 t242.length co90)) (fun _ h_ => h_.1))) Z154) hk (fun _ h => h.2)) (fun _ h => h.1)) (jA (KeepBut.blk hk (g' := gb247) (o := .cells #[.slice Ao85 t235.length co85,.string t238,.slice Ao89 t239.length co89,.slice Ao90 t242.length co90] 36 (0,0)) (by refine bP ?_;refine blk_put (cs := #[.slice Ao85 t235.length co85,.string t238,.slice Ao89 t239.length co89,.slice none 0 0]) ?_ 3 _ rfl;refine bP ?_;refine blk_put (cs := #[.slice Ao85 t235.length co85,.string t238,.slice none 0 0,.slice none 0 0]) ?_ 2 _ rfl;refine bP ?_;refine blk_put (cs := #[.slice Ao85 t235.length co85,.string (⟨#[]⟩ : ByteArray),.slice none 0 0,.slice none 0 0]) ?_ 1 _ rfl;refine bP ?_;refine blk_put (cs := #[.slice none 0 0,.string (⟨#[]⟩ : ByteArray),.slice none 0 0,.slice none 0 0]) ?_ 0 _ rfl;refine bP ?_;exact BK247.out) NB247_0.out Z150) (jA (KeepBut.trans Z112 hk (.inl rfl)) (jA (hb) (Aside0.mk (hi))))))));clear BK234 HO237 HO241 HO244 BK247 HK HB HI0;obtain ⟨BK234,HO237,HO241,HO244,BK247,HK,HB,HI0⟩ := n_;(try clear hb);(try clear hb2);(try clear hk);(try clear hi)) | ((with_reducible refine gate_callee (f := 76) rfl ?_);refine goesL_ (some 13) rfl rfl Try.func76 Z102 rfl #[.pointer (some ⟨g,0,none⟩),.int .i64 14] rfl Z60 ?_;(with_reducible refine (spec_l1Below.calls g s0_0 t249 t250 14 t251 t252 t253 w0 _ ?side1 ?side2 A4.out).mono ?_);(case side1 => exact Z107);(case side2 => exact Z30);rintro e w92 ⟨rfl,hi,hb,hk⟩;refine ⟨_,rfl,?_⟩;have n_ := jA (KeepBut.blk hk (g' := gb234) (o := .cells #[.slice none 0 0,.string (⟨#[]⟩ : ByteArray),.slice none 0 0,.slice none 0 0] 36 (0,0)) Z142 NB234_0.out Z150) (jA (Kd.R_mono (Kd.R_keep (IsS100.apart (show IsS100 w0 _ g s0_0 t249 t250 from Z107) Z134 Z154) hk (fun _ h => h.2)) (fun _ h => h.1)) (jA (Kd.S_mono (Kd.S_keep (IsS100.apartS (show IsS100 w0 _ g s0_0 t249 t250 from Z107) Z135 Z154) hk (fun _ h => h.2)) (fun _ h => h.1)) (jA (Kd.R_mono (Kd.R_keep (IsS100.apart (show IsS100 w0 _ g s0_0 t249 t250 from Z107) Z133 Z154) hk (fun _ h => h.2)) (fun _ h => h.1)) (jA (KeepBut.blk hk (g' := gb247) (o := .cells #[.slice Ao85 t235.length co85,.string t238,.slice Ao89 t239.length co89,.slice Ao90 t242.length co90] 36 (0,0)) Z144 NB247_0.out Z150) (jA (KeepBut.trans Z112 hk (.inl rfl)) (jA (hb) (Aside0.mk (hi))))))));clear BK234 HO237 HO241 HO244 BK247 HK HB HI0;obtain ⟨BK234,HO237,HO241,HO244,BK247,HK,HB,HI0⟩ := n_;(try clear hb);(try clear hb2);(try clear hk);(try clear hi)))
        have n0_ := Aside0.mk (Kd.R_drew HO237.out)
        have n1_ := Aside0.mk (Kd.S_drew HO241.out)
        have n2_ := Aside0.mk (Kd.R_drew HO244.out)
        have n3_ := Aside0.mk (blk_drew BK234.out)
        have n4_ := Aside0.mk (blk_drew BK247.out)
        have n5_ := Aside0.mk (IsS100.drew HI0.out)
        have n6_ := Aside0.mk (keep_drew HK.out)
        have n7_ := Aside0.mk (below_drew1 HB.out)
        clear HO237
        clear HO241
        clear HO244
        clear BK234
        clear BK247
        clear HI0
        clear HK
        clear HB
        have HO237 := n0_
        have HO241 := n1_
        have HO244 := n2_
        have BK234 := n3_
        have BK247 := n4_
        have HI0 := n5_
        have HK := n6_
        have HB := n7_
        clear n0_ n1_ n2_ n3_ n4_ n5_ n6_ n7_
        have p272 : 0 ≤ (t248 : Int) := of_decide_eq_true Z85
        have q272 : t248 < (t239.length : Int) := of_decide_eq_true Z85
        obtain ⟨ad272,A272_0,c272_0,e272,hx272_0,hl272_0,hi272_0⟩ := at_L3 (Kd.S_reads' HO241.out).2.2 t248 p272 q272
        cases e272
        obtain ⟨ce272,hce272,hMe272,hcc272⟩ := Kd.S_get HO241.out [] t248 p272 (by first | exact q272 | exact of_decide_eq_true Z85 | (have e_ := (Kd.S_reads' HO241.out).1;omega))
        obtain ⟨ve272_0,rfl,ge272_0⟩ := hMe272
        have hv272_0 := hcc272 0 _ rfl
        rw [Nat.add_zero,show ((Kd.slice 3 (Kd.int .i64))).sz = 1 from rfl,Nat.mul_one] at hv272_0
        replace hv272_0 := Option.some.inj (hv272_0.symm.trans hx272_0)
        rw [hv272_0] at ge272_0
        have HL272_0 := Aside0.mk (show Kd.R (Kd.int .i64) 3 _ _ _ _ (rd_L3 t239 t248) from ge272_0)
        clear hv272_0 ge272_0
        have HX272_0 := Aside0.mk hx272_0
        clear hcc272 hce272
        have HR272_0 := Aside0.mk hi272_0
        have HC272_0 := Aside0.mk hl272_0
        clear hi272_0 hl272_0
        replace p272 := eq_true p272
        replace q272 := eq_true q272
        refine start_ (n := 10) (S := fun w' => w'.cell? ⟨gb247,0,none⟩ = some (.slice Ao85 t235.length co85) ∧ w'.cell? ⟨gb247,1,none⟩ = some (.string t238) ∧ w'.cell? ⟨gb247,2,none⟩ = some (.slice (some ad272) t239.length co89) ∧ w'.cell? ⟨gb247,3,none⟩ = some (.slice Ao90 t242.length co90) ∧ w'.cell? (ad272.add (t248).toNat) = some (.slice A272_0 (rd_L3 t239 t248).length c272_0)) (ds := [9]) #[false,false,false,false,false,false,false,false,false,false] Z102 rfl rfl ⟨(blk_cell BK247.out 0).trans rfl,(blk_cell BK247.out 1).trans rfl,(blk_cell BK247.out 2).trans rfl,(blk_cell BK247.out 3).trans rfl,hx272_0⟩ (fun hHeld => ?_);refine with_tabW spec_l9Bent.tab11 spec_l9Bent.bits11 (fun HT_ HW_ => ?_)
        generalize w92.drew = w93 at HO237 HO241 HO244 BK234 BK247 HI0 HK HB HL272_0 HR272_0 HX272_0 hx272_0 hHeld ⊢
        refine pure_ (i := 0) (N := some 43) (v := ?_) (a' := ?_) #[true,false,false,false,false,false,false,false,false,false] rfl rfl (any_of HT_.out Z102) (fun _ _ _ h => h) (Or.inl ⟨Z103,?_⟩) ?_ ?_
        rotate_left
        ·intro w'
         go_simp
         with_reducible rfl
        rotate_left
        ·simp only [Act.put,List.setIfInBounds_toArray,List.set_cons_zero,List.set_cons_succ,i64_w,i32_w]
         rfl
        refine pure_ (i := 2) (N := some 45) (v := ?_) (a' := ?_) #[true,false,true,false,false,false,false,false,false,false] rfl rfl (any_of HT_.out Z102) (fun _ _ _ h => h) (Or.inl ⟨Z103,?_⟩) ?_ ?_
        rotate_left
        ·intro w'
         go_simp
         with_reducible rfl
        rotate_left
        ·simp only [Act.put,List.setIfInBounds_toArray,List.set_cons_zero,List.set_cons_succ,i64_w,i32_w]
         rfl
        refine pure_ (i := 5) (N := some 48) (v := ?_) (a' := ?_) #[true,false,true,false,false,true,false,false,false,false] rfl rfl (any_of HT_.out Z102) (fun _ _ _ h => h) (Or.inl ⟨Z103,?_⟩) ?_ ?_
        rotate_left
        ·intro w'
         go_simp
         with_reducible rfl
        rotate_left
        ·simp only [Act.put,List.setIfInBounds_toArray,List.set_cons_zero,List.set_cons_succ,i64_w,i32_w]
         rfl
        refine take_ (i := 1) (N := some 44) (v := ?_) (a' := ?_) #[true,true,true,false,false,true,false,false,false,false] rfl rfl (take_ofW HT_.out HW_.out Z102) (fun _ _ _ h => h) (Or.inl ⟨Z103,?_⟩) hHeld ?_ ?_
        rotate_left
        ·rintro w' ⟨s0,s1,s2,s3,s4⟩
         go_simp
         with_reducible rfl
        rotate_left
        ·simp only [Act.put,List.setIfInBounds_toArray,List.set_cons_zero,List.set_cons_succ,i64_w,i32_w]
         rfl
        refine pure_ (i := 3) (N := some 46) (v := ?_) (a' := ?_) #[true,true,true,true,false,true,false,false,false,false] rfl rfl (any_of HT_.out Z102) (fun _ _ _ h => h) (Or.inl ⟨Z103,?_⟩) ?_ ?_
        rotate_left
        ·intro w'
         go_simp
         with_reducible rfl
        rotate_left
        ·simp only [Act.put,List.setIfInBounds_toArray,List.set_cons_zero,List.set_cons_succ,i64_w,i32_w]
         rfl
        refine take_ (i := 4) (N := some 47) (v := ?_) (a' := ?_) #[true,true,true,true,true,true,false,false,false,false] rfl rfl (take_ofW HT_.out HW_.out Z102) (fun _ _ _ h => h) (Or.inl ⟨Z103,?_⟩) hHeld ?_ ?_
        rotate_left
        ·rintro w' ⟨s0,s1,s2,s3,s4⟩
         go_simp
         with_reducible rfl
        rotate_left
        ·simp only [Act.put,List.setIfInBounds_toArray,List.set_cons_zero,List.set_cons_succ,i64_w,i32_w]
         rfl
        refine one_ (i := 6) (N := some 49) #[true,true,true,true,true,true,true,false,false,false] rfl rfl (one_of HT_.out Z102) Z154 (fun K hK => ?_)
        refine Kd.R_lit_step (Kd.int .i64) _ 3 ?hg (N := 49) ?hd (xs := ([2147483647,2147483648,(-2147483648)] : List Int)) (inner := [.int .i64 2147483647,.int .i64 2147483648,.int .i64 (-2147483648)]) (ok := fun _ => True) (okp := fun _ => True) ?hr ?hp (fun _ hk => hk) trivial (Below.refl _ _) (Nat.le_refl _) Z150 ?_;(case hd => rfl);(case hg => rfl);(case hr => exact Z87);(case hp => exact (Reps.one (show Kd.M (Kd.int .i64) _ _ _ 2147483647 [.int .i64 2147483647] from rfl) (Reps.one (show Kd.M (Kd.int .i64) _ _ _ 2147483648 [.int .i64 2147483648] from rfl) (Reps.one (show Kd.M (Kd.int .i64) _ _ _ (-2147483648) [.int .i64 (-2147483648)] from rfl) (Reps.none _ _)))))
        intro v274 w94 ho95 hb hg_ hnew_
        have HS4_ := (hb.cell (World.block_lt_of_cell? _ _ (hHeld.2.2.2.2))).trans (hHeld.2.2.2.2)
        clear hg_ hnew_
        (first | rw [← Ny273.out] at ho95 | (simp only [Int.reduceToNat] at ho95;rw [← Ny273.out] at ho95))
        have n0_ := Aside0.mk (Kd.R_below Z134 hb)
        have n1_ := Aside0.mk (Kd.S_elder' Z135 (Kd.R_base ho95) hb)
        have n2_ := Aside0.mk (Kd.R_elder' Z133 (Kd.R_base ho95) hb)
        have n3_ := Aside0.mk (Kd.R_elder' Z68 (Kd.R_base ho95) hb)
        have n4_ := Aside0.mk (Kd.R_lower (Kd.R_new' (Kd.R_new' ho95 (Kd.R_lt Z133)) (Kd.R_lt Z68)) (keep_size (w := w) (g := g) (row := none) Z112))
        have n5_ := Aside0.mk (IsS100.below Z107 hb)
        have n6_ := Aside0.mk (blk_below (g := gb234) (o := .cells #[.slice none 0 0,.string (⟨#[]⟩ : ByteArray),.slice none 0 0,.slice none 0 0] 36 (0,0)) Z142 hb)
        have n7_ := Aside0.mk (blk_below (g := gb247) (o := .cells #[.slice Ao85 t235.length co85,.string t238,.slice (some ad272) t239.length co89,.slice Ao90 t242.length co90] 36 (0,0)) Z144 hb)
        have n8_ := Aside0.mk (Kd.C_below (by repeat (first | (with_reducible exact HR272_0.out) | (with_reducible refine Kd.C_alloc ?_ _) | (with_reducible refine Kd.C_drewN ?_ _) | (with_reducible refine Kd.C_drew ?_) | exact HR272_0.out)) hb)
        have n9_ := Aside0.mk (pw_cell_below hb HX272_0.out)
        have n10_ := Aside0.mk (KeepBut.trans Z112 (KeepBut.of_below hb g none) (.inl rfl))
        have n11_ := Aside0.mk (below_step Z30 hb)
        clear HO237
        clear HO241
        clear HO244
        clear HL272_0
        clear HI0
        clear BK234
        clear BK247
        clear HR272_0
        clear HX272_0
        clear HK
        clear HB
        have HO237 := n0_
        have HO241 := n1_
        have HO244 := n2_
        have HL272_0 := n3_
        have HO275 := n4_
        have HI0 := n5_
        have BK234 := n6_
        have BK247 := n7_
        have HR272_0 := n8_
        have HX272_0 := n9_
        have HK := n10_
        have HB := n11_
        clear n0_ n1_ n2_ n3_ n4_ n5_ n6_ n7_ n8_ n9_ n10_ n11_
        clear hb ho95
        obtain ⟨Ao96,co96,eo96⟩ := Kd.R_slice HO275.out
        (first | subst eo96 | (injection eo96 with f1_ f2_ f3_;have f4_ := f1_.symm;have f5_ := f3_.symm;clear f1_ f2_ f3_;subst f4_;subst f5_))
        refine hK.out _ _ ⟨(blk_cell BK247.out 0).trans rfl,(blk_cell BK247.out 1).trans rfl,(blk_cell BK247.out 2).trans rfl,(blk_cell BK247.out 3).trans rfl,HS4_⟩ (fun hHeld => ?_)
        clear hK K
        refine norm_ (a' := ?_) ?_ ?_
        rotate_left
        ·show Act.put _ (some 49) _ = _
         simp only [Act.put,List.setIfInBounds_toArray,List.set_cons_zero,List.set_cons_succ,i64_w,i32_w]
         rfl
        refine one_ (i := 7) (N := some 50) #[true,true,true,true,true,true,true,true,false,false] rfl rfl (one_of HT_.out Z102) Z154 (fun K hK => ?_)
        refine goes_ Try.func49 Z102 rfl #[.pointer (some ⟨g,0,none⟩),.slice Ao96 y273.length co96] Z103 rfl rfl Z60 ?_
        with_reducible refine (spec_l1PickInt.calls g s0_0 t252 t253 _ _ y273 t276 t277 t278 w0 _ ?side1 ?side2 ?side3 ?side4 ?side5 A79.out).mono ?_
        (case side1 => exact Z107)
        (case side2 => exact Z30)
        (case side3 => repeat (first | exact (Kd.R_reads' HO275.out).2.2 | (with_reducible refine Kd.C_alloc ?_ _) | (with_reducible refine Kd.C_drewN ?_ _) | (with_reducible refine Kd.C_drew ?_)))
        (case side4 => exact (Kd.R_reads' HO275.out).2.1)
        (case side5 => exact far_slice (IsS100.own_ne HI0.out HO275.out Z154))
        rintro e w97 ⟨rfl,hi,hb,hk⟩
        have HS4_ := keep_cell hk (hHeld.2.2.2.2) (by first | (rw [add_block];exact Kd.own_blk (IsS100.own_neS HI0.out HO241.out Z154)) | (show (Addr.add _ _).block ≠ _;rw [add_block];exact Kd.own_blk (IsS100.own_neS HI0.out HO241.out Z154)) | exact Kd.own_blk (IsS100.own_neS HI0.out HO241.out Z154))
        refine ⟨_,rfl,?_⟩
        have n0_ := Aside0.mk (KeepBut.blk hk (g' := gb234) (o := .cells #[.slice none 0 0,.string (⟨#[]⟩ : ByteArray),.slice none 0 0,.slice none 0 0] 36 (0,0)) Z142 NB234_0.out Z150)
        have n1_ := Aside0.mk (Kd.R_mono (Kd.R_keep (IsS100.apart (show IsS100 w0 _ g s0_0 t252 t253 from Z107) Z134 Z154) hk (fun _ h => h.2)) (fun _ h => h.1))
        have n2_ := Aside0.mk (Kd.S_mono (Kd.S_keep (IsS100.apartS (show IsS100 w0 _ g s0_0 t252 t253 from Z107) Z135 Z154) hk (fun _ h => h.2)) (fun _ h => h.1))
        have n3_ := Aside0.mk (Kd.R_mono (Kd.R_keep (IsS100.apart (show IsS100 w0 _ g s0_0 t252 t253 from Z107) Z133 Z154) hk (fun _ h => h.2)) (fun _ h => h.1))
        have n4_ := Aside0.mk (KeepBut.blk hk (g' := gb247) (o := .cells #[.slice Ao85 t235.length co85,.string t238,.slice (some ad272) t239.length co89,.slice Ao90 t242.length co90] 36 (0,0)) Z144 NB247_0.out Z150)
        have n5_ := Aside0.mk (Kd.R_mono (Kd.R_keep (IsS100.apart (show IsS100 w0 _ g s0_0 t252 t253 from Z107) Z68 Z154) hk (fun _ h => h.2)) (fun _ h => h.1))
        have n6_ := Aside0.mk (keep_cell hk HX272_0.out (by first | (rw [add_block];exact Kd.own_blk (IsS100.own_neS HI0.out HO241.out Z154)) | (show (Addr.add _ _).block ≠ _;rw [add_block];exact Kd.own_blk (IsS100.own_neS HI0.out HO241.out Z154)) | exact Kd.own_blk (IsS100.own_neS HI0.out HO241.out Z154) | (dsimp only;exact Kd.own_blk (IsS100.own_neS HI0.out HO241.out Z154))))
        have n7_ := Aside0.mk (Kd.R_mono (Kd.R_keep (IsS100.apart (show IsS100 w0 _ g s0_0 t252 t253 from Z107) (by (with_reducible repeat (first | apply Kd.R_alloc | apply Kd.R_drewN | apply Kd.R_drew));exact HO275.out) Z154) hk (fun _ h => h.2)) (fun _ h => h.1))
        have n8_ := Aside0.mk (KeepBut.trans Z112 hk (.inl rfl))
        have n9_ := Aside0.mk (hb)
        have n10_ := Aside0.mk (hi)
        clear BK234
        clear HO237
        clear HO241
        clear HO244
        clear BK247
        clear HL272_0
        clear HX272_0
        clear HO275
        clear HK
        clear HB
        clear HI0
        have BK234 := n0_
        have HO237 := n1_
        have HO241 := n2_
        have HO244 := n3_
        have BK247 := n4_
        have HL272_0 := n5_
        have HX272_0 := n6_
        have HO275 := n7_
        have HK := n8_
        have HB := n9_
        have HI0 := n10_
        clear n0_ n1_ n2_ n3_ n4_ n5_ n6_ n7_ n8_ n9_ n10_
        (try clear hb)
        (try clear hb2)
        (try clear hk)
        (try clear hi)
        have p81 : 0 ≤ (0 : Int) := Z149
        have q81 : (0 : Int) < (((rd_L3 t239 t248).length : Int) : Int) := of_decide_eq_true Z85
        have qi81 : (0 < (rd_L3 t239 t248).length) = True := eq_true Z149
        obtain ⟨go81,co81,eo81,gb81,gl81,cl81,HG81⟩ := Kd.R_form HL272_0.out Z149
        (first | cases eo81 | (injection eo81 with ea_ en_ ec_;(first | subst ea_ | (injection ea_ with ea_;subst ea_));subst ec_;clear en_))
        have GB81 := Aside0.mk gb81
        have GG81 := Aside0.mk HG81
        clear gb81 gl81 HG81
        obtain ⟨hx81_0,hf81_0⟩ := Kd.R_celln 0 HL272_0.out (0 : Int) p81 q81
        (try rw [show ((0 : Int)).toNat = 0 from rfl] at hx81_0)
        (try simp only [Nat.reduceMul,Nat.zero_mul,Nat.zero_add,Nat.reduceAdd] at hx81_0)
        (try rw [show ((0 : Int)).toNat = 0 from rfl] at hf81_0)
        (try simp only [Nat.reduceMul,Nat.zero_mul,Nat.zero_add,Nat.reduceAdd] at hf81_0)
        replace p81 := eq_true p81
        replace q81 := eq_true q81
        have hq98 : (t248 : Int) < (t239.length : Int) := (by have h_ : (t248 : Int) < ((t239.length : Int) : Int) := of_decide_eq_true Z85;first | exact h_ | (have e_ := (Kd.S_reads' HO241.out).1;omega) | simpa only [List.length_set,List.length_set] using h_)
        obtain ⟨oki98,ce98,hcl98,hM98,hcc98,hok98,hbk98⟩ := Kd.S_borrow HO241.out [] (t248 : Int) (of_decide_eq_true Z85) hq98
        obtain ⟨ve98_0,rfl,ge98_0⟩ := hM98
        have hv98 := hcc98 0 _ rfl
        rw [Nat.add_zero,show ((Kd.slice 3 (Kd.int .i64))).sz = 1 from rfl,Nat.mul_one] at hv98
        replace hv98 := Option.some.inj (hv98.symm.trans HX272_0.out)
        subst hv98
        clear hcc98 hcl98
        replace ge98_0 := (show Kd.R (Kd.int .i64) 3 _ _ _ _ (rd_L3 t239 t248) from ge98_0)
        have HP98 := Kd.R_putg ge98_0 (0 : Int) t276
        have HN0_go81 := Aside0.mk (show g ≠ go81 from by have h_ := IsS100.own_ne HI0.out HL272_0.out Z154;intro e_;exact h_ Z101)
        rw [← Ny279.out] at HP98
        have HS98 := hbk98 HP98.2 (fun k_ e_ => by injection e_ with e_;subst e_;exact ge98_0.1 _ rfl) (x' := y279) (Kd.M_row HP98.1)
        rw [← Ny281.out] at HS98
        have HQ98 := Aside0.mk HS98
        clear HP98 HS98 hbk98 hok98
        refine hK.out _ _ ⟨(blk_cell BK247.out 0).trans rfl,(blk_cell BK247.out 1).trans rfl,(blk_cell BK247.out 2).trans rfl,(blk_cell BK247.out 3).trans rfl,HS4_⟩ (fun hHeld => ?_)
        clear hK K
        refine norm_ (a' := ?_) ?_ ?_
        rotate_left
        ·show Act.put _ (some 50) _ = _
         simp only [Act.put,List.setIfInBounds_toArray,List.set_cons_zero,List.set_cons_succ,i64_w,i32_w]
         rfl
        refine pure_ (i := 8) (N := some 51) (v := ?_) (a' := ?_) #[true,true,true,true,true,true,true,true,true,false] rfl rfl (any_of HT_.out Z102) (fun _ _ _ h => h) (Or.inl ⟨Z103,?_⟩) ?_ ?_
        rotate_left
        ·intro w'
         go_simp
         with_reducible rfl
        rotate_left
        ·simp only [Act.put,List.setIfInBounds_toArray,List.set_cons_zero,List.set_cons_succ,i64_w,i32_w]
         rfl
        refine last_ (i := 9) (N := none) #[true,true,true,true,true,true,true,true,true,true] rfl rfl (one_of HT_.out Z102) Z154 (fun K hK => ?_)
        refine skip_ (w1 := ?_) Z103 rfl ?_ ?_
        rotate_left
        ·go_simp
         rfl
        refine hK.out _ _ ?_
        clear hK K
        refine done_ (done_of HT_.out Z102) ?_
        have n0_ : Aside0 (Kd.R Kd.string 9 (w97.setCell ⟨go81,0,none⟩ (.int .i64 t276)) w.heap.size (fun _ => True) (.slice Ao85 t235.length co85) t235) := ⟨by (with_reducible repeat (first | apply Kd.R_alloc | apply Kd.R_drewN | apply Kd.R_drew));exact Kd.R_mono (Kd.R_far (p := ⟨go81,0,none⟩) (Kd.R_types HO237.out GG81.out Z154) (fun _ hk => hk.2) (.int .i64 t276)) (fun _ hk => trivial)⟩
        have n1_ : Aside0 (Kd.S (Kd.slice 3 (Kd.int .i64)) 34 (w97.setCell ⟨go81,0,none⟩ (.int .i64 t276)) w.heap.size (fun k_ => some k_ ≠ (.slice Ao90 t242.length co90 : Value).ownBlock ∧ some k_ ≠ (.slice Ao96 y273.length co96 : Value).ownBlock) (.slice (some ad272) t239.length co89) y281) := ⟨by (with_reducible repeat (first | apply Kd.S_alloc | apply Kd.S_drewN | apply Kd.S_drew));exact HQ98.out⟩
        have n2_ : Aside0 (Kd.R (Kd.int .i64) 3 (w97.setCell ⟨go81,0,none⟩ (.int .i64 t276)) w.heap.size (fun k_ => some k_ ≠ (.slice Ao96 y273.length co96 : Value).ownBlock) (.slice Ao90 t242.length co90) t242) := ⟨by (with_reducible repeat (first | apply Kd.R_alloc | apply Kd.R_drewN | apply Kd.R_drew));exact Kd.R_mono (Kd.R_far (p := ⟨go81,0,none⟩) (Kd.R_far1 HO244.out rfl ((HL272_0.out.1 _ rfl).1.1)) (fun _ hk => hk.2) (.int .i64 t276)) (fun _ hk => hk.1.2)⟩
        have n3_ : Aside0 (Kd.R (Kd.int .i64) 3 (w97.setCell ⟨go81,0,none⟩ (.int .i64 t276)) w.heap.size (fun k_ => some k_ ≠ (.slice Ao90 t242.length co90 : Value).ownBlock) (.slice Ao96 y273.length co96) y273) := ⟨by (with_reducible repeat (first | apply Kd.R_alloc | apply Kd.R_drewN | apply Kd.R_drew));exact Kd.R_mono (Kd.R_far (p := ⟨go81,0,none⟩) (Kd.R_far1 HO275.out rfl ((HL272_0.out.1 _ rfl).2)) (fun _ hk => hk.2) (.int .i64 t276)) (fun _ hk => hk.1.1.2)⟩
        have n4_ : Aside0 ((w97.setCell ⟨go81,0,none⟩ (.int .i64 t276)).heap[gb234]? = some (.cells #[.slice none 0 0,.string (⟨#[]⟩ : ByteArray),.slice none 0 0,.slice none 0 0] 36 (0,0))) := ⟨by refine bP ?_;refine blk_far ?_ (by have h_ := Kd.R_ne HL272_0.out BK234.out Z154;intro e_;exact h_ Z101) _;refine bP ?_;exact BK234.out⟩
        have n5_ : Aside0 ((w97.setCell ⟨go81,0,none⟩ (.int .i64 t276)).heap[gb247]? = some (.cells #[.slice Ao85 t235.length co85,.string t238,.slice (some ad272) t239.length co89,.slice Ao90 t242.length co90] 36 (0,0))) := ⟨by refine bP ?_;refine blk_far ?_ (by have h_ := Kd.R_ne HL272_0.out BK247.out Z154;intro e_;exact h_ Z101) _;refine bP ?_;exact BK247.out⟩
        have n6_ : Aside0 (IsS100 w0 (w97.setCell ⟨go81,0,none⟩ (.int .i64 t276)) g s0_0 t277 t278) := ⟨by repeat (first | (with_reducible first | exact HI0.out | apply IsS100.alloc | apply IsS100.drewN | apply IsS100.drew | apply IsS100.set_1 | apply IsS100.set_2 | refine IsS100.far ?_ HN0_go81.out _ | refine IsS100.far ?_ NB0_234.out _ | refine IsS100.far ?_ NB0_247.out _) | exact HI0.out)⟩
        have n7_ : Aside0 (KeepBut w (w97.setCell ⟨go81,0,none⟩ (.int .i64 t276)) g none) := ⟨by repeat (first | (with_reducible first | exact HK.out | apply KeepBut.set_ | apply keep_drewN | apply keep_drew | apply keep_alloc | refine keep_far ?_ GB81.out _ | refine keep_far ?_ GW234.out _ | refine keep_far ?_ GW247.out _) | exact HK.out)⟩
        have n8_ : Aside0 (Below w0.heap.size w0 (w97.setCell ⟨go81,0,none⟩ (.int .i64 t276))) := ⟨by repeat (first | (with_reducible first | exact HB.out | apply below_alloc | apply pw_below_drewN | apply below_drew1 | refine below_set ?_ (Nat.le_trans HL.out GB81.out) | refine below_set ?_ (IsS100.ge HI0.out) | refine below_set ?_ GE234.out | refine below_set ?_ GE247.out) | exact HB.out)⟩
        (try clear HO237)
        (try clear HO241)
        (try clear HO244)
        (try clear HO275)
        (try clear BK234)
        (try clear BK247)
        (try clear HI0)
        (try clear HK)
        (try clear HB)
        generalize (w97.setCell ⟨go81,0,none⟩ (.int .i64 t276)) = w100 at n0_ n1_ n2_ n3_ n4_ n5_ n6_ n7_ n8_ ⊢
        have HO237 := n0_
        have HO241 := n1_
        have HO244 := n2_
        have HO275 := n3_
        have BK234 := n4_
        have BK247 := n5_
        have HI0 := n6_
        have HK := n7_
        have HB := n8_
        clear n0_ n1_ n2_ n3_ n4_ n5_ n6_ n7_ n8_
        obtain ⟨hcz101_0,hcz101_1,hcz101_2,hcz101_3,hfz101_0,hfz101_1,hfz101_2,hfz101_3⟩ := cells4 BK247.out
        have hnb102 := NB234_0.out
        have hnc102 := NB0_234.out
        obtain ⟨hcz103_0,hcz103_1,hcz103_2,hcz103_3,hfz103_0,hfz103_1,hfz103_2,hfz103_3⟩ := cells4 BK234.out
        try go_wp2
        refine bodyPost_ret (results_cell_row rfl _ _ gb234 36 #[.slice Ao85 t235.length co85,.string t238,.slice (some ad272) t239.length co89,.slice Ao90 t242.length co90] (0,0) _ rfl (by refine bP ?_;refine blk_put (cs := #[.slice Ao85 t235.length co85,.string t238,.slice (some ad272) t239.length co89,.slice none 0 0]) ?_ 3 _ rfl;refine bP ?_;refine blk_put (cs := #[.slice Ao85 t235.length co85,.string t238,.slice none 0 0,.slice none 0 0]) ?_ 2 _ rfl;refine bP ?_;refine blk_put (cs := #[.slice Ao85 t235.length co85,.string (⟨#[]⟩ : ByteArray),.slice none 0 0,.slice none 0 0]) ?_ 1 _ rfl;refine bP ?_;refine blk_put (cs := #[.slice none 0 0,.string (⟨#[]⟩ : ByteArray),.slice none 0 0,.slice none 0 0]) ?_ 0 _ rfl;refine bP ?_;exact BK234.out) Try.underlying36 rfl Z102) rfl ?_
        exact ⟨_,_,_,Z77,by (with_reducible repeat (first | apply Kd.R_alloc | apply Kd.R_drewN | apply Kd.R_drew));exact Kd.R_mono (Kd.R_far (p := ⟨gb234,3,none⟩) (Kd.R_far (p := ⟨gb234,2,none⟩) (Kd.R_far (p := ⟨gb234,1,none⟩) (Kd.R_far (p := ⟨gb234,0,none⟩) (Kd.R_types HO237.out BK234.out Z154) (fun _ hk => hk.2) (.slice Ao85 t235.length co85)) (fun _ hk => hk.2) (.string t238)) (fun _ hk => hk.2) (.slice (some ad272) t239.length co89)) (fun _ hk => hk.2) (.slice Ao90 t242.length co90)) (fun _ hk => trivial),by (with_reducible repeat (first | apply Kd.S_alloc | apply Kd.S_drewN | apply Kd.S_drew));exact Kd.S_mono (Kd.S_far (p := ⟨gb234,3,none⟩) (Kd.S_far (p := ⟨gb234,2,none⟩) (Kd.S_far (p := ⟨gb234,1,none⟩) (Kd.S_far (p := ⟨gb234,0,none⟩) (Kd.S_types HO241.out BK234.out Z154) (fun _ hk => hk.2) (.slice Ao85 t235.length co85)) (fun _ hk => hk.2) (.string t238)) (fun _ hk => hk.2) (.slice (some ad272) t239.length co89)) (fun _ hk => hk.2) (.slice Ao90 t242.length co90)) (fun _ hk => hk.1.1),by (with_reducible repeat (first | apply Kd.R_alloc | apply Kd.R_drewN | apply Kd.R_drew));exact Kd.R_mono (Kd.R_far (p := ⟨gb234,3,none⟩) (Kd.R_far (p := ⟨gb234,2,none⟩) (Kd.R_far (p := ⟨gb234,1,none⟩) (Kd.R_far (p := ⟨gb234,0,none⟩) (Kd.R_types HO244.out BK234.out Z154) (fun _ hk => hk.2) (.slice Ao85 t235.length co85)) (fun _ hk => hk.2) (.string t238)) (fun _ hk => hk.2) (.slice (some ad272) t239.length co89)) (fun _ hk => hk.2) (.slice Ao90 t242.length co90)) (fun _ hk => trivial),Z107,Z30,Z112⟩
       ·rw [if_neg c80] at H
        exact absurd H Z150
      ·rw [if_neg c78] at H
       exact absurd H Z150
     ·rw [if_neg c77] at H
      exact absurd H Z150
    ·rw [if_neg c76] at H
     have c76b0 : (t251 == 3) = false := beq_eq_false_iff_ne.mpr c76
     have c76b1 : (t251 != 3) = true := bne_iff_ne.mpr c76
     by_cases c104 : t251 = 4
     ·rw [if_pos c104] at H
      have c104b0 : (t251 == 4) = true := beq_iff_eq.mpr c104
      have c104b1 : (t251 != 4) = false := bne_eq_false_iff_eq.mpr c104
      clear c104
      obtain ⟨⟨t282,t283,t284⟩,A1050,H⟩ := Option.bind_eq_some_iff.mp H
      try dsimp only at H
      have A105 := Aside0.mk A1050
      clear A1050
      by_cases c106 : 0 ≤ t248
      ·rw [if_pos c106] at H
       have c106b0 : decide (0 ≤ t248) = true := decide_eq_true c106
       clear c106
       by_cases c107 : t248 < (t242.length : Int)
       ·rw [if_pos c107] at H
        have c107b0 : decide (t248 < (t242.length : Int)) = true := decide_eq_true c107
        clear c107
        obtain ⟨y285,hy285⟩ : ∃ y_ : List Int,y_ = (t242.set (t248 : Int).toNat t282) := ⟨_,rfl⟩
        replace H : (some (t235,t238,t239,y285,t283,t284)) = some (r1,r2,r3,r4,r5,r6) := by first | (rw [hy285];with_reducible exact H) | (have H2_ := (Option.bind_some _ _).symm.trans H;rw [hy285];with_reducible exact H2_) | (have H2_ := (Option.bind_some _ _).symm.trans H;with_reducible exact H2_) | with_reducible exact H | (rw [hy285];exact H) | exact H
        have Ny285 := Aside0.mk hy285
        clear hy285
        simp only [Option.some.injEq,Prod.mk.injEq] at H
        obtain ⟨rfl,rfl,rfl,rfl,rfl,rfl⟩ := H
        go_enter Try.func48,Try.ntmps48
        try go_wp2_with (first | ((with_reducible refine gate_dst (N := 2) rfl ?_);refine bE 2 #[.slice none 0 0,.string (⟨#[]⟩ : ByteArray),.slice none 0 0,.slice none 0 0] 36 (h := ?_);intro gb234 hg w109 hbox hb;have n_ := Z8;clear HI0 HK HB;obtain ⟨HI0,HK,HB,BK234,GW234,GE234,NB0_234,NB234_0⟩ := n_;clear hb hbox hg) | ((with_reducible refine gate_callee (f := 75) rfl ?_);refine goesL_ (some 6) rfl rfl Try.func75 Z102 rfl #[.pointer (some ⟨g,0,none⟩)] rfl Z60 ?_;(with_reducible refine (spec_l9Right.calls k g s0_0 s0_1 s0_2 t235 t238 t239 t242 t245 t246 w0 _ ?side1 ?side2 A2.out).mono ?_);(case side1 => exact Z114);(case side2 => exact Z116);rintro e w110 ⟨v236,v240,v243,rfl,ho0,ho1,ho2,hi,hb,hk⟩;refine ⟨_,rfl,?_⟩;have n_ := Z11;clear BK234 HK HB HI0;obtain ⟨BK234,HO237,HO241,HO244,HK,HB,HI0⟩ := n_;(try clear hb);(try clear hb2);(try clear hk);(try clear hi);(try clear ho0);(try clear ho1);(try clear ho2)) | ((with_reducible refine gate_dst (N := 3) rfl ?_);refine bE 3 #[.slice none 0 0,.string (⟨#[]⟩ : ByteArray),.slice none 0 0,.slice none 0 0] 36 (h := ?_);intro gb247 hg w111 hbox hb;have n_ := Z3;clear HO237 HO241 HO244 HI0 BK234 HK HB;obtain ⟨HO237,HO241,HO244,HI0,BK234,HK,HB,BK247,GW247,GE247,NB234_247,NB247_234,NB0_247,NB247_0⟩ := n_;clear hb hbox hg;obtain ⟨Ao112,co112,eo112⟩ := Kd.R_slice HO237.out;subst eo112;have hnb113 := NB247_234.out;have hnc113 := NB234_247.out;have hnb114 := NB247_0.out;have hnc114 := NB0_247.out;obtain ⟨hcz115_0,hcz115_1,hcz115_2,hcz115_3,hfz115_0,hfz115_1,hfz115_2,hfz115_3⟩ := cells4 BK247.out;obtain ⟨Ao116,co116,eo116⟩ := Kd.S_slice HO241.out;subst eo116;obtain ⟨Ao117,co117,eo117⟩ := Kd.R_slice HO244.out;subst eo117) | ((with_reducible refine gate_callee (f := 76) rfl ?_);refine goesL_ (some 11) rfl rfl Try.func76 Z102 rfl #[.pointer (some ⟨g,0,none⟩),.int .i64 (t239.length : Int)] rfl Z60 ?_;(with_reducible refine (spec_l1Below.calls g s0_0 t245 t246 (t239.length : Int) t248 t249 t250 w0 _ ?side1 ?side2 A3.out).mono ?_);(case side1 => exact Z107);(case side2 => exact Z30);rintro e w118 ⟨rfl,hi,hb,hk⟩;refine ⟨_,rfl,?_⟩;have n_ := jA (KeepBut.blk hk (g' := gb234) (o := .cells #[.slice none 0 0,.string (⟨#[]⟩ : ByteArray),.slice none 0 0,.slice none 0 0] 36 (0,0)) Z111 NB234_0.out Z150) (jA (Kd.R_mono (Kd.R_keep (IsS100.apart (show IsS100 w0 _ g s0_0 t245 t246 from Z107) (by (with_reducible repeat (first | apply Kd.R_alloc | apply Kd.R_drewN | apply Kd.R_drew));exact (Kd.R_mono (Kd.R_far (p := ⟨gb247,3,none⟩) (Kd.R_far (p := ⟨gb247,2,none⟩) (Kd.R_far (p := ⟨gb247,1,none⟩) (Kd.R_far (p := ⟨gb247,0,none⟩) (Kd.R_types HO237.out BK247.out Z154) (fun _ hk => hk.2) (.slice Ao112 t235.length co112)) (fun _ hk => hk.2) (.string t238)) (fun _ hk => hk.2) (.slice Ao116 t239.length co116)) (fun _ hk => hk.2) (.slice Ao117 t242.length co117)) (fun _ h_ => h_.1))) Z154) hk (fun _ h => h.2)) (fun _ h => h.1)) (jA (Kd.S_mono (Kd.S_keep (IsS100.apartS (show IsS100 w0 _ g s0_0 t245 t246 from Z107) (by (with_reducible repeat (first | apply Kd.S_alloc | apply Kd.S_drewN | apply Kd.S_drew));exact (Kd.S_mono (Kd.S_far (p := ⟨gb247,3,none⟩) (Kd.S_far (p := ⟨gb247,2,none⟩) (Kd.S_far (p := ⟨gb247,1,none⟩) (Kd.S_far (p := ⟨gb247,0,none⟩) (Kd.S_types HO241.out BK247.out Z154) (fun _ hk => hk.2) (.slice Ao112 t235.length co112)) (fun _ hk => hk.2) (.string t238)) (fun _ hk => hk.2) (.slice Ao116 t239.length co116)) (fun _ hk => hk.2) (.slice Ao117 t242.length co117)) (fun _ h_ => h_.1))) Z154) hk (fun _ h => h.2)) (fun _ h => h.1)) (jA (Kd.R_mono (Kd.R_keep (IsS100.apart (show IsS100 w0 _ g s0_0 t245 t246 from Z107) (by (with_reducible repeat (first | apply Kd.R_alloc | apply Kd.R_drewN | apply Kd.R_drew));exact (Kd.R_mono (Kd.R_far (p := ⟨gb247,3,none⟩) (Kd.R_far (p := ⟨gb247,2,none⟩) (Kd.R_far (p := ⟨gb247,1,none⟩) (Kd.R_far (p := ⟨gb247,0,none⟩) (Kd.R_types HO244.out BK247.out Z154) (fun _ hk => hk.2) (.slice Ao112 t235.length co112)) (fun _ hk => hk.2) (.string t238)) (fun _ hk => hk.2) (.slice Ao116 t239.length co116)) (fun _ hk => hk.2) (.slice Ao117 t242.length co117)) (fun _ h_ => h_.1))) Z154) hk (fun _ h => h.2)) (fun _ h => h.1)) (jA (KeepBut.blk hk (g' := gb247) (o := .cells #[.slice Ao112 t235.length co112,.string t238,.slice Ao116 t239.length co116,.slice Ao117 t242.length co117] 36 (0,0)) (by refine bP ?_;refine blk_put (cs := #[.slice Ao112 t235.length co112,.string t238,.slice Ao116 t239.length co116,.slice none 0 0]) ?_ 3 _ rfl;refine bP ?_;refine blk_put (cs := #[.slice Ao112 t235.length co112,.string t238,.slice none 0 0,.slice none 0 0]) ?_ 2 _ rfl;refine bP ?_;refine blk_put (cs := #[.slice Ao112 t235.length co112,.string (⟨#[]⟩ : ByteArray),.slice none 0 0,.slice none 0 0]) ?_ 1 _ rfl;refine bP ?_;refine blk_put (cs := #[.slice none 0 0,.string (⟨#[]⟩ : ByteArray),.slice none 0 0,.slice none 0 0]) ?_ 0 _ rfl;refine bP ?_;exact BK247.out) NB247_0.out Z150) (jA (KeepBut.trans Z112 hk (.inl rfl)) (jA (hb) (Aside0.mk (hi))))))));clear BK234 HO237 HO241 HO244 BK247 HK HB HI0;obtain ⟨BK234,HO237,HO241,HO244,BK247,HK,HB,HI0⟩ := n_;(try clear hb);(try clear hb2);(try clear hk);(try clear hi)) | ((with_reducible refine gate_callee (f := 76) rfl ?_);refine goesL_ (some 13) rfl rfl Try.func76 Z102 rfl #[.pointer (some ⟨g,0,none⟩),.int .i64 14] rfl Z60 ?_;(with_reducible refine (spec_l1Below.calls g s0_0 t249 t250 14 t251 t252 t253 w0 _ ?side1 ?side2 A4.out).mono ?_);(case side1 => exact Z107);(case side2 => exact Z30);rintro e w119 ⟨rfl,hi,hb,hk⟩;refine ⟨_,rfl,?_⟩;have n_ := jA (KeepBut.blk hk (g' := gb234) (o := .cells #[.slice none 0 0,.string (⟨#[]⟩ : ByteArray),.slice none 0 0,.slice none 0 0] 36 (0,0)) Z142 NB234_0.out Z150) (jA (Kd.R_mono (Kd.R_keep (IsS100.apart (show IsS100 w0 _ g s0_0 t249 t250 from Z107) Z134 Z154) hk (fun _ h => h.2)) (fun _ h => h.1)) (jA (Kd.S_mono (Kd.S_keep (IsS100.apartS (show IsS100 w0 _ g s0_0 t249 t250 from Z107) Z135 Z154) hk (fun _ h => h.2)) (fun _ h => h.1)) (jA (Kd.R_mono (Kd.R_keep (IsS100.apart (show IsS100 w0 _ g s0_0 t249 t250 from Z107) Z133 Z154) hk (fun _ h => h.2)) (fun _ h => h.1)) (jA (KeepBut.blk hk (g' := gb247) (o := .cells #[.slice Ao112 t235.length co112,.string t238,.slice Ao116 t239.length co116,.slice Ao117 t242.length co117] 36 (0,0)) Z144 NB247_0.out Z150) (jA (KeepBut.trans Z112 hk (.inl rfl)) (jA (hb) (Aside0.mk (hi))))))));clear BK234 HO237 HO241 HO244 BK247 HK HB HI0;obtain ⟨BK234,HO237,HO241,HO244,BK247,HK,HB,HI0⟩ := n_;(try clear hb);(try clear hb2);(try clear hk);(try clear hi)))
        have n0_ := Aside0.mk (Kd.R_drew HO237.out)
        have n1_ := Aside0.mk (Kd.S_drew HO241.out)
        have n2_ := Aside0.mk (Kd.R_drew HO244.out)
        have n3_ := Aside0.mk (blk_drew BK234.out)
        have n4_ := Aside0.mk (blk_drew BK247.out)
        have n5_ := Aside0.mk (IsS100.drew HI0.out)
        have n6_ := Aside0.mk (keep_drew HK.out)
        have n7_ := Aside0.mk (below_drew1 HB.out)
        clear HO237
        clear HO241
        clear HO244
        clear BK234
        clear BK247
        clear HI0
        clear HK
        clear HB
        have HO237 := n0_
        have HO241 := n1_
        have HO244 := n2_
        have BK234 := n3_
        have BK247 := n4_
        have HI0 := n5_
        have HK := n6_
        have HB := n7_
        clear n0_ n1_ n2_ n3_ n4_ n5_ n6_ n7_
        refine start_ (n := 7) (S := fun w' => w'.cell? ⟨gb247,0,none⟩ = some (.slice Ao112 t235.length co112) ∧ w'.cell? ⟨gb247,1,none⟩ = some (.string t238) ∧ w'.cell? ⟨gb247,2,none⟩ = some (.slice Ao116 t239.length co116) ∧ w'.cell? ⟨gb247,3,none⟩ = some (.slice Ao117 t242.length co117)) (ds := [6]) #[false,false,false,false,false,false,false] Z102 rfl rfl ⟨(blk_cell BK247.out 0).trans rfl,(blk_cell BK247.out 1).trans rfl,(blk_cell BK247.out 2).trans rfl,(blk_cell BK247.out 3).trans rfl⟩ (fun hHeld => ?_)
        generalize w119.drew = w120 at HO237 HO241 HO244 BK234 BK247 HI0 HK HB hHeld ⊢
        refine pure_ (i := 0) (N := some 54) (v := ?_) (a' := ?_) #[true,false,false,false,false,false,false] rfl rfl Z102 (fun _ _ _ h => h) (Or.inl ⟨Z103,?_⟩) ?_ ?_
        rotate_left
        ·intro w'
         go_simp
         with_reducible rfl
        rotate_left
        ·simp only [Act.put,List.setIfInBounds_toArray,List.set_cons_zero,List.set_cons_succ,i64_w,i32_w]
         rfl
        refine pure_ (i := 2) (N := some 56) (v := ?_) (a' := ?_) #[true,false,true,false,false,false,false] rfl rfl Z102 (fun _ _ _ h => h) (Or.inl ⟨Z103,?_⟩) ?_ ?_
        rotate_left
        ·intro w'
         go_simp
         with_reducible rfl
        rotate_left
        ·simp only [Act.put,List.setIfInBounds_toArray,List.set_cons_zero,List.set_cons_succ,i64_w,i32_w]
         rfl
        refine pure_ (i := 3) (N := some 57) (v := ?_) (a' := ?_) #[true,false,true,true,false,false,false] rfl rfl Z102 (fun _ _ _ h => h) (Or.inl ⟨Z103,?_⟩) ?_ ?_
        rotate_left
        ·intro w'
         go_simp
         with_reducible rfl
        rotate_left
        ·simp only [Act.put,List.setIfInBounds_toArray,List.set_cons_zero,List.set_cons_succ,i64_w,i32_w]
         rfl
        refine take_ (i := 1) (N := some 55) (v := ?_) (a' := ?_) #[true,true,true,true,false,false,false] rfl rfl Z102 (fun _ _ _ h => h) (Or.inl ⟨Z103,?_⟩) hHeld ?_ ?_
        rotate_left
        ·rintro w' ⟨s0,s1,s2,s3⟩
         go_simp
         with_reducible rfl
        rotate_left
        ·simp only [Act.put,List.setIfInBounds_toArray,List.set_cons_zero,List.set_cons_succ,i64_w,i32_w]
         rfl
        refine one_ (i := 4) (N := some 58) #[true,true,true,true,true,false,false] rfl rfl Z102 Z154 (fun K hK => ?_)
        refine goes_ Try.func78 Z102 rfl #[.pointer (some ⟨g,0,none⟩)] Z103 rfl rfl Z60 ?_
        with_reducible refine (spec_l1Whole.calls k g s0_0 t252 t253 t282 t283 t284 w0 _ ?side1 ?side2 A105.out).mono ?_
        (case side1 => exact Z107)
        (case side2 => exact Z30)
        rintro e w121 ⟨rfl,hi,hb,hk⟩
        refine ⟨_,rfl,?_⟩
        have n0_ := Aside0.mk (KeepBut.blk hk (g' := gb234) (o := .cells #[.slice none 0 0,.string (⟨#[]⟩ : ByteArray),.slice none 0 0,.slice none 0 0] 36 (0,0)) Z142 NB234_0.out Z150)
        have n1_ := Aside0.mk (Kd.R_mono (Kd.R_keep (IsS100.apart (show IsS100 w0 _ g s0_0 t252 t253 from Z107) Z134 Z154) hk (fun _ h => h.2)) (fun _ h => h.1))
        have n2_ := Aside0.mk (Kd.S_mono (Kd.S_keep (IsS100.apartS (show IsS100 w0 _ g s0_0 t252 t253 from Z107) Z135 Z154) hk (fun _ h => h.2)) (fun _ h => h.1))
        have n3_ := Aside0.mk (Kd.R_mono (Kd.R_keep (IsS100.apart (show IsS100 w0 _ g s0_0 t252 t253 from Z107) Z133 Z154) hk (fun _ h => h.2)) (fun _ h => h.1))
        have n4_ := Aside0.mk (KeepBut.blk hk (g' := gb247) (o := .cells #[.slice Ao112 t235.length co112,.string t238,.slice Ao116 t239.length co116,.slice Ao117 t242.length co117] 36 (0,0)) Z144 NB247_0.out Z150)
        have n5_ := Aside0.mk (KeepBut.trans Z112 hk (.inl rfl))
        have n6_ := Aside0.mk (hb)
        have n7_ := Aside0.mk (hi)
        clear BK234
        clear HO237
        clear HO241
        clear HO244
        clear BK247
        clear HK
        clear HB
        clear HI0
        have BK234 := n0_
        have HO237 := n1_
        have HO241 := n2_
        have HO244 := n3_
        have BK247 := n4_
        have HK := n5_
        have HB := n6_
        have HI0 := n7_
        clear n0_ n1_ n2_ n3_ n4_ n5_ n6_ n7_
        (try clear hb)
        (try clear hb2)
        (try clear hk)
        (try clear hi)
        have p108 : 0 ≤ (t248 : Int) := of_decide_eq_true Z85
        have q108 : (t248 : Int) < ((t242.length : Int) : Int) := of_decide_eq_true Z85
        obtain ⟨go108,co108,eo108,gb108,gl108,cl108,HG108⟩ := Kd.R_form HO244.out Z149
        (first | cases eo108 | (injection eo108 with ea_ en_ ec_;(first | subst ea_ | (injection ea_ with ea_;subst ea_));subst ec_;clear en_))
        have GB108 := Aside0.mk gb108
        have GG108 := Aside0.mk HG108
        clear gb108 gl108 HG108
        obtain ⟨hx108_0,hf108_0⟩ := Kd.R_celln 0 HO244.out (t248 : Int) p108 q108
        replace p108 := eq_true p108
        replace q108 := eq_true q108
        have HN0_go108 := Aside0.mk (show g ≠ go108 from by have h_ := IsS100.own_ne HI0.out HO244.out Z154;intro e_;exact h_ Z101)
        have HP122 := Kd.R_putn HO244.out (t248 : Int) t282
        rw [← Ny285.out] at HP122
        have HQ122 := Aside0.mk HP122
        clear HP122
        refine hK.out _ _ ⟨(blk_cell BK247.out 0).trans rfl,(blk_cell BK247.out 1).trans rfl,(blk_cell BK247.out 2).trans rfl,(blk_cell BK247.out 3).trans rfl⟩ (fun hHeld => ?_)
        clear hK K
        refine norm_ (a' := ?_) ?_ ?_
        rotate_left
        ·show Act.put _ (some 58) _ = _
         simp only [Act.put,List.setIfInBounds_toArray,List.set_cons_zero,List.set_cons_succ,i64_w,i32_w]
         rfl
        refine pure_ (i := 5) (N := some 59) (v := ?_) (a' := ?_) #[true,true,true,true,true,true,false] rfl rfl Z102 (fun _ _ _ h => h) (Or.inl ⟨Z103,?_⟩) ?_ ?_
        rotate_left
        ·intro w'
         go_simp
         with_reducible rfl
        rotate_left
        ·simp only [Act.put,List.setIfInBounds_toArray,List.set_cons_zero,List.set_cons_succ,i64_w,i32_w]
         rfl
        refine last_ (i := 6) (N := none) #[true,true,true,true,true,true,true] rfl rfl Z102 Z154 (fun K hK => ?_)
        refine skip_ (w1 := ?_) Z103 rfl ?_ ?_
        rotate_left
        ·go_simp
         rfl
        refine hK.out _ _ ?_
        clear hK K
        refine done_ Z102 ?_
        have n0_ : Aside0 (Kd.R Kd.string 9 (w121.setCell ⟨go108,(t248 : Int).toNat,none⟩ (.int .i64 t282)) w.heap.size (fun _ => True) (.slice Ao112 t235.length co112) t235) := ⟨by (with_reducible repeat (first | apply Kd.R_alloc | apply Kd.R_drewN | apply Kd.R_drew));exact Kd.R_mono (Kd.R_far (p := ⟨go108,(t248 : Int).toNat,none⟩) (Kd.R_types HO237.out GG108.out Z154) (fun _ hk => hk.2) (.int .i64 t282)) (fun _ hk => trivial)⟩
        have n1_ : Aside0 (Kd.S (Kd.slice 3 (Kd.int .i64)) 34 (w121.setCell ⟨go108,(t248 : Int).toNat,none⟩ (.int .i64 t282)) w.heap.size (fun k_ => some k_ ≠ (.slice (some ⟨go108,0,none⟩) t242.length co117 : Value).ownBlock) (.slice Ao116 t239.length co116) t239) := ⟨by (with_reducible repeat (first | apply Kd.S_alloc | apply Kd.S_drewN | apply Kd.S_drew));exact Kd.S_mono (Kd.S_far (p := ⟨go108,(t248 : Int).toNat,none⟩) (Kd.S_mono HO241.out (fun k_ hk => (⟨hk,fun e_ => hk Z101⟩ : _ ∧ k_ ≠ go108))) (fun _ hk => hk.2) (.int .i64 t282)) (fun _ hk => hk.1)⟩
        have n2_ : Aside0 (Kd.R (Kd.int .i64) 3 (w121.setCell ⟨go108,(t248 : Int).toNat,none⟩ (.int .i64 t282)) w.heap.size (fun _ => True) (.slice (some ⟨go108,0,none⟩) t242.length co117) y285) := ⟨by (with_reducible repeat (first | apply Kd.R_alloc | apply Kd.R_drewN | apply Kd.R_drew));exact HQ122.out⟩
        have n3_ : Aside0 ((w121.setCell ⟨go108,(t248 : Int).toNat,none⟩ (.int .i64 t282)).heap[gb234]? = some (.cells #[.slice none 0 0,.string (⟨#[]⟩ : ByteArray),.slice none 0 0,.slice none 0 0] 36 (0,0))) := ⟨by refine bP ?_;refine blk_far ?_ (by have h_ := Kd.R_ne HO244.out BK234.out Z154;intro e_;exact h_ Z101) _;refine bP ?_;exact BK234.out⟩
        have n4_ : Aside0 ((w121.setCell ⟨go108,(t248 : Int).toNat,none⟩ (.int .i64 t282)).heap[gb247]? = some (.cells #[.slice Ao112 t235.length co112,.string t238,.slice Ao116 t239.length co116,.slice (some ⟨go108,0,none⟩) t242.length co117] 36 (0,0))) := ⟨by refine bP ?_;refine blk_far ?_ (by have h_ := Kd.R_ne HO244.out BK247.out Z154;intro e_;exact h_ Z101) _;refine bP ?_;exact BK247.out⟩
        have n5_ : Aside0 (IsS100 w0 (w121.setCell ⟨go108,(t248 : Int).toNat,none⟩ (.int .i64 t282)) g s0_0 t283 t284) := ⟨by repeat (first | (with_reducible first | exact HI0.out | apply IsS100.alloc | apply IsS100.drewN | apply IsS100.drew | apply IsS100.set_1 | apply IsS100.set_2 | refine IsS100.far ?_ HN0_go108.out _ | refine IsS100.far ?_ NB0_234.out _ | refine IsS100.far ?_ NB0_247.out _) | exact HI0.out)⟩
        have n6_ : Aside0 (KeepBut w (w121.setCell ⟨go108,(t248 : Int).toNat,none⟩ (.int .i64 t282)) g none) := ⟨by repeat (first | (with_reducible first | exact HK.out | apply KeepBut.set_ | apply keep_drewN | apply keep_drew | apply keep_alloc | refine keep_far ?_ GB108.out _ | refine keep_far ?_ GW234.out _ | refine keep_far ?_ GW247.out _) | exact HK.out)⟩
        have n7_ : Aside0 (Below w0.heap.size w0 (w121.setCell ⟨go108,(t248 : Int).toNat,none⟩ (.int .i64 t282))) := ⟨by repeat (first | (with_reducible first | exact HB.out | apply below_alloc | apply pw_below_drewN | apply below_drew1 | refine below_set ?_ (Nat.le_trans HL.out GB108.out) | refine below_set ?_ (IsS100.ge HI0.out) | refine below_set ?_ GE234.out | refine below_set ?_ GE247.out) | exact HB.out)⟩
        (try clear HO237)
        (try clear HO241)
        (try clear HO244)
        (try clear BK234)
        (try clear BK247)
        (try clear HI0)
        (try clear HK)
        (try clear HB)
        generalize (w121.setCell ⟨go108,(t248 : Int).toNat,none⟩ (.int .i64 t282)) = w123 at n0_ n1_ n2_ n3_ n4_ n5_ n6_ n7_ ⊢
        have HO237 := n0_
        have HO241 := n1_
        have HO244 := n2_
        have BK234 := n3_
        have BK247 := n4_
        have HI0 := n5_
        have HK := n6_
        have HB := n7_
        clear n0_ n1_ n2_ n3_ n4_ n5_ n6_ n7_
        obtain ⟨hcz124_0,hcz124_1,hcz124_2,hcz124_3,hfz124_0,hfz124_1,hfz124_2,hfz124_3⟩ := cells4 BK247.out
        have hnb125 := NB234_0.out
        have hnc125 := NB0_234.out
        obtain ⟨hcz126_0,hcz126_1,hcz126_2,hcz126_3,hfz126_0,hfz126_1,hfz126_2,hfz126_3⟩ := cells4 BK234.out
        try go_wp2
        refine bodyPost_ret (results_cell_row rfl _ _ gb234 36 #[.slice Ao112 t235.length co112,.string t238,.slice Ao116 t239.length co116,.slice (some ⟨go108,0,none⟩) t242.length co117] (0,0) _ rfl (by refine bP ?_;refine blk_put (cs := #[.slice Ao112 t235.length co112,.string t238,.slice Ao116 t239.length co116,.slice none 0 0]) ?_ 3 _ rfl;refine bP ?_;refine blk_put (cs := #[.slice Ao112 t235.length co112,.string t238,.slice none 0 0,.slice none 0 0]) ?_ 2 _ rfl;refine bP ?_;refine blk_put (cs := #[.slice Ao112 t235.length co112,.string (⟨#[]⟩ : ByteArray),.slice none 0 0,.slice none 0 0]) ?_ 1 _ rfl;refine bP ?_;refine blk_put (cs := #[.slice none 0 0,.string (⟨#[]⟩ : ByteArray),.slice none 0 0,.slice none 0 0]) ?_ 0 _ rfl;refine bP ?_;exact BK234.out) Try.underlying36 rfl Z102) rfl ?_
        exact ⟨_,_,_,Z77,by (with_reducible repeat (first | apply Kd.R_alloc | apply Kd.R_drewN | apply Kd.R_drew));exact Kd.R_mono (Kd.R_far (p := ⟨gb234,3,none⟩) (Kd.R_far (p := ⟨gb234,2,none⟩) (Kd.R_far (p := ⟨gb234,1,none⟩) (Kd.R_far (p := ⟨gb234,0,none⟩) (Kd.R_types HO237.out BK234.out Z154) (fun _ hk => hk.2) (.slice Ao112 t235.length co112)) (fun _ hk => hk.2) (.string t238)) (fun _ hk => hk.2) (.slice Ao116 t239.length co116)) (fun _ hk => hk.2) (.slice (some ⟨go108,0,none⟩) t242.length co117)) (fun _ hk => trivial),by (with_reducible repeat (first | apply Kd.S_alloc | apply Kd.S_drewN | apply Kd.S_drew));exact Kd.S_mono (Kd.S_far (p := ⟨gb234,3,none⟩) (Kd.S_far (p := ⟨gb234,2,none⟩) (Kd.S_far (p := ⟨gb234,1,none⟩) (Kd.S_far (p := ⟨gb234,0,none⟩) (Kd.S_types HO241.out BK234.out Z154) (fun _ hk => hk.2) (.slice Ao112 t235.length co112)) (fun _ hk => hk.2) (.string t238)) (fun _ hk => hk.2) (.slice Ao116 t239.length co116)) (fun _ hk => hk.2) (.slice (some ⟨go108,0,none⟩) t242.length co117)) (fun _ hk => hk.1),by (with_reducible repeat (first | apply Kd.R_alloc | apply Kd.R_drewN | apply Kd.R_drew));exact Kd.R_mono (Kd.R_far (p := ⟨gb234,3,none⟩) (Kd.R_far (p := ⟨gb234,2,none⟩) (Kd.R_far (p := ⟨gb234,1,none⟩) (Kd.R_far (p := ⟨gb234,0,none⟩) (Kd.R_types HO244.out BK234.out Z154) (fun _ hk => hk.2) (.slice Ao112 t235.length co112)) (fun _ hk => hk.2) (.string t238)) (fun _ hk => hk.2) (.slice Ao116 t239.length co116)) (fun _ hk => hk.2) (.slice (some ⟨go108,0,none⟩) t242.length co117)) (fun _ hk => trivial),Z107,Z30,Z112⟩
       ·rw [if_neg c107] at H
        exact absurd H Z150
      ·rw [if_neg c106] at H
       exact absurd H Z150
     ·rw [if_neg c104] at H
      have c104b0 : (t251 == 4) = false := beq_eq_false_iff_ne.mpr c104
      have c104b1 : (t251 != 4) = true := bne_iff_ne.mpr c104
      by_cases c127 : t251 = 5
      ·rw [if_pos c127] at H
       have c127b0 : (t251 == 5) = true := beq_iff_eq.mpr c127
       have c127b1 : (t251 != 5) = false := bne_eq_false_iff_eq.mpr c127
       clear c127
       by_cases c128 : t242.length < 17592186044416
       ·rw [if_pos c128] at H
        have LMc128 := Aside0.mk c128
        clear c128
        obtain ⟨y286,hy286⟩ : ∃ y_ : List Int,y_ = (t242 ++ [1]) := ⟨_,rfl⟩
        replace H : (some (t235,t238,t239,y286,t252,t253)) = some (r1,r2,r3,r4,r5,r6) := by first | (rw [hy286];with_reducible exact H) | (have H2_ := (Option.bind_some _ _).symm.trans H;rw [hy286];with_reducible exact H2_) | (have H2_ := (Option.bind_some _ _).symm.trans H;with_reducible exact H2_) | with_reducible exact H | (rw [hy286];exact H) | exact H
        have Ny286 := Aside0.mk hy286
        clear hy286
        simp only [Option.some.injEq,Prod.mk.injEq] at H
        obtain ⟨rfl,rfl,rfl,rfl,rfl,rfl⟩ := H
        go_enter Try.func48,Try.ntmps48
        go_wp2_with (first | ((with_reducible refine gate_dst (N := 2) rfl ?_);refine bE 2 #[.slice none 0 0,.string (⟨#[]⟩ : ByteArray),.slice none 0 0,.slice none 0 0] 36 (h := ?_);intro gb234 hg wq1 hbox hb;have n_ := Z8;clear HI0 HK HB;obtain ⟨HI0,HK,HB,BK234,GW234,GE234,NB0_234,NB234_0⟩ := n_;clear hb hbox hg) | ((with_reducible refine gate_callee (f := 75) rfl ?_);refine goesL_ (some 6) rfl rfl Try.func75 Z102 rfl #[.pointer (some ⟨g,0,none⟩)] rfl Z60 ?_;(with_reducible refine (spec_l9Right.calls k g s0_0 s0_1 s0_2 t235 t238 t239 t242 t245 t246 w0 _ ?side1 ?side2 A2.out).mono ?_);(case side1 => exact Z114);(case side2 => exact Z116);rintro e wq2 ⟨vq3,vq4,vq5,rfl,hoq6,hoq7,hoq8,hi,hb,hk⟩;refine ⟨_,rfl,?_⟩;have n_ := Z10;clear BK234 HK HB HI0;obtain ⟨BK234,HO237,HO241,HO244,HK,HB,HI0⟩ := n_;(try clear hb);(try clear hb2);(try clear hk);(try clear hi);(try clear hoq6);(try clear hoq7);(try clear hoq8)) | ((with_reducible refine gate_dst (N := 3) rfl ?_);refine bE 3 #[.slice none 0 0,.string (⟨#[]⟩ : ByteArray),.slice none 0 0,.slice none 0 0] 36 (h := ?_);intro gb247 hg wq9 hbox hb;have n_ := Z3;clear HO237 HO241 HO244 HI0 BK234 HK HB;obtain ⟨HO237,HO241,HO244,HI0,BK234,HK,HB,BK247,GW247,GE247,NB234_247,NB247_234,NB0_247,NB247_0⟩ := n_;clear hb hbox hg;obtain ⟨Aoq10,coq10,eoq10⟩ := Kd.R_slice HO237.out;subst eoq10;have hnbq11 := NB247_234.out;have hncq11 := NB234_247.out;have hnbq12 := NB247_0.out;have hncq12 := NB0_247.out;obtain ⟨hczq13_0,hczq13_1,hczq13_2,hczq13_3,hfzq13_0,hfzq13_1,hfzq13_2,hfzq13_3⟩ := cells4 BK247.out;obtain ⟨Aoq14,coq14,eoq14⟩ := Kd.S_slice HO241.out;subst eoq14;obtain ⟨Aoq15,coq15,eoq15⟩ := Kd.R_slice HO244.out;subst eoq15) | ((with_reducible refine gate_callee (f := 76) rfl ?_);refine goesL_ (some 11) rfl rfl Try.func76 Z102 rfl #[.pointer (some ⟨g,0,none⟩),.int .i64 (t239.length : Int)] rfl Z60 ?_;(with_reducible refine (spec_l1Below.calls g s0_0 t245 t246 (t239.length : Int) t248 t249 t250 w0 _ ?side1 ?side2 A3.out).mono ?_);(case side1 => exact Z107);(case side2 => exact Z30);rintro e wq16 ⟨rfl,hi,hb,hk⟩;refine ⟨_,rfl,?_⟩;have n_ := Z1;clear BK234 HO237 HO241 HO244 BK247 HK HB HI0;obtain ⟨BK234,HO237,HO241,HO244,BK247,HK,HB,HI0⟩ := n_;(try clear hb);(try clear hb2);(try clear hk);(try clear hi)) | ((with_reducible refine gate_callee (f := 76) rfl ?_);refine goesL_ (some 13) rfl rfl Try.func76 Z102 rfl #[.pointer (some ⟨g,0,none⟩),.int .i64 14] rfl Z60 ?_;(with_reducible refine (spec_l1Below.calls g s0_0 t249 t250 14 t251 t252 t253 w0 _ ?side1 ?side2 A4.out).mono ?_);(case side1 => exact Z107);(case side2 => exact Z30);rintro e wq17 ⟨rfl,hi,hb,hk⟩;refine ⟨_,rfl,?_⟩;have n_ := Z5;clear BK234 HO237 HO241 HO244 BK247 HK HB HI0;obtain ⟨BK234,HO237,HO241,HO244,BK247,HK,HB,HI0⟩ := n_;(try clear hb);(try clear hb2);(try clear hk);(try clear hi);obtain ⟨hczq18_0,hczq18_1,hczq18_2,hczq18_3,hfzq18_0,hfzq18_1,hfzq18_2,hfzq18_3⟩ := cells4 BK247.out) | ((with_reducible refine gate_builtin (b := .append) (xs := #[.tmp 63,.tmp 64]) rfl ?_);at_builtin;refine Kd.R_append (Kd.int .i64) w.heap.size rfl (.tmp 63) (.tmp 64) 34 3 (.int .i64 0) 8 rfl Try.underlying34 info3 rfl Z154 Z149 (.slice Aoq15 t242.length coq15) t242 1 [.int .i64 1] (fun _ => True) (fun _ => False) rfl rfl ?aP (fun _ hk => hk.elim) ?aF ?aO (Below.refl _ _) ?aS ?aL ?_;(case aP => exact rfl);(case aF => exact Z98);(case aO => exact Z133);(case aS => exact Z28);(case aL => have := LMc128.out;omega);intro vq19 wq20 ho hb hg hat;rw [← Ny286.out] at ho;have n_ := jA (IsS100.grown Z23 hg (IsS100.own_ne HI0.out HO244.out Z154)) (jA (blk_grown (g := gb234) (o := .cells #[.slice none 0 0,.string (⟨#[]⟩ : ByteArray),.slice none 0 0,.slice none 0 0] 36 (0,0)) Z142 hg (Kd.R_ne HO244.out BK234.out Z154)) (jA (Kd.R_over' Z134 (Kd.R_typed Z133) Z154 hg) (jA (Kd.S_after (ok := (fun _ => True)) (by (with_reducible repeat (first | apply Kd.S_alloc | apply Kd.S_drewN | apply Kd.S_drew));exact Kd.S_mono HO241.out (fun _ hk => ⟨trivial,hk⟩)) hg hat) (jA (blk_grown (g := gb247) (o := .cells #[.slice Aoq10 t235.length coq10,.string t238,.slice Aoq14 t239.length coq14,.slice Aoq15 t242.length coq15] 36 (0,0)) Z144 hg (Kd.R_ne HO244.out BK247.out Z154)) (jA (below_weaken Z30 HL.out hb) (jA (KeepBut.trans Z112 (KeepBut.of_grown hg g) (Kd.R_base2 HO244.out)) (Aside0.mk (ho))))))));clear HI0 BK234 HO237 HO241 BK247 HB HK HO244;obtain ⟨HI0,BK234,HO237,HO241,BK247,HB,HK,HO288⟩ := n_;clear ho hb hg hat;obtain ⟨Aoq21,coq21,eoq21⟩ := Kd.R_slice HO288.out;subst eoq21;obtain ⟨hczq22_0,hczq22_1,hczq22_2,hczq22_3,hfzq22_0,hfzq22_1,hfzq22_2,hfzq22_3⟩ := cells4 BK247.out;have hnbq23 := NB234_0.out;have hncq23 := NB0_234.out;obtain ⟨hczq24_0,hczq24_1,hczq24_2,hczq24_3,hfzq24_0,hfzq24_1,hfzq24_2,hfzq24_3⟩ := cells4 BK234.out))
        refine bodyPost_ret (results_cell_row rfl _ _ gb234 36 #[.slice Aoq10 t235.length coq10,.string t238,.slice Aoq14 t239.length coq14,.slice Aoq21 y286.length coq21] (0,0) _ rfl (by refine bP ?_;refine blk_put (cs := #[.slice Aoq10 t235.length coq10,.string t238,.slice Aoq14 t239.length coq14,.slice none 0 0]) ?_ 3 _ rfl;refine bP ?_;refine blk_put (cs := #[.slice Aoq10 t235.length coq10,.string t238,.slice none 0 0,.slice none 0 0]) ?_ 2 _ rfl;refine bP ?_;refine blk_put (cs := #[.slice Aoq10 t235.length coq10,.string (⟨#[]⟩ : ByteArray),.slice none 0 0,.slice none 0 0]) ?_ 1 _ rfl;refine bP ?_;refine blk_put (cs := #[.slice none 0 0,.string (⟨#[]⟩ : ByteArray),.slice none 0 0,.slice none 0 0]) ?_ 0 _ rfl;refine bP ?_;refine blk_far ?_ NB234_247.out _;refine bP ?_;exact BK234.out) Try.underlying36 rfl Z102) rfl ?_
        exact ⟨_,_,_,Z77,by (with_reducible repeat (first | apply Kd.R_alloc | apply Kd.R_drewN | apply Kd.R_drew));exact Kd.R_mono (Kd.R_far (p := ⟨gb234,3,none⟩) (Kd.R_far (p := ⟨gb234,2,none⟩) (Kd.R_far (p := ⟨gb234,1,none⟩) (Kd.R_far (p := ⟨gb234,0,none⟩) (Kd.R_far (p := ⟨gb247,3,none⟩) (Kd.R_types (Kd.R_types HO237.out BK247.out Z154) BK234.out Z154) (fun _ hk => hk.1.2) (.slice Aoq21 y286.length coq21)) (fun _ hk => hk.2) (.slice Aoq10 t235.length coq10)) (fun _ hk => hk.2) (.string t238)) (fun _ hk => hk.2) (.slice Aoq14 t239.length coq14)) (fun _ hk => hk.2) (.slice Aoq21 y286.length coq21)) (fun _ hk => trivial),by (with_reducible repeat (first | apply Kd.S_alloc | apply Kd.S_drewN | apply Kd.S_drew));exact Kd.S_mono (Kd.S_far (p := ⟨gb234,3,none⟩) (Kd.S_far (p := ⟨gb234,2,none⟩) (Kd.S_far (p := ⟨gb234,1,none⟩) (Kd.S_far (p := ⟨gb234,0,none⟩) (Kd.S_far (p := ⟨gb247,3,none⟩) (Kd.S_types (Kd.S_types HO241.out BK247.out Z154) BK234.out Z154) (fun _ hk => hk.1.2) (.slice Aoq21 y286.length coq21)) (fun _ hk => hk.2) (.slice Aoq10 t235.length coq10)) (fun _ hk => hk.2) (.string t238)) (fun _ hk => hk.2) (.slice Aoq14 t239.length coq14)) (fun _ hk => hk.2) (.slice Aoq21 y286.length coq21)) (fun _ hk => hk.1.1.2),by (with_reducible repeat (first | apply Kd.R_alloc | apply Kd.R_drewN | apply Kd.R_drew));exact Kd.R_mono (Kd.R_far (p := ⟨gb234,3,none⟩) (Kd.R_far (p := ⟨gb234,2,none⟩) (Kd.R_far (p := ⟨gb234,1,none⟩) (Kd.R_far (p := ⟨gb234,0,none⟩) (Kd.R_far (p := ⟨gb247,3,none⟩) (Kd.R_types (Kd.R_types HO288.out BK247.out Z154) BK234.out Z154) (fun _ hk => hk.1.2) (.slice Aoq21 y286.length coq21)) (fun _ hk => hk.2) (.slice Aoq10 t235.length coq10)) (fun _ hk => hk.2) (.string t238)) (fun _ hk => hk.2) (.slice Aoq14 t239.length coq14)) (fun _ hk => hk.2) (.slice Aoq21 y286.length coq21)) (fun _ hk => trivial),Z107,Z30,Z112⟩
       ·rw [if_neg c128] at H
        exact absurd H Z150
      ·rw [if_neg c127] at H
       have c127b0 : (t251 == 5) = false := beq_eq_false_iff_ne.mpr c127
       have c127b1 : (t251 != 5) = true := bne_iff_ne.mpr c127
       by_cases c146 : t251 = 6
       ·rw [if_pos c146] at H
        have c146b0 : (t251 == 6) = true := beq_iff_eq.mpr c146
        have c146b1 : (t251 != 6) = false := bne_eq_false_iff_eq.mpr c146
        clear c146
        obtain ⟨y289,hy289⟩ : ∃ y_ : List Int,y_ = (([] : List Int)) := ⟨_,rfl⟩
        replace H : (if 0 ≤ t248 then (if t248 < (t239.length : Int) then (some (t235,t238,(t239.set (t248 : Int).toNat y289),t242,t252,t253)) else (none)) else (none)) = some (r1,r2,r3,r4,r5,r6) := by first | (rw [hy289];with_reducible exact H) | (have H2_ := (Option.bind_some _ _).symm.trans H;rw [hy289];with_reducible exact H2_) | (have H2_ := (Option.bind_some _ _).symm.trans H;with_reducible exact H2_) | with_reducible exact H | (rw [hy289];exact H) | exact H
        have Ny289 := Aside0.mk hy289
        clear hy289
        by_cases c147 : 0 ≤ t248
        ·rw [if_pos c147] at H
         have c147b0 : decide (0 ≤ t248) = true := decide_eq_true c147
         clear c147
         by_cases c148 : t248 < (t239.length : Int)
         ·rw [if_pos c148] at H
          have c148b0 : decide (t248 < (t239.length : Int)) = true := decide_eq_true c148
          clear c148
          obtain ⟨y292,hy292⟩ : ∃ y_ : List (List Int),y_ = (t239.set (t248 : Int).toNat y289) := ⟨_,rfl⟩
          replace H : (some (t235,t238,y292,t242,t252,t253)) = some (r1,r2,r3,r4,r5,r6) := by first | (rw [hy292];with_reducible exact H) | (have H2_ := (Option.bind_some _ _).symm.trans H;rw [hy292];with_reducible exact H2_) | (have H2_ := (Option.bind_some _ _).symm.trans H;with_reducible exact H2_) | with_reducible exact H | (rw [hy292];exact H) | exact H
          have Ny292 := Aside0.mk hy292
          clear hy292
          simp only [Option.some.injEq,Prod.mk.injEq] at H
          obtain ⟨rfl,rfl,rfl,rfl,rfl,rfl⟩ := H
          go_enter Try.func48,Try.ntmps48
          go_wp2_with (first | ((with_reducible refine gate_dst (N := 2) rfl ?_);refine bE 2 #[.slice none 0 0,.string (⟨#[]⟩ : ByteArray),.slice none 0 0,.slice none 0 0] 36 (h := ?_);intro gb234 hg wq1 hbox hb;have n_ := Z8;clear HI0 HK HB;obtain ⟨HI0,HK,HB,BK234,GW234,GE234,NB0_234,NB234_0⟩ := n_;clear hb hbox hg) | ((with_reducible refine gate_callee (f := 75) rfl ?_);refine goesL_ (some 6) rfl rfl Try.func75 Z102 rfl #[.pointer (some ⟨g,0,none⟩)] rfl Z60 ?_;(with_reducible refine (spec_l9Right.calls k g s0_0 s0_1 s0_2 t235 t238 t239 t242 t245 t246 w0 _ ?side1 ?side2 A2.out).mono ?_);(case side1 => exact Z114);(case side2 => exact Z116);rintro e wq2 ⟨vq3,vq4,vq5,rfl,hoq6,hoq7,hoq8,hi,hb,hk⟩;refine ⟨_,rfl,?_⟩;have n_ := Z10;clear BK234 HK HB HI0;obtain ⟨BK234,HO237,HO241,HO244,HK,HB,HI0⟩ := n_;(try clear hb);(try clear hb2);(try clear hk);(try clear hi);(try clear hoq6);(try clear hoq7);(try clear hoq8)) | ((with_reducible refine gate_dst (N := 3) rfl ?_);refine bE 3 #[.slice none 0 0,.string (⟨#[]⟩ : ByteArray),.slice none 0 0,.slice none 0 0] 36 (h := ?_);intro gb247 hg wq9 hbox hb;have n_ := Z3;clear HO237 HO241 HO244 HI0 BK234 HK HB;obtain ⟨HO237,HO241,HO244,HI0,BK234,HK,HB,BK247,GW247,GE247,NB234_247,NB247_234,NB0_247,NB247_0⟩ := n_;clear hb hbox hg;obtain ⟨Aoq10,coq10,eoq10⟩ := Kd.R_slice HO237.out;subst eoq10;have hnbq11 := NB247_234.out;have hncq11 := NB234_247.out;have hnbq12 := NB247_0.out;have hncq12 := NB0_247.out;obtain ⟨hczq13_0,hczq13_1,hczq13_2,hczq13_3,hfzq13_0,hfzq13_1,hfzq13_2,hfzq13_3⟩ := cells4 BK247.out;obtain ⟨Aoq14,coq14,eoq14⟩ := Kd.S_slice HO241.out;subst eoq14;obtain ⟨Aoq15,coq15,eoq15⟩ := Kd.R_slice HO244.out;subst eoq15) | ((with_reducible refine gate_callee (f := 76) rfl ?_);refine goesL_ (some 11) rfl rfl Try.func76 Z102 rfl #[.pointer (some ⟨g,0,none⟩),.int .i64 (t239.length : Int)] rfl Z60 ?_;(with_reducible refine (spec_l1Below.calls g s0_0 t245 t246 (t239.length : Int) t248 t249 t250 w0 _ ?side1 ?side2 A3.out).mono ?_);(case side1 => exact Z107);(case side2 => exact Z30);rintro e wq16 ⟨rfl,hi,hb,hk⟩;refine ⟨_,rfl,?_⟩;have n_ := Z1;clear BK234 HO237 HO241 HO244 BK247 HK HB HI0;obtain ⟨BK234,HO237,HO241,HO244,BK247,HK,HB,HI0⟩ := n_;(try clear hb);(try clear hb2);(try clear hk);(try clear hi)) | ((with_reducible refine gate_callee (f := 76) rfl ?_);refine goesL_ (some 13) rfl rfl Try.func76 Z102 rfl #[.pointer (some ⟨g,0,none⟩),.int .i64 14] rfl Z60 ?_;(with_reducible refine (spec_l1Below.calls g s0_0 t249 t250 14 t251 t252 t253 w0 _ ?side1 ?side2 A4.out).mono ?_);(case side1 => exact Z107);(case side2 => exact Z30);rintro e wq17 ⟨rfl,hi,hb,hk⟩;refine ⟨_,rfl,?_⟩;have n_ := Z5;clear BK234 HO237 HO241 HO244 BK247 HK HB HI0;obtain ⟨BK234,HO237,HO241,HO244,BK247,HK,HB,HI0⟩ := n_;(try clear hb);(try clear hb2);(try clear hk);(try clear hi);obtain ⟨hczq18_0,hczq18_1,hczq18_2,hczq18_3,hfzq18_0,hfzq18_1,hfzq18_2,hfzq18_3⟩ := cells4 BK247.out) | ((with_reducible refine gate_dst (N := 72) rfl ?_);refine Kd.R_lit (Kd.int .i64) _ 3 ?hg (N := 72) ?hd (xs := ([] : List Int)) (inner := []) (ok := fun _ => True) (okp := fun _ => True) ?hr ?hp (fun _ hk => hk) trivial (Below.refl _ _) (Nat.le_refl _) Z150 ?_;(case hd => rfl);(case hg => rfl);(case hr => exact Z87);(case hp => exact Z100);intro vq19 wq20 hoq21 hb hg_ hnew_;clear hg_ hnew_;(first | rw [← Ny289.out] at hoq21 | (simp only [Int.reduceToNat] at hoq21;rw [← Ny289.out] at hoq21));have n_ := jA (Kd.R_below Z134 hb) (jA (Kd.S_elder' Z135 (Kd.R_base hoq21) hb) (jA (Kd.R_elder' Z133 (Kd.R_base hoq21) hb) (jA (Kd.R_lower (Kd.R_new' hoq21 (Kd.R_lt Z133)) (keep_size (w := w) (g := g) (row := none) Z112)) (jA (IsS100.below Z107 hb) (jA (blk_below (g := gb234) (o := .cells #[.slice none 0 0,.string (⟨#[]⟩ : ByteArray),.slice none 0 0,.slice none 0 0] 36 (0,0)) Z142 hb) (jA (blk_below (g := gb247) (o := .cells #[.slice Aoq10 t235.length coq10,.string t238,.slice Aoq14 t239.length coq14,.slice Aoq15 t242.length coq15] 36 (0,0)) Z144 hb) (jA (KeepBut.trans Z112 (KeepBut.of_below hb g none) (.inl rfl)) (Aside0.mk (below_step Z30 hb)))))))));clear HO237 HO241 HO244 HI0 BK234 BK247 HK HB;obtain ⟨HO237,HO241,HO244,HO291,HI0,BK234,BK247,HK,HB⟩ := n_;clear hb hoq21;have pq22 : 0 ≤ (t248 : Int) := of_decide_eq_true Z85;have qq22 : (t248 : Int) < ((t239.length : Int) : Int) := of_decide_eq_true Z85;obtain ⟨goq22,coq22,eoq22,gb149,glq22,clq22,HGq22⟩ := Kd.S_form HO241.out Z149;(first | cases eoq22 | (injection eoq22 with ea_ en_ ec_;(first | subst ea_ | (injection ea_ with ea_;subst ea_));subst ec_;clear en_));have GBq22 := Aside0.mk gb149;have GGq22 := Aside0.mk HGq22;clear gb149 glq22 HGq22;obtain ⟨_,ceq22,hclq22,hMq22,hccq22,hfrq22,_,_⟩ := Kd.S_elem HO241.out [] (t248 : Int) pq22 qq22;obtain ⟨veq22_0,rfl,geq22_0⟩ := hMq22;have hxq22_0 := hccq22 0 _ rfl;have hfq22_0 := hfrq22 0;(try simp only [show ((Kd.slice 3 (Kd.int .i64))).sz = 1 from rfl,Nat.mul_one,Nat.add_zero] at hxq22_0);(try simp only [show ((Kd.slice 3 (Kd.int .i64))).sz = 1 from rfl,Nat.mul_one,Nat.add_zero] at hfq22_0);(try clear hclq22);(try clear hccq22);(try clear hfrq22);(try clear hMq22);replace pq22 := eq_true pq22;replace qq22 := eq_true qq22;have HXq23 := Aside0.mk (show Kd.S (Kd.slice 3 (Kd.int .i64)) 34 wq20 w.heap.size (fun k_ => ((fun k_ => some k_ ≠ (.slice Aoq15 t242.length coq15 : Value).ownBlock)) k_ ∧ ¬ ((fun k_ => some k_ = (vq19 : Value).ownBlock)) k_) (.slice (some ⟨goq22,0,none⟩) t239.length coq14) t239 from (by (with_reducible repeat (first | apply Kd.S_alloc | apply Kd.S_drewN | apply Kd.S_drew));exact Kd.S_mono HO241.out (fun k_ hk => ⟨hk.1,fun e_ => hk.2 e_⟩)));obtain ⟨okiq23,ceq23,hclq23,hMq23,hccq23,hfrq23,hokiq23,hHq23⟩ := Kd.S_elem HXq23.out [] (t248 : Int) (of_decide_eq_true Z85) (by have h_ : (t248 : Int) < ((t239.length : Int) : Int) := of_decide_eq_true Z85;first | exact h_ | (have e_ := (Kd.S_reads' HO241.out).1;omega) | simpa using h_);obtain ⟨veq23_0,rfl,geq23_0⟩ := hMq23;have HPq23 := Kd.S_seg hHq23 (of_decide_eq_true Z85) (by have h_ : (t248 : Int) < ((t239.length : Int) : Int) := of_decide_eq_true Z85;first | exact h_ | (have e_ := (Kd.S_reads' HO241.out).1;omega) | simpa using h_) (seg := [vq19]) (j := 0) (show 1 ≤ 1 from Z154) (x' := y289) (Kd.M_row (Kd.R_mono (Kd.R_tight rfl (Kd.R_mono (ok' := fun k_ => ((fun k_ => some k_ ≠ (.slice Aoq15 t242.length coq15 : Value).ownBlock)) k_ ∧ k_ ≠ goq22) (Kd.R_apart' (HO291.out) (Kd.S_typed HO241.out) Z154) (fun k_ hk => ⟨hk.1.2,fun e_ => (hk.2) Z101⟩))) (fun _ h_ => Or.inr (h_)))) (fun _ hk => hk) (fun k_ hk_ => ((Kd.R_mono (ok' := fun k_ => ((fun k_ => some k_ ≠ (.slice Aoq15 t242.length coq15 : Value).ownBlock)) k_ ∧ k_ ≠ goq22) (Kd.R_apart' (HO291.out) (Kd.S_typed HO241.out) Z154) (fun k_ hk => ⟨hk.1.2,fun e_ => (hk.2) Z101⟩))).1 k_ hk_.symm);have hxq23_0 := hccq23 0 _ rfl;(try simp only [show ((Kd.slice 3 (Kd.int .i64))).sz = 1 from rfl,Nat.mul_one,Nat.add_zero] at hxq23_0);have hfq23_0 := hfrq23 0;(try simp only [show ((Kd.slice 3 (Kd.int .i64))).sz = 1 from rfl,Nat.mul_one,Nat.add_zero] at hfq23_0);(try clear hclq23);(try clear hccq23);(try clear hfrq23);(try clear hMq23);(try clear hokiq23);(try clear hHq23);(try simp only [show ((Kd.slice 3 (Kd.int .i64))).sz = 1 from rfl,Nat.mul_one,Nat.add_zero] at HPq23)) | ((with_reducible refine gate_store (t := 34) (p := 73) rfl ?_);refine store_event (t := 34) (p := 73) (v := ?vo_w165) (w1 := (wq20.setCell ⟨goq22,(t248 : Int).toNat,none⟩ (vq19))) ?hg ?ho ?hn ?hr ?_;(case ho => rfl);(case hg => rfl);(case hn => rfl);(case hr => first | (go_simp;done) | (go_simp;rfl) | (obtain ⟨A_q6,c_q6,e_q6⟩ := Kd.R_slice HO291.out;rw [e_q6];first | (go_simp;done) | (go_simp;rfl)));intro wq24 hw;have hg : wq20.grownBy wq24 (some goq22) := (by rw [hw];exact HPq23.2);have hp_ : Kd.S (Kd.slice 3 (Kd.int .i64)) 34 wq24 w.heap.size (fun k_ => some k_ ≠ (.slice Aoq15 t242.length coq15 : Value).ownBlock) (.slice (some ⟨goq22,0,none⟩) t239.length coq14) y292 := (by rw [hw,Ny292.out];exact HPq23.1);clear HPq23;have n_ := jA (IsS100.grown Z23 hg (IsS100.own_neS HI0.out HO241.out Z154)) (jA (blk_grown (g := gb234) (o := .cells #[.slice none 0 0,.string (⟨#[]⟩ : ByteArray),.slice none 0 0,.slice none 0 0] 36 (0,0)) Z142 hg (Kd.S_ne HO241.out BK234.out Z154)) (jA (Kd.R_over' (v := (.slice (some ⟨goq22,0,none⟩) t239.length coq14)) Z134 (Kd.S_typed HO241.out) Z154 hg) (jA (hp_) (jA (Kd.R_over' (v := (.slice (some ⟨goq22,0,none⟩) t239.length coq14)) Z133 (Kd.S_typed HO241.out) Z154 hg) (jA (blk_grown (g := gb247) (o := .cells #[.slice Aoq10 t235.length coq10,.string t238,.slice (some ⟨goq22,0,none⟩) t239.length coq14,.slice Aoq15 t242.length coq15] 36 (0,0)) Z144 hg (Kd.S_ne HO241.out BK247.out Z154)) (jA ((by rw [hw];exact below_set (HB.out) (Nat.le_trans HL.out GBq22.out) : Below w0.heap.size w0 wq24)) (Aside0.mk (KeepBut.trans Z112 (KeepBut.of_grown hg g) (Kd.S_base2 HO241.out)))))))));clear HI0 BK234 HO237 HO241 HO244 BK247 HB HK HO291;obtain ⟨HI0,BK234,HO237,HO241,HO244,BK247,HB,HK⟩ := n_;clear hg hw hp_;obtain ⟨hczq25_0,hczq25_1,hczq25_2,hczq25_3,hfzq25_0,hfzq25_1,hfzq25_2,hfzq25_3⟩ := cells4 BK247.out;have hnbq26 := NB234_0.out;have hncq26 := NB0_234.out;obtain ⟨hczq27_0,hczq27_1,hczq27_2,hczq27_3,hfzq27_0,hfzq27_1,hfzq27_2,hfzq27_3⟩ := cells4 BK234.out))
          refine bodyPost_ret (results_cell_row rfl _ _ gb234 36 #[.slice Aoq10 t235.length coq10,.string t238,.slice (some ⟨goq22,0,none⟩) t239.length coq14,.slice Aoq15 t242.length coq15] (0,0) _ rfl (by refine bP ?_;refine blk_put (cs := #[.slice Aoq10 t235.length coq10,.string t238,.slice (some ⟨goq22,0,none⟩) t239.length coq14,.slice none 0 0]) ?_ 3 _ rfl;refine bP ?_;refine blk_put (cs := #[.slice Aoq10 t235.length coq10,.string t238,.slice none 0 0,.slice none 0 0]) ?_ 2 _ rfl;refine bP ?_;refine blk_put (cs := #[.slice Aoq10 t235.length coq10,.string (⟨#[]⟩ : ByteArray),.slice none 0 0,.slice none 0 0]) ?_ 1 _ rfl;refine bP ?_;refine blk_put (cs := #[.slice none 0 0,.string (⟨#[]⟩ : ByteArray),.slice none 0 0,.slice none 0 0]) ?_ 0 _ rfl;refine bP ?_;exact BK234.out) Try.underlying36 rfl Z102) rfl ?_
          exact ⟨_,_,_,Z77,by (with_reducible repeat (first | apply Kd.R_alloc | apply Kd.R_drewN | apply Kd.R_drew));exact Kd.R_mono (Kd.R_far (p := ⟨gb234,3,none⟩) (Kd.R_far (p := ⟨gb234,2,none⟩) (Kd.R_far (p := ⟨gb234,1,none⟩) (Kd.R_far (p := ⟨gb234,0,none⟩) (Kd.R_types HO237.out BK234.out Z154) (fun _ hk => hk.2) (.slice Aoq10 t235.length coq10)) (fun _ hk => hk.2) (.string t238)) (fun _ hk => hk.2) (.slice (some ⟨goq22,0,none⟩) t239.length coq14)) (fun _ hk => hk.2) (.slice Aoq15 t242.length coq15)) (fun _ hk => trivial),by (with_reducible repeat (first | apply Kd.S_alloc | apply Kd.S_drewN | apply Kd.S_drew));exact Kd.S_mono (Kd.S_far (p := ⟨gb234,3,none⟩) (Kd.S_far (p := ⟨gb234,2,none⟩) (Kd.S_far (p := ⟨gb234,1,none⟩) (Kd.S_far (p := ⟨gb234,0,none⟩) (Kd.S_types HO241.out BK234.out Z154) (fun _ hk => hk.2) (.slice Aoq10 t235.length coq10)) (fun _ hk => hk.2) (.string t238)) (fun _ hk => hk.2) (.slice (some ⟨goq22,0,none⟩) t239.length coq14)) (fun _ hk => hk.2) (.slice Aoq15 t242.length coq15)) (fun _ hk => hk.1),by (with_reducible repeat (first | apply Kd.R_alloc | apply Kd.R_drewN | apply Kd.R_drew));exact Kd.R_mono (Kd.R_far (p := ⟨gb234,3,none⟩) (Kd.R_far (p := ⟨gb234,2,none⟩) (Kd.R_far (p := ⟨gb234,1,none⟩) (Kd.R_far (p := ⟨gb234,0,none⟩) (Kd.R_types HO244.out BK234.out Z154) (fun _ hk => hk.2) (.slice Aoq10 t235.length coq10)) (fun _ hk => hk.2) (.string t238)) (fun _ hk => hk.2) (.slice (some ⟨goq22,0,none⟩) t239.length coq14)) (fun _ hk => hk.2) (.slice Aoq15 t242.length coq15)) (fun _ hk => trivial),Z107,Z30,Z112⟩
         ·rw [if_neg c148] at H
          exact absurd H Z150
        ·rw [if_neg c147] at H
         exact absurd H Z150
       ·rw [if_neg c146] at H
        have c146b0 : (t251 == 6) = false := beq_eq_false_iff_ne.mpr c146
        have c146b1 : (t251 != 6) = true := bne_iff_ne.mpr c146
        by_cases c169 : t251 = 7
        ·rw [if_pos c169] at H
         have c169b0 : (t251 == 7) = true := beq_iff_eq.mpr c169
         have c169b1 : (t251 != 7) = false := bne_eq_false_iff_eq.mpr c169
         clear c169
         have H' := Aside0.mk H
         clear H
         go_enter Try.func48,Try.ntmps48
         go_wp2_with (first | ((with_reducible refine gate_dst (N := 2) rfl ?_);refine bE 2 #[.slice none 0 0,.string (⟨#[]⟩ : ByteArray),.slice none 0 0,.slice none 0 0] 36 (h := ?_);intro gb234 hg w170 hbox hb;have n_ := Z8;clear HI0 HK HB;obtain ⟨HI0,HK,HB,BK234,GW234,GE234,NB0_234,NB234_0⟩ := n_;clear hb hbox hg) | ((with_reducible refine gate_callee (f := 75) rfl ?_);refine goesL_ (some 6) rfl rfl Try.func75 Z102 rfl #[.pointer (some ⟨g,0,none⟩)] rfl Z60 ?_;(with_reducible refine (spec_l9Right.calls k g s0_0 s0_1 s0_2 t235 t238 t239 t242 t245 t246 w0 _ ?side1 ?side2 A2.out).mono ?_);(case side1 => exact Z114);(case side2 => exact Z116);rintro e w171 ⟨v236,v240,v243,rfl,ho0,ho1,ho2,hi,hb,hk⟩;refine ⟨_,rfl,?_⟩;have n_ := Z11;clear BK234 HK HB HI0;obtain ⟨BK234,HO237,HO241,HO244,HK,HB,HI0⟩ := n_;(try clear hb);(try clear hb2);(try clear hk);(try clear hi);(try clear ho0);(try clear ho1);(try clear ho2)) | ((with_reducible refine gate_dst (N := 3) rfl ?_);refine bE 3 #[.slice none 0 0,.string (⟨#[]⟩ : ByteArray),.slice none 0 0,.slice none 0 0] 36 (h := ?_);intro gb247 hg w172 hbox hb;have n_ := Z3;clear HO237 HO241 HO244 HI0 BK234 HK HB;obtain ⟨HO237,HO241,HO244,HI0,BK234,HK,HB,BK247,GW247,GE247,NB234_247,NB247_234,NB0_247,NB247_0⟩ := n_;clear hb hbox hg;obtain ⟨Ao173,co173,eo173⟩ := Kd.R_slice HO237.out;subst eo173;have hnb174 := NB247_234.out;have hnc174 := NB234_247.out;have hnb175 := NB247_0.out;have hnc175 := NB0_247.out;obtain ⟨hcz176_0,hcz176_1,hcz176_2,hcz176_3,hfz176_0,hfz176_1,hfz176_2,hfz176_3⟩ := cells4 BK247.out;obtain ⟨Ao177,co177,eo177⟩ := Kd.S_slice HO241.out;subst eo177;obtain ⟨Ao178,co178,eo178⟩ := Kd.R_slice HO244.out;subst eo178) | ((with_reducible refine gate_callee (f := 76) rfl ?_);refine goesL_ (some 11) rfl rfl Try.func76 Z102 rfl #[.pointer (some ⟨g,0,none⟩),.int .i64 (t239.length : Int)] rfl Z60 ?_;(with_reducible refine (spec_l1Below.calls g s0_0 t245 t246 (t239.length : Int) t248 t249 t250 w0 _ ?side1 ?side2 A3.out).mono ?_);(case side1 => exact Z107);(case side2 => exact Z30);rintro e w179 ⟨rfl,hi,hb,hk⟩;refine ⟨_,rfl,?_⟩;have n_ := jA (KeepBut.blk hk (g' := gb234) (o := .cells #[.slice none 0 0,.string (⟨#[]⟩ : ByteArray),.slice none 0 0,.slice none 0 0] 36 (0,0)) Z111 NB234_0.out Z150) (jA (Kd.R_mono (Kd.R_keep (IsS100.apart (show IsS100 w0 _ g s0_0 t245 t246 from Z107) (by (with_reducible repeat (first | apply Kd.R_alloc | apply Kd.R_drewN | apply Kd.R_drew));exact (Kd.R_mono (Kd.R_far (p := ⟨gb247,3,none⟩) (Kd.R_far (p := ⟨gb247,2,none⟩) (Kd.R_far (p := ⟨gb247,1,none⟩) (Kd.R_far (p := ⟨gb247,0,none⟩) (Kd.R_types HO237.out BK247.out Z154) (fun _ hk => hk.2) (.slice Ao173 t235.length co173)) (fun _ hk => hk.2) (.string t238)) (fun _ hk => hk.2) (.slice Ao177 t239.length co177)) (fun _ hk => hk.2) (.slice Ao178 t242.length co178)) (fun _ h_ => h_.1))) Z154) hk (fun _ h => h.2)) (fun _ h => h.1)) (jA (Kd.S_mono (Kd.S_keep (IsS100.apartS (show IsS100 w0 _ g s0_0 t245 t246 from Z107) (by (with_reducible repeat (first | apply Kd.S_alloc | apply Kd.S_drewN | apply Kd.S_drew));exact (Kd.S_mono (Kd.S_far (p := ⟨gb247,3,none⟩) (Kd.S_far (p := ⟨gb247,2,none⟩) (Kd.S_far (p := ⟨gb247,1,none⟩) (Kd.S_far (p := ⟨gb247,0,none⟩) (Kd.S_types HO241.out BK247.out Z154) (fun _ hk => hk.2) (.slice Ao173 t235.length co173)) (fun _ hk => hk.2) (.string t238)) (fun _ hk => hk.2) (.slice Ao177 t239.length co177)) (fun _ hk => hk.2) (.slice Ao178 t242.length co178)) (fun _ h_ => h_.1))) Z154) hk (fun _ h => h.2)) (fun _ h => h.1)) (jA (Kd.R_mono (Kd.R_keep (IsS100.apart (show IsS100 w0 _ g s0_0 t245 t246 from Z107) (by (with_reducible repeat (first | apply Kd.R_alloc | apply Kd.R_drewN | apply Kd.R_drew));exact (Kd.R_mono (Kd.R_far (p := ⟨gb247,3,none⟩) (Kd.R_far (p := ⟨gb247,2,none⟩) (Kd.R_far (p := ⟨gb247,1,none⟩) (Kd.R_far (p := ⟨gb247,0,none⟩) (Kd.R_types HO244.out BK247.out Z154) (fun _ hk => hk.2) (.slice Ao173 t235.length co173)) (fun _ hk => hk.2) (.string t238)) (fun _ hk => hk.2) (.slice Ao177 t239.length co177)) (fun _ hk => hk.2) (.slice Ao178 t242.length co178)) (fun _ h_ => h_.1))) Z154) hk (fun _ h => h.2)) (fun _ h => h.1)) (jA (KeepBut.blk hk (g' := gb247) (o := .cells #[.slice Ao173 t235.length co173,.string t238,.slice Ao177 t239.length co177,.slice Ao178 t242.length co178] 36 (0,0)) (by refine bP ?_;refine blk_put (cs := #[.slice Ao173 t235.length co173,.string t238,.slice Ao177 t239.length co177,.slice none 0 0]) ?_ 3 _ rfl;refine bP ?_;refine blk_put (cs := #[.slice Ao173 t235.length co173,.string t238,.slice none 0 0,.slice none 0 0]) ?_ 2 _ rfl;refine bP ?_;refine blk_put (cs := #[.slice Ao173 t235.length co173,.string (⟨#[]⟩ : ByteArray),.slice none 0 0,.slice none 0 0]) ?_ 1 _ rfl;refine bP ?_;refine blk_put (cs := #[.slice none 0 0,.string (⟨#[]⟩ : ByteArray),.slice none 0 0,.slice none 0 0]) ?_ 0 _ rfl;refine bP ?_;exact BK247.out) NB247_0.out Z150) (jA (KeepBut.trans Z112 hk (.inl rfl)) (jA (hb) (Aside0.mk (hi))))))));clear BK234 HO237 HO241 HO244 BK247 HK HB HI0;obtain ⟨BK234,HO237,HO241,HO244,BK247,HK,HB,HI0⟩ := n_;(try clear hb);(try clear hb2);(try clear hk);(try clear hi)) | ((with_reducible refine gate_callee (f := 76) rfl ?_);refine goesL_ (some 13) rfl rfl Try.func76 Z102 rfl #[.pointer (some ⟨g,0,none⟩),.int .i64 14] rfl Z60 ?_;(with_reducible refine (spec_l1Below.calls g s0_0 t249 t250 14 t251 t252 t253 w0 _ ?side1 ?side2 A4.out).mono ?_);(case side1 => exact Z107);(case side2 => exact Z30);rintro e w180 ⟨rfl,hi,hb,hk⟩;refine ⟨_,rfl,?_⟩;have n_ := jA (KeepBut.blk hk (g' := gb234) (o := .cells #[.slice none 0 0,.string (⟨#[]⟩ : ByteArray),.slice none 0 0,.slice none 0 0] 36 (0,0)) Z142 NB234_0.out Z150) (jA (Kd.R_mono (Kd.R_keep (IsS100.apart (show IsS100 w0 _ g s0_0 t249 t250 from Z107) Z134 Z154) hk (fun _ h => h.2)) (fun _ h => h.1)) (jA (Kd.S_mono (Kd.S_keep (IsS100.apartS (show IsS100 w0 _ g s0_0 t249 t250 from Z107) Z135 Z154) hk (fun _ h => h.2)) (fun _ h => h.1)) (jA (Kd.R_mono (Kd.R_keep (IsS100.apart (show IsS100 w0 _ g s0_0 t249 t250 from Z107) Z133 Z154) hk (fun _ h => h.2)) (fun _ h => h.1)) (jA (KeepBut.blk hk (g' := gb247) (o := .cells #[.slice Ao173 t235.length co173,.string t238,.slice Ao177 t239.length co177,.slice Ao178 t242.length co178] 36 (0,0)) Z144 NB247_0.out Z150) (jA (KeepBut.trans Z112 hk (.inl rfl)) (jA (hb) (Aside0.mk (hi))))))));clear BK234 HO237 HO241 HO244 BK247 HK HB HI0;obtain ⟨BK234,HO237,HO241,HO244,BK247,HK,HB,HI0⟩ := n_;(try clear hb);(try clear hb2);(try clear hk);(try clear hi)))
         go_loopg [] k (fun kq w' => ∃ (x1001_1 : Int) (x1002_1 : Int) (x248002_1 : List (List Int)) (x248003_1 : List Int) (u248002 : Value) (u248003 : Value),Aside0 (spec_l9Bent.l0 kq s0_0 x1001_1 x1002_1 t235 t238 x248002_1 x248003_1 = some (r1,r2,r3,r4,r5,r6)) ∧ Aside0 (kq ≤ k) ∧ Aside0 (Kd.R Kd.string 9 w' w.heap.size (fun _ => True) (.slice Ao173 t235.length co173) t235) ∧ Aside0 (Kd.S (Kd.slice 3 (Kd.int .i64)) 34 w' w.heap.size (fun k_ => some k_ ≠ (u248003 : Value).ownBlock) u248002 x248002_1) ∧ Aside0 (Kd.R (Kd.int .i64) 3 w' w.heap.size (fun _ => True) u248003 x248003_1) ∧ Aside0 (w'.heap[gb234]? = some (.cells #[(.slice none 0 0),.string (⟨#[]⟩ : ByteArray),(.slice none 0 0),(.slice none 0 0)] 36 (0,0))) ∧ Aside0 (w'.heap[gb247]? = some (.cells #[(.slice Ao173 t235.length co173),.string t238,u248002,u248003] 36 (0,0))) ∧ Aside0 (IsS100 w0 w' g s0_0 x1001_1 x1002_1) ∧ Aside0 (KeepBut w w' g none) ∧ Aside0 (Below w0.heap.size w0 w'))
         case atStart => exact ⟨(t252),(t253),(t239),(t242),(.slice Ao177 t239.length co177),(.slice Ao178 t242.length co178),H',⟨Nat.le_refl _⟩,⟨Z134⟩,⟨Z135⟩,⟨Z133⟩,⟨Z142⟩,⟨Z144⟩,⟨Z107⟩,⟨Z112⟩,⟨Z30⟩⟩
         case round =>
          clear H'
          try clear c1
          try clear p1
          try clear q1
          try clear hx1
          try clear hf1
          try clear c2
          try clear p2
          try clear q2
          try clear hx2
          try clear c4
          try clear c7
          try clear c8
          try clear p8
          try clear q8
          try clear hx8
          try clear qi8
          try clear hf8
          try clear c9
          try clear q9
          try clear c10
          try clear p10
          try clear q10
          try clear hx10
          try clear hf10
          try clear c11
          try clear c12
          try clear c13
          try clear c14
          try clear p14
          try clear q14
          try clear hx14
          try clear hf14
          try clear c15
          try clear c16
          try clear hx16
          try clear hf16
          try clear c17
          try clear c27
          try clear p27
          try clear q27
          try clear hx27
          try clear c48
          try clear c49
          try clear c75
          try clear c76
          try clear c76b0
          try clear c76b1
          try clear c77
          try clear c78
          try clear c80
          try clear p81
          try clear q81
          try clear hx81
          try clear qi81
          try clear hf81
          try clear c86
          try clear c87
          try clear c98
          try clear q98
          try clear c102
          try clear c104
          try clear c104b0
          try clear c104b1
          try clear c106
          try clear c106b0
          try clear c107
          try clear c107b0
          try clear p108
          try clear q108
          try clear hx108
          try clear hf108
          try clear c113
          try clear c114
          try clear c125
          try clear c127
          try clear c127b0
          try clear c127b1
          try clear c128
          try clear c133
          try clear c134
          try clear c144
          try clear c146
          try clear c146b0
          try clear c146b1
          try clear c147
          try clear c147b0
          try clear c148
          try clear c148b0
          try clear c149
          try clear p149
          try clear q149
          try clear hx149
          try clear hf149
          try clear c154
          try clear c155
          try clear c164
          try clear hx164
          try clear hf164
          try clear c167
          try clear c169
          try clear c169b0
          try clear c169b1
          try clear c174
          try clear c175
          try clear hcz101_0
          try clear hcz101_1
          try clear hcz101_2
          try clear hcz101_3
          try clear hcz103_0
          try clear hcz103_1
          try clear hcz103_2
          try clear hcz103_3
          try clear hcz115_0
          try clear hcz115_1
          try clear hcz115_2
          try clear hcz115_3
          try clear hcz124_0
          try clear hcz124_1
          try clear hcz124_2
          try clear hcz124_3
          try clear hcz126_0
          try clear hcz126_1
          try clear hcz126_2
          try clear hcz126_3
          try clear hcz135_0
          try clear hcz135_1
          try clear hcz135_2
          try clear hcz135_3
          try clear hcz140_0
          try clear hcz140_1
          try clear hcz140_2
          try clear hcz140_3
          try clear hcz143_0
          try clear hcz143_1
          try clear hcz143_2
          try clear hcz143_3
          try clear hcz145_0
          try clear hcz145_1
          try clear hcz145_2
          try clear hcz145_3
          try clear hcz156_0
          try clear hcz156_1
          try clear hcz156_2
          try clear hcz156_3
          try clear hcz161_0
          try clear hcz161_1
          try clear hcz161_2
          try clear hcz161_3
          try clear hcz166_0
          try clear hcz166_1
          try clear hcz166_2
          try clear hcz166_3
          try clear hcz168_0
          try clear hcz168_1
          try clear hcz168_2
          try clear hcz168_3
          try clear hcz176_0
          try clear hcz176_1
          try clear hcz176_2
          try clear hcz176_3
          try clear hcz88_0
          try clear hcz88_1
          try clear hcz88_2
          try clear hcz88_3
          try clear hfz101_0
          try clear hfz101_1
          try clear hfz101_2
          try clear hfz101_3
          try clear hfz103_0
          try clear hfz103_1
          try clear hfz103_2
          try clear hfz103_3
          try clear hfz115_0
          try clear hfz115_1
          try clear hfz115_2
          try clear hfz115_3
          try clear hfz124_0
          try clear hfz124_1
          try clear hfz124_2
          try clear hfz124_3
          try clear hfz126_0
          try clear hfz126_1
          try clear hfz126_2
          try clear hfz126_3
          try clear hfz135_0
          try clear hfz135_1
          try clear hfz135_2
          try clear hfz135_3
          try clear hfz140_0
          try clear hfz140_1
          try clear hfz140_2
          try clear hfz140_3
          try clear hfz143_0
          try clear hfz143_1
          try clear hfz143_2
          try clear hfz143_3
          try clear hfz145_0
          try clear hfz145_1
          try clear hfz145_2
          try clear hfz145_3
          try clear hfz156_0
          try clear hfz156_1
          try clear hfz156_2
          try clear hfz156_3
          try clear hfz161_0
          try clear hfz161_1
          try clear hfz161_2
          try clear hfz161_3
          try clear hfz166_0
          try clear hfz166_1
          try clear hfz166_2
          try clear hfz166_3
          try clear hfz168_0
          try clear hfz168_1
          try clear hfz168_2
          try clear hfz168_3
          try clear hfz176_0
          try clear hfz176_1
          try clear hfz176_2
          try clear hfz176_3
          try clear hfz88_0
          try clear hfz88_1
          try clear hfz88_2
          try clear hfz88_3
          try clear hx108_0
          try clear hx149_0
          try clear hx164_0
          try clear hx272_0
          try clear hx81_0
          try clear p108
          try clear p149
          try clear p272
          try clear p81
          try clear q108
          try clear q149
          try clear q272
          try clear q81
          obtain ⟨x1001_1,x1002_1,x248002_1,x248003_1,u248002,u248003,HA,HK1,HO_248000,HO_248002,HO_248003,BK234,BK247,HI0,HK,HB⟩ := hrel
          cases gk with
          | zero => exact absurd HA.out (by simp [spec_l9Bent.l0])
          | succ k1 =>
           have H := HA.out
           clear HA
           simp only [spec_l9Bent.l0] at H
           obtain ⟨⟨t293,t294,t295⟩,A1810,H⟩ := Option.bind_eq_some_iff.mp H
           try dsimp only at H
           have A181 := Aside0.mk A1810
           clear A1810
           by_cases c182 : (x248002_1.length : Int) < (wrap64 (40 + t293))
           ·rw [if_pos c182] at H
            have c182b0 : decide ((x248002_1.length : Int) < (wrap64 (40 + t293))) = true := decide_eq_true c182
            clear c182
            obtain ⟨y296,hy296⟩ : ∃ y_ : List Int,y_ = (([] : List Int)) := ⟨_,rfl⟩
            replace H : (if 0 < (x248002_1.length : Int) then (if y296.length + (rd_L3 x248002_1 0).length < 17592186044416 then (if x248002_1.length < 5864062014805 then (if x248003_1.length < 17592186044416 then (spec_l9Bent.l0 k1 s0_0 t294 t295 t235 t238 (x248002_1 ++ [(y296 ++ (rd_L3 x248002_1 0))]) (x248003_1 ++ [0])) else (none)) else (none)) else (none)) else (none)) = some (r1,r2,r3,r4,r5,r6) := by first | (rw [hy296];with_reducible exact H) | (have H2_ := (Option.bind_some _ _).symm.trans H;rw [hy296];with_reducible exact H2_) | (have H2_ := (Option.bind_some _ _).symm.trans H;with_reducible exact H2_) | with_reducible exact H | (rw [hy296];exact H) | exact H
            have Ny296 := Aside0.mk hy296
            clear hy296
            by_cases c183 : 0 < (x248002_1.length : Int)
            ·rw [if_pos c183] at H
             have c183b0 : decide (0 < (x248002_1.length : Int)) = true := decide_eq_true c183
             have c183b1 : decide (0 < x248002_1.length) = true := decide_eq_true Z149
             clear c183
             by_cases c184 : y296.length + (rd_L3 x248002_1 0).length < 17592186044416
             ·rw [if_pos c184] at H
              have LMc184 := Aside0.mk c184
              clear c184
              obtain ⟨y300,hy300⟩ : ∃ y_ : List Int,y_ = (y296 ++ (rd_L3 x248002_1 0)) := ⟨_,rfl⟩
              replace H : (if x248002_1.length < 5864062014805 then (if x248003_1.length < 17592186044416 then (spec_l9Bent.l0 k1 s0_0 t294 t295 t235 t238 (x248002_1 ++ [y300]) (x248003_1 ++ [0])) else (none)) else (none)) = some (r1,r2,r3,r4,r5,r6) := by first | (rw [hy300];with_reducible exact H) | (have H2_ := (Option.bind_some _ _).symm.trans H;rw [hy300];with_reducible exact H2_) | (have H2_ := (Option.bind_some _ _).symm.trans H;with_reducible exact H2_) | with_reducible exact H | (rw [hy300];exact H) | exact H
              have Ny300 := Aside0.mk hy300
              clear hy300
              by_cases c185 : x248002_1.length < 5864062014805
              ·rw [if_pos c185] at H
               have LMc185 := Aside0.mk c185
               clear c185
               obtain ⟨y303,hy303⟩ : ∃ y_ : List (List Int),y_ = (x248002_1 ++ [y300]) := ⟨_,rfl⟩
               replace H : (if x248003_1.length < 17592186044416 then (spec_l9Bent.l0 k1 s0_0 t294 t295 t235 t238 y303 (x248003_1 ++ [0])) else (none)) = some (r1,r2,r3,r4,r5,r6) := by first | (rw [hy303];with_reducible exact H) | (have H2_ := (Option.bind_some _ _).symm.trans H;rw [hy303];with_reducible exact H2_) | (have H2_ := (Option.bind_some _ _).symm.trans H;with_reducible exact H2_) | with_reducible exact H | (rw [hy303];exact H) | exact H
               have Ny303 := Aside0.mk hy303
               clear hy303
               by_cases c186 : x248003_1.length < 17592186044416
               ·rw [if_pos c186] at H
                have LMc186 := Aside0.mk c186
                clear c186
                obtain ⟨y306,hy306⟩ : ∃ y_ : List Int,y_ = (x248003_1 ++ [0]) := ⟨_,rfl⟩
                replace H : (spec_l9Bent.l0 k1 s0_0 t294 t295 t235 t238 y303 y306) = some (r1,r2,r3,r4,r5,r6) := by first | (rw [hy306];with_reducible exact H) | (have H2_ := (Option.bind_some _ _).symm.trans H;rw [hy306];with_reducible exact H2_) | (have H2_ := (Option.bind_some _ _).symm.trans H;with_reducible exact H2_) | with_reducible exact H | (rw [hy306];exact H) | exact H
                have Ny306 := Aside0.mk hy306
                clear hy306
                have H' := Aside0.mk H
                clear H
                try go_wp2
                have n0_ := Aside0.mk (Kd.R_drew HO_248000.out)
                have n1_ := Aside0.mk (Kd.S_drew HO_248002.out)
                have n2_ := Aside0.mk (Kd.R_drew HO_248003.out)
                have n3_ := Aside0.mk (blk_drew BK234.out)
                have n4_ := Aside0.mk (blk_drew BK247.out)
                have n5_ := Aside0.mk (IsS100.drew HI0.out)
                have n6_ := Aside0.mk (keep_drew HK.out)
                have n7_ := Aside0.mk (below_drew1 HB.out)
                clear HO_248000
                clear HO_248002
                clear HO_248003
                clear BK234
                clear BK247
                clear HI0
                clear HK
                clear HB
                have HO_248000 := n0_
                have HO_248002 := n1_
                have HO_248003 := n2_
                have BK234 := n3_
                have BK247 := n4_
                have HI0 := n5_
                have HK := n6_
                have HB := n7_
                clear n0_ n1_ n2_ n3_ n4_ n5_ n6_ n7_
                obtain ⟨Ao188,co188,eo188⟩ := Kd.S_slice HO_248002.out
                (first | subst eo188 | (injection eo188 with f1_ f2_ f3_;have f4_ := f1_.symm;have f5_ := f3_.symm;clear f1_ f2_ f3_;subst f4_;subst f5_))
                refine start_ (n := 7) (S := fun w' => w'.cell? ⟨gb247,0,none⟩ = some (.slice Ao173 t235.length co173) ∧ w'.cell? ⟨gb247,1,none⟩ = some (.string t238) ∧ w'.cell? ⟨gb247,2,none⟩ = some (.slice Ao188 x248002_1.length co188) ∧ w'.cell? ⟨gb247,3,none⟩ = some (u248003)) (ds := []) #[false,false,false,false,false,false,false] Z102 rfl rfl ⟨(blk_cell BK247.out 0).trans rfl,(blk_cell BK247.out 1).trans rfl,(blk_cell BK247.out 2).trans rfl,(blk_cell BK247.out 3).trans rfl⟩ (fun hHeld => ?_)
                generalize wr.drew = w187 at HO_248000 HO_248002 HO_248003 BK234 BK247 HI0 HK HB hHeld ⊢
                refine pure_ (i := 0) (N := some 76) (v := ?_) (a' := ?_) #[true,false,false,false,false,false,false] rfl rfl Z102 (fun _ _ _ h => h) (Or.inl ⟨Z103,?_⟩) ?_ ?_
                rotate_left
                ·intro w'
                 go_simp
                 with_reducible rfl
                rotate_left
                ·simp only [Act.put,List.setIfInBounds_toArray,List.set_cons_zero,List.set_cons_succ,i64_w,i32_w]
                 rfl
                refine pure_ (i := 3) (N := some 79) (v := ?_) (a' := ?_) #[true,false,false,true,false,false,false] rfl rfl Z102 (fun _ _ _ h => h) (Or.inl ⟨Z103,?_⟩) ?_ ?_
                rotate_left
                ·intro w'
                 go_simp
                 with_reducible rfl
                rotate_left
                ·simp only [Act.put,List.setIfInBounds_toArray,List.set_cons_zero,List.set_cons_succ,i64_w,i32_w]
                 rfl
                refine take_ (i := 1) (N := some 77) (v := ?_) (a' := ?_) #[true,true,false,true,false,false,false] rfl rfl Z102 (fun _ _ _ h => h) (Or.inl ⟨Z103,?_⟩) hHeld ?_ ?_
                rotate_left
                ·rintro w' ⟨s0,s1,s2,s3⟩
                 go_simp
                 with_reducible rfl
                rotate_left
                ·simp only [Act.put,List.setIfInBounds_toArray,List.set_cons_zero,List.set_cons_succ,i64_w,i32_w]
                 rfl
                refine pure_ (i := 2) (N := some 78) (v := ?_) (a' := ?_) #[true,true,true,true,false,false,false] rfl rfl Z102 (fun _ _ _ h => h) (Or.inl ⟨Z103,?_⟩) ?_ ?_
                rotate_left
                ·intro w'
                 go_simp
                 with_reducible rfl
                rotate_left
                ·simp only [Act.put,List.setIfInBounds_toArray,List.set_cons_zero,List.set_cons_succ,i64_w,i32_w]
                 rfl
                refine one_ (i := 4) (N := some 80) #[true,true,true,true,true,false,false] rfl rfl Z102 Z154 (fun K hK => ?_)
                refine goes_ Try.func76 Z102 rfl #[.pointer (some ⟨g,0,none⟩),.int .i64 2] Z103 rfl rfl Z60 ?_
                with_reducible refine (spec_l1Below.calls g s0_0 x1001_1 x1002_1 2 t293 t294 t295 w0 _ ?side1 ?side2 A181.out).mono ?_
                (case side1 => exact Z107)
                (case side2 => exact Z30)
                rintro e w189 ⟨rfl,hi,hb,hk⟩
                refine ⟨_,rfl,?_⟩
                have n0_ := Aside0.mk (Kd.R_mono (Kd.R_keep (IsS100.apart (show IsS100 w0 _ g s0_0 x1001_1 x1002_1 from Z107) Z66 Z154) hk (fun _ h => h.2)) (fun _ h => h.1))
                have n1_ := Aside0.mk (Kd.S_mono (Kd.S_keep (IsS100.apartS (show IsS100 w0 _ g s0_0 x1001_1 x1002_1 from Z107) Z65 Z154) hk (fun _ h => h.2)) (fun _ h => h.1))
                have n2_ := Aside0.mk (Kd.R_mono (Kd.R_keep (IsS100.apart (show IsS100 w0 _ g s0_0 x1001_1 x1002_1 from Z107) Z64 Z154) hk (fun _ h => h.2)) (fun _ h => h.1))
                have n3_ := Aside0.mk (KeepBut.blk hk (g' := gb234) (o := .cells #[.slice none 0 0,.string (⟨#[]⟩ : ByteArray),.slice none 0 0,.slice none 0 0] 36 (0,0)) Z142 NB234_0.out Z150)
                have n4_ := Aside0.mk (KeepBut.blk hk (g' := gb247) (o := .cells #[.slice Ao173 t235.length co173,.string t238,.slice Ao188 x248002_1.length co188,u248003] 36 (0,0)) Z144 NB247_0.out Z150)
                have n5_ := Aside0.mk (KeepBut.trans Z112 hk (.inl rfl))
                have n6_ := Aside0.mk (hb)
                have n7_ := Aside0.mk (hi)
                clear HO_248000
                clear HO_248002
                clear HO_248003
                clear BK234
                clear BK247
                clear HK
                clear HB
                clear HI0
                have HO_248000 := n0_
                have HO_248002 := n1_
                have HO_248003 := n2_
                have BK234 := n3_
                have BK247 := n4_
                have HK := n5_
                have HB := n6_
                have HI0 := n7_
                clear n0_ n1_ n2_ n3_ n4_ n5_ n6_ n7_
                (try clear hb)
                (try clear hb2)
                (try clear hk)
                (try clear hi)
                refine hK.out _ _ ⟨(blk_cell BK247.out 0).trans rfl,(blk_cell BK247.out 1).trans rfl,(blk_cell BK247.out 2).trans rfl,(blk_cell BK247.out 3).trans rfl⟩ (fun hHeld => ?_)
                clear hK K
                refine norm_ (a' := ?_) ?_ ?_
                rotate_left
                ·show Act.put _ (some 80) _ = _
                 simp only [Act.put,List.setIfInBounds_toArray,List.set_cons_zero,List.set_cons_succ,i64_w,i32_w]
                 rfl
                refine pure_ (i := 5) (N := some 81) (v := ?_) (a' := ?_) #[true,true,true,true,true,true,false] rfl rfl Z102 (fun _ _ _ h => h) (Or.inl ⟨Z103,?_⟩) ?_ ?_
                rotate_left
                ·intro w'
                 go_simp
                 with_reducible rfl
                rotate_left
                ·simp only [Act.put,List.setIfInBounds_toArray,List.set_cons_zero,List.set_cons_succ,i64_w,i32_w]
                 rfl
                refine pure_ (i := 6) (N := some 82) (v := ?_) (a' := ?_) #[true,true,true,true,true,true,true] rfl rfl Z102 (fun _ _ _ h => h) (Or.inl ⟨Z103,?_⟩) ?_ ?_
                rotate_left
                ·intro w'
                 go_simp
                 with_reducible rfl
                rotate_left
                ·simp only [Act.put,List.setIfInBounds_toArray,List.set_cons_zero,List.set_cons_succ,i64_w,i32_w]
                 rfl
                refine done_ Z102 ?_
                try go_wp2
                have n0_ := Aside0.mk (Kd.R_drew HO_248000.out)
                have n1_ := Aside0.mk (Kd.S_drew HO_248002.out)
                have n2_ := Aside0.mk (Kd.R_drew HO_248003.out)
                have n3_ := Aside0.mk (blk_drew BK234.out)
                have n4_ := Aside0.mk (blk_drew BK247.out)
                have n5_ := Aside0.mk (IsS100.drew HI0.out)
                have n6_ := Aside0.mk (keep_drew HK.out)
                have n7_ := Aside0.mk (below_drew1 HB.out)
                clear HO_248000
                clear HO_248002
                clear HO_248003
                clear BK234
                clear BK247
                clear HI0
                clear HK
                clear HB
                have HO_248000 := n0_
                have HO_248002 := n1_
                have HO_248003 := n2_
                have BK234 := n3_
                have BK247 := n4_
                have HI0 := n5_
                have HK := n6_
                have HB := n7_
                clear n0_ n1_ n2_ n3_ n4_ n5_ n6_ n7_
                have p299 : 0 ≤ (0 : Int) := Z149
                have q299 : 0 < (x248002_1.length : Int) := of_decide_eq_true Z85
                obtain ⟨ad299,A299_0,c299_0,e299,hx299_0,hl299_0,hi299_0⟩ := at_L3 (Kd.S_reads' HO_248002.out).2.2 0 p299 q299
                cases e299
                obtain ⟨ce299,hce299,hMe299,hcc299⟩ := Kd.S_get HO_248002.out [] 0 p299 (by first | exact q299 | exact of_decide_eq_true Z85 | (have e_ := (Kd.S_reads' HO_248002.out).1;omega))
                obtain ⟨ve299_0,rfl,ge299_0⟩ := hMe299
                have hv299_0 := hcc299 0 _ rfl
                rw [Nat.add_zero,show ((Kd.slice 3 (Kd.int .i64))).sz = 1 from rfl,Nat.mul_one] at hv299_0
                replace hv299_0 := Option.some.inj (hv299_0.symm.trans hx299_0)
                rw [hv299_0] at ge299_0
                have HL299_0 := Aside0.mk (show Kd.R (Kd.int .i64) 3 _ _ _ _ (rd_L3 x248002_1 0) from ge299_0)
                clear hv299_0 ge299_0
                have HX299_0 := Aside0.mk hx299_0
                clear hcc299 hce299
                have qi299 : (0 < x248002_1.length) = True := eq_true Z149
                (try rw [show ((0 : Int)).toNat = 0 from rfl] at hx299_0)
                (try rw [Addr.add_zero'] at hx299_0)
                have HR299_0 := Aside0.mk hi299_0
                have HC299_0 := Aside0.mk hl299_0
                clear hi299_0 hl299_0
                replace p299 := eq_true p299
                replace q299 := eq_true q299
                refine start_ (n := 12) (S := fun w' => w'.cell? ⟨gb247,0,none⟩ = some (.slice Ao173 t235.length co173) ∧ w'.cell? ⟨gb247,1,none⟩ = some (.string t238) ∧ w'.cell? ⟨gb247,2,none⟩ = some (.slice (some ad299) x248002_1.length co188) ∧ w'.cell? ⟨gb247,3,none⟩ = some (u248003) ∧ w'.cell? ad299 = some (.slice A299_0 (rd_L3 x248002_1 0).length c299_0)) (ds := [9,11]) #[false,false,false,false,false,false,false,false,false,false,false,false] Z102 rfl rfl ⟨(blk_cell BK247.out 0).trans rfl,(blk_cell BK247.out 1).trans rfl,(blk_cell BK247.out 2).trans rfl,(blk_cell BK247.out 3).trans rfl,hx299_0⟩ (fun hHeld => ?_);refine with_tabW spec_l9Bent.tab20 spec_l9Bent.bits20 (fun HT_ HW_ => ?_)
                generalize w189.drew = w190 at HO_248000 HO_248002 HO_248003 BK234 BK247 HI0 HK HB HL299_0 HR299_0 HX299_0 hx299_0 hHeld ⊢
                refine pure_ (i := 0) (N := some 83) (v := ?_) (a' := ?_) #[true,false,false,false,false,false,false,false,false,false,false,false] rfl rfl (any_of HT_.out Z102) (fun _ _ _ h => h) (Or.inl ⟨Z103,?_⟩) ?_ ?_
                rotate_left
                ·intro w'
                 go_simp
                 with_reducible rfl
                rotate_left
                ·simp only [Act.put,List.setIfInBounds_toArray,List.set_cons_zero,List.set_cons_succ,i64_w,i32_w]
                 rfl
                refine pure_ (i := 3) (N := some 86) (v := ?_) (a' := ?_) #[true,false,false,true,false,false,false,false,false,false,false,false] rfl rfl (any_of HT_.out Z102) (fun _ _ _ h => h) (Or.inl ⟨Z103,?_⟩) ?_ ?_
                rotate_left
                ·intro w'
                 go_simp
                 with_reducible rfl
                rotate_left
                ·simp only [Act.put,List.setIfInBounds_toArray,List.set_cons_zero,List.set_cons_succ,i64_w,i32_w]
                 rfl
                refine take_ (i := 1) (N := some 84) (v := ?_) (a' := ?_) #[true,true,false,true,false,false,false,false,false,false,false,false] rfl rfl (take_ofW HT_.out HW_.out Z102) (fun _ _ _ h => h) (Or.inl ⟨Z103,?_⟩) hHeld ?_ ?_
                rotate_left
                ·rintro w' ⟨s0,s1,s2,s3,s4⟩
                 go_simp
                 with_reducible rfl
                rotate_left
                ·simp only [Act.put,List.setIfInBounds_toArray,List.set_cons_zero,List.set_cons_succ,i64_w,i32_w]
                 rfl
                refine take_ (i := 4) (N := some 87) (v := ?_) (a' := ?_) #[true,true,false,true,true,false,false,false,false,false,false,false] rfl rfl (take_ofW HT_.out HW_.out Z102) (fun _ _ _ h => h) (Or.inl ⟨Z103,?_⟩) hHeld ?_ ?_
                rotate_left
                ·rintro w' ⟨s0,s1,s2,s3,s4⟩
                 go_simp
                 with_reducible rfl
                rotate_left
                ·simp only [Act.put,List.setIfInBounds_toArray,List.set_cons_zero,List.set_cons_succ,i64_w,i32_w]
                 rfl
                refine pure_ (i := 5) (N := some 88) (v := ?_) (a' := ?_) #[true,true,false,true,true,true,false,false,false,false,false,false] rfl rfl (any_of HT_.out Z102) (fun _ _ _ h => h) (Or.inl ⟨Z103,?_⟩) ?_ ?_
                rotate_left
                ·intro w'
                 go_simp
                 with_reducible rfl
                rotate_left
                ·simp only [Act.put,List.setIfInBounds_toArray,List.set_cons_zero,List.set_cons_succ,i64_w,i32_w]
                 rfl
                refine take_ (i := 6) (N := some 89) (v := ?_) (a' := ?_) #[true,true,false,true,true,true,true,false,false,false,false,false] rfl rfl (take_ofW HT_.out HW_.out Z102) (fun _ _ _ h => h) (Or.inl ⟨Z103,?_⟩) hHeld ?_ ?_
                rotate_left
                ·rintro w' ⟨s0,s1,s2,s3,s4⟩
                 go_simp
                 with_reducible rfl
                rotate_left
                ·simp only [Act.put,List.setIfInBounds_toArray,List.set_cons_zero,List.set_cons_succ,i64_w,i32_w]
                 rfl
                refine one_ (i := 2) (N := some 85) #[true,true,true,true,true,true,true,false,false,false,false,false] rfl rfl (one_of HT_.out Z102) Z154 (fun K hK => ?_)
                refine Kd.R_lit_step (Kd.int .i64) _ 3 ?hg (N := 85) ?hd (xs := ([] : List Int)) (inner := []) (ok := fun _ => True) (okp := fun _ => True) ?hr ?hp (fun _ hk => hk) trivial (Below.refl _ _) (Nat.le_refl _) Z150 ?_;(case hd => rfl);(case hg => rfl);(case hr => exact Z87);(case hp => exact Z100)
                intro v297 w191 ho192 hb hg_ hnew_
                have HS4_ := (hb.cell (World.block_lt_of_cell? _ _ (hHeld.2.2.2.2))).trans (hHeld.2.2.2.2)
                clear hg_ hnew_
                (first | rw [← Ny296.out] at ho192 | (simp only [Int.reduceToNat] at ho192;rw [← Ny296.out] at ho192))
                have n0_ := Aside0.mk (Kd.R_below Z66 hb)
                have n1_ := Aside0.mk (Kd.S_elder' Z65 (Kd.R_base ho192) hb)
                have n2_ := Aside0.mk (Kd.R_elder' Z64 (Kd.R_base ho192) hb)
                have n3_ := Aside0.mk (Kd.R_elder' Z67 (Kd.R_base ho192) hb)
                have n4_ := Aside0.mk (Kd.R_lower (Kd.R_new' (Kd.R_new' ho192 (Kd.R_lt Z64)) (Kd.R_lt Z67)) (keep_size (w := w) (g := g) (row := none) Z112))
                have n5_ := Aside0.mk (blk_below (g := gb234) (o := .cells #[.slice none 0 0,.string (⟨#[]⟩ : ByteArray),.slice none 0 0,.slice none 0 0] 36 (0,0)) Z142 hb)
                have n6_ := Aside0.mk (blk_below (g := gb247) (o := .cells #[.slice Ao173 t235.length co173,.string t238,.slice (some ad299) x248002_1.length co188,u248003] 36 (0,0)) Z144 hb)
                have n7_ := Aside0.mk (IsS100.below Z107 hb)
                have n8_ := Aside0.mk (Kd.C_below Z37 hb)
                have n9_ := Aside0.mk (pw_cell_below hb HX299_0.out)
                have n10_ := Aside0.mk (KeepBut.trans Z112 (KeepBut.of_below hb g none) (.inl rfl))
                have n11_ := Aside0.mk (below_step Z30 hb)
                clear HO_248000
                clear HO_248002
                clear HO_248003
                clear HL299_0
                clear BK234
                clear BK247
                clear HI0
                clear HR299_0
                clear HX299_0
                clear HK
                clear HB
                have HO_248000 := n0_
                have HO_248002 := n1_
                have HO_248003 := n2_
                have HL299_0 := n3_
                have HO298 := n4_
                have BK234 := n5_
                have BK247 := n6_
                have HI0 := n7_
                have HR299_0 := n8_
                have HX299_0 := n9_
                have HK := n10_
                have HB := n11_
                clear n0_ n1_ n2_ n3_ n4_ n5_ n6_ n7_ n8_ n9_ n10_ n11_
                clear hb ho192
                refine hK.out _ _ ⟨(blk_cell BK247.out 0).trans rfl,(blk_cell BK247.out 1).trans rfl,(blk_cell BK247.out 2).trans rfl,(blk_cell BK247.out 3).trans rfl,HS4_⟩ (fun hHeld => ?_)
                clear hK K
                refine norm_ (a' := ?_) ?_ ?_
                rotate_left
                ·show Act.put _ (some 85) _ = _
                 simp only [Act.put,List.setIfInBounds_toArray,List.set_cons_zero,List.set_cons_succ,i64_w,i32_w]
                 rfl
                refine one_ (i := 7) (N := some 90) #[true,true,true,true,true,true,true,true,false,false,false,false] rfl rfl (one_of HT_.out Z102) Z154 (fun K hK => ?_)
                refine Kd.R_append_rows_step (Kd.int .i64) w.heap.size Z103 (.tmp 85) (.tmp 89) 34 3 (.int .i64 0) 8 rfl Try.underlying34 info3 rfl Z154 Z149 v297 y296 (rd_L3 x248002_1 0) _ _ _ (fun k_ => some k_ ≠ (u248003 : Value).ownBlock ∧ some k_ ≠ (.slice A299_0 (rd_L3 x248002_1 0).length c299_0 : Value).ownBlock) (fun _ => False) rfl rfl ?aO ?aR (fun _ _ h => h) (fun _ h => h.elim) ?aF (Below.refl _ _) ?aS ?aL ?_
                (case aR => repeat (first | exact Z37 | (with_reducible refine Kd.C_alloc ?_ _) | (with_reducible refine Kd.C_drewN ?_ _) | (with_reducible refine Kd.C_drew ?_)))
                (case aF => exact (fun k_ hk => ⟨Kd.fresh' (Kd.R_lt Z64) k_ hk,Kd.fresh' (Kd.R_lt Z67) k_ hk⟩))
                (case aO => exact (by (with_reducible repeat (first | apply Kd.R_alloc | apply Kd.R_drewN | apply Kd.R_drew));exact Kd.R_mono HO298.out (fun _ hk => ⟨hk.1.2,hk.2⟩)))
                (case aS => exact Z28)
                (case aL => have := LMc184.out;omega)
                intro v301 w193 ho hb hg hat
                have HS4_ := cell_grown hg (hHeld.2.2.2.2) (by first | (rw [add_block];exact (Exists.elim (Kd.S_typed HO_248002.out _ rfl) fun _ hb_ => Kd.R_ne HO298.out hb_ Z154)) | (show some (Addr.add _ _).block ≠ _;rw [add_block];exact (Exists.elim (Kd.S_typed HO_248002.out _ rfl) fun _ hb_ => Kd.R_ne HO298.out hb_ Z154)) | exact (Exists.elim (Kd.S_typed HO_248002.out _ rfl) fun _ hb_ => Kd.R_ne HO298.out hb_ Z154))
                rw [← Ny300.out] at ho
                have n0_ := Aside0.mk (Kd.R_over' Z66 (Kd.R_typed (by (with_reducible repeat (first | apply Kd.R_alloc | apply Kd.R_drewN | apply Kd.R_drew));exact HO298.out)) Z154 hg)
                have n1_ := Aside0.mk (Kd.S_after (ok := (fun k_ => some k_ ≠ (u248003 : Value).ownBlock)) Z65 hg hat)
                have n2_ := Aside0.mk (Kd.R_after (ok := (fun _ => True)) Z64 hg hat)
                have n3_ := Aside0.mk (blk_grown (g := gb234) (o := .cells #[.slice none 0 0,.string (⟨#[]⟩ : ByteArray),.slice none 0 0,.slice none 0 0] 36 (0,0)) Z142 hg (Kd.R_ne HO298.out BK234.out Z154))
                have n4_ := Aside0.mk (blk_grown (g := gb247) (o := .cells #[.slice Ao173 t235.length co173,.string t238,.slice (some ad299) x248002_1.length co188,u248003] 36 (0,0)) Z144 hg (Kd.R_ne HO298.out BK247.out Z154))
                have n5_ := Aside0.mk (IsS100.grown Z23 hg (IsS100.own_ne HI0.out HO298.out Z154))
                have n6_ := Aside0.mk (Kd.R_after (ok := (fun k_ => some k_ ≠ (.slice (some ad299) x248002_1.length co188 : Value).ownBlock ∧ some k_ ≠ (u248003 : Value).ownBlock)) (by (with_reducible repeat (first | apply Kd.R_alloc | apply Kd.R_drewN | apply Kd.R_drew));exact Kd.R_mono HL299_0.out (fun _ hk => ⟨⟨hk.1.2,hk.1.1⟩,hk.2⟩)) hg hat)
                have n7_ := Aside0.mk (below_weaken Z30 HL.out hb)
                have n8_ := Aside0.mk (KeepBut.trans Z112 (KeepBut.of_grown hg g) (Kd.R_base2 HO298.out))
                have n9_ := Aside0.mk (ho)
                clear HO_248000
                clear HO_248002
                clear HO_248003
                clear BK234
                clear BK247
                clear HI0
                clear HL299_0
                clear HB
                clear HK
                clear HO298
                have HO_248000 := n0_
                have HO_248002 := n1_
                have HO_248003 := n2_
                have BK234 := n3_
                have BK247 := n4_
                have HI0 := n5_
                have HL299_0 := n6_
                have HB := n7_
                have HK := n8_
                have HO302 := n9_
                clear n0_ n1_ n2_ n3_ n4_ n5_ n6_ n7_ n8_ n9_
                clear ho hb hg hat
                obtain ⟨Ao195,co195,eo195⟩ := Kd.R_slice HO302.out
                (first | subst eo195 | (injection eo195 with f1_ f2_ f3_;have f4_ := f1_.symm;have f5_ := f3_.symm;clear f1_ f2_ f3_;subst f4_;subst f5_))
                refine hK.out _ _ ⟨(blk_cell BK247.out 0).trans rfl,(blk_cell BK247.out 1).trans rfl,(blk_cell BK247.out 2).trans rfl,(blk_cell BK247.out 3).trans rfl,HS4_⟩ (fun hHeld => ?_)
                clear hK K
                refine norm_ (a' := ?_) ?_ ?_
                rotate_left
                ·show Act.put _ (some 90) _ = _
                 simp only [Act.put,List.setIfInBounds_toArray,List.set_cons_zero,List.set_cons_succ,i64_w,i32_w]
                 rfl
                refine one_ (i := 8) (N := some 91) #[true,true,true,true,true,true,true,true,true,false,false,false] rfl rfl (one_of HT_.out Z102) Z154 (fun K hK => ?_)
                refine value_ (w1 := ?_) (v := ?_) Z103 rfl ?_ ?_
                rotate_left 2
                ·go_simp
                 constructor
                 ·rfl
                 ·rfl
                refine hK.out _ _ ⟨(blk_cell (blk_alloc BK247.out _) 0).trans rfl,(blk_cell (blk_alloc BK247.out _) 1).trans rfl,(blk_cell (blk_alloc BK247.out _) 2).trans rfl,(blk_cell (blk_alloc BK247.out _) 3).trans rfl,(World.cell?_alloc_lt _ _ _ (World.block_lt_of_cell? _ _ (hHeld.2.2.2.2))).trans (hHeld.2.2.2.2)⟩ (fun hHeld => ?_)
                clear hK K
                refine norm_ (a' := ?_) ?_ ?_
                rotate_left
                ·show Act.put _ (some 91) _ = _
                 simp only [Act.put,List.setIfInBounds_toArray,List.set_cons_zero,List.set_cons_succ,i64_w,i32_w]
                 rfl
                refine last_ (i := 9) (N := some 92) #[true,true,true,true,true,true,true,true,true,true,false,false] rfl rfl (one_of HT_.out Z102) Z154 (fun K hK => ?_)
                refine Kd.S_append_step (Kd.slice 3 (Kd.int .i64)) w.heap.size Z103 (.tmp 84) (.tmp 91) 22 34 (.slice none 0 0) 24 rfl Try.underlying22 info34 rfl Z154 Z149 (.slice (some ad299) x248002_1.length co188) x248002_1 y300 [.slice Ao195 y300.length co195] (fun k_ => some k_ ≠ (u248003 : Value).ownBlock) (fun k_ => some k_ = (.slice Ao195 y300.length co195 : Value).ownBlock) rfl rfl ?aP (fun k_ hk_ => ((Kd.R_mono (ok' := fun k_ => ((fun k_ => some k_ ≠ (u248003 : Value).ownBlock)) k_ ∧ some k_ ≠ (.slice (some ad299) x248002_1.length co188 : Value).ownBlock) (Kd.R_apart' (HO302.out) (Kd.S_typed HO_248002.out) Z154) (fun k_ hk => ⟨hk.1.1,hk.2⟩))).1 k_ hk_.symm) ?aF ?aO (Below.refl _ _) ?aS ?aL ?_
                (case aP => exact Kd.M_row (Kd.R_mono (Kd.R_tight rfl (Kd.R_mono (ok' := fun k_ => ((fun k_ => some k_ ≠ (u248003 : Value).ownBlock)) k_ ∧ some k_ ≠ (.slice (some ad299) x248002_1.length co188 : Value).ownBlock) (Kd.R_apart' (HO302.out) (Kd.S_typed HO_248002.out) Z154) (fun k_ hk => ⟨hk.1.1,hk.2⟩))) (fun _ h_ => h_)))
                (case aF => exact (fun k_ hk => Kd.fresh' (Kd.R_lt Z64) k_ hk))
                (case aO => exact (by (with_reducible repeat (first | apply Kd.S_alloc | apply Kd.S_drewN | apply Kd.S_drew));exact Kd.S_mono HO_248002.out (fun k_ hk => ⟨hk.1,fun e_ => hk.2 e_⟩)))
                (case aS => exact Z28)
                (case aL => have := LMc185.out;omega)
                intro v304 w194 ho hb hg hat
                rw [← Ny303.out] at ho
                have n0_ := Aside0.mk (Kd.R_over' Z66 (Kd.S_typed Z65) Z154 hg)
                have n1_ := Aside0.mk (Kd.R_over' Z64 (Kd.S_typed Z65) Z154 hg)
                have n2_ := Aside0.mk (blk_grown (g := gb234) (o := .cells #[.slice none 0 0,.string (⟨#[]⟩ : ByteArray),.slice none 0 0,.slice none 0 0] 36 (0,0)) Z142 hg (Kd.S_ne HO_248002.out BK234.out Z154))
                have n3_ := Aside0.mk (blk_grown (g := gb247) (o := .cells #[.slice Ao173 t235.length co173,.string t238,.slice (some ad299) x248002_1.length co188,u248003] 36 (0,0)) Z144 hg (Kd.S_ne HO_248002.out BK247.out Z154))
                have n4_ := Aside0.mk (IsS100.grown Z23 hg (IsS100.own_neS HI0.out HO_248002.out Z154))
                have n5_ := Aside0.mk (Kd.R_after (ok := (fun k_ => some k_ ≠ (u248003 : Value).ownBlock ∧ some k_ ≠ (.slice Ao195 y300.length co195 : Value).ownBlock)) (by (with_reducible repeat (first | apply Kd.R_alloc | apply Kd.R_drewN | apply Kd.R_drew));exact Kd.R_mono HL299_0.out (fun _ hk => ⟨⟨hk.1.2,hk.2⟩,hk.1.1⟩)) hg hat)
                have n6_ := Aside0.mk (below_weaken Z30 HL.out hb)
                have n7_ := Aside0.mk (KeepBut.trans Z112 (KeepBut.of_grown hg g) (Kd.S_base2 HO_248002.out))
                have n8_ := Aside0.mk (ho)
                clear HO_248000
                clear HO_248003
                clear BK234
                clear BK247
                clear HI0
                clear HL299_0
                clear HB
                clear HK
                clear HO_248002
                clear HO302
                have HO_248000 := n0_
                have HO_248003 := n1_
                have BK234 := n2_
                have BK247 := n3_
                have HI0 := n4_
                have HL299_0 := n5_
                have HB := n6_
                have HK := n7_
                have HO305 := n8_
                clear n0_ n1_ n2_ n3_ n4_ n5_ n6_ n7_ n8_
                clear ho hb hg hat
                obtain ⟨Ao196,co196,eo196⟩ := Kd.S_slice HO305.out
                (first | subst eo196 | (injection eo196 with f1_ f2_ f3_;have f4_ := f1_.symm;have f5_ := f3_.symm;clear f1_ f2_ f3_;subst f4_;subst f5_))
                refine hK.out _ _ ?_
                clear hK K
                refine norm_ (a' := ?_) ?_ ?_
                rotate_left
                ·show Act.put _ (some 92) _ = _
                 simp only [Act.put,List.setIfInBounds_toArray,List.set_cons_zero,List.set_cons_succ,i64_w,i32_w]
                 rfl
                refine pure_ (i := 10) (N := some 93) (v := ?_) (a' := ?_) #[true,true,true,true,true,true,true,true,true,true,true,false] rfl rfl (any_of HT_.out Z102) (fun _ _ _ h => h) (Or.inl ⟨Z103,?_⟩) ?_ ?_
                rotate_left
                ·intro w'
                 go_simp
                 with_reducible rfl
                rotate_left
                ·simp only [Act.put,List.setIfInBounds_toArray,List.set_cons_zero,List.set_cons_succ,i64_w,i32_w]
                 rfl
                refine last_ (i := 11) (N := none) #[true,true,true,true,true,true,true,true,true,true,true,true] rfl rfl (one_of HT_.out Z102) Z154 (fun K hK => ?_)
                have hs197 : w194.cell? ⟨gb247,2,none⟩ = some (.slice (some ad299) x248002_1.length co188) := (blk_cell BK247.out 2).trans rfl
                have hfs197 := blk_frozen BK247.out 2
                have hns197_0 := NB234_247.out
                have hms197_0 := NB247_234.out
                refine skip_ (w1 := ?_) Z103 rfl ?_ ?_
                rotate_left
                ·go_simp
                 rfl
                refine hK.out _ _ ?_
                clear hK K
                refine done_ (done_of HT_.out Z102) ?_
                have hnb198 := NB247_234.out
                have hnc198 := NB234_247.out
                have hnb199 := NB247_0.out
                have hnc199 := NB0_247.out
                obtain ⟨hcz200_0,hcz200_1,hcz200_2,hcz200_3,hfz200_0,hfz200_1,hfz200_2,hfz200_3⟩ := cells4 BK247.out
                try go_wp2_with (first | ((with_reducible refine gate_builtin (b := .append) (xs := #[.tmp 95,.tmp 96]) rfl ?_);at_builtin;refine Kd.R_append (Kd.int .i64) w.heap.size rfl (.tmp 95) (.tmp 96) 34 3 (.int .i64 0) 8 rfl Try.underlying34 info3 rfl Z154 Z149 u248003 x248003_1 0 [.int .i64 0] (fun _ => True) (fun _ => False) rfl Z87 ?aP (fun _ hk => hk.elim) ?aF ?aO (Below.refl _ _) ?aS ?aL ?_;(case aP => exact rfl);(case aF => exact Z98);(case aO => exact (by (with_reducible repeat (first | apply Kd.R_alloc | apply Kd.R_drewN | apply Kd.R_drew));exact Kd.R_mono (Kd.R_far (p := ⟨gb247,2,none⟩) (Kd.R_types HO_248003.out BK247.out Z154) (fun _ hk => hk.2) (.slice Ao196 y303.length co196)) (fun _ hk => trivial)));(case aS => exact Z28);(case aL => have := LMc186.out;omega);intro v307 w201 ho hb hg hat;rw [← Ny306.out] at ho;have n_ := jA (Kd.R_over' (by (with_reducible repeat (first | apply Kd.R_alloc | apply Kd.R_drewN | apply Kd.R_drew));exact (Kd.R_mono (Kd.R_far (p := ⟨gb247,2,none⟩) (Kd.R_types HO_248000.out BK247.out Z154) (fun _ hk => hk.2) (.slice Ao196 y303.length co196)) (fun _ h_ => h_.1))) (Kd.R_typed (by (with_reducible repeat (first | apply Kd.R_alloc | apply Kd.R_drewN | apply Kd.R_drew));exact (Kd.R_mono (Kd.R_far (p := ⟨gb247,2,none⟩) (Kd.R_types HO_248003.out BK247.out Z154) (fun _ hk => hk.2) (.slice Ao196 y303.length co196)) (fun _ h_ => h_.1)))) Z154 hg) (jA (blk_grown (g := gb234) (o := .cells #[.slice none 0 0,.string (⟨#[]⟩ : ByteArray),.slice none 0 0,.slice none 0 0] 36 (0,0)) Z81 hg (Kd.R_ne HO_248003.out BK234.out Z154)) (jA (blk_grown (g := gb247) (o := .cells #[.slice Ao173 t235.length co173,.string t238,.slice Ao196 y303.length co196,u248003] 36 (0,0)) (by refine bP ?_;refine blk_put (cs := #[.slice Ao173 t235.length co173,.string t238,.slice (some ad299) x248002_1.length co188,u248003]) ?_ 2 _ rfl;refine bP ?_;exact BK247.out) hg (Kd.R_ne HO_248003.out BK247.out Z154)) (jA (IsS100.grown Z23 hg (IsS100.own_ne HI0.out HO_248003.out Z154)) (jA (Kd.R_after (ok := (fun k_ => some k_ ≠ (.slice Ao196 y303.length co196 : Value).ownBlock)) (by (with_reducible repeat (first | apply Kd.R_alloc | apply Kd.R_drewN | apply Kd.R_drew));exact Kd.R_mono (Kd.R_far (p := ⟨gb247,2,none⟩) (Kd.R_types HL299_0.out BK247.out Z154) (fun _ hk => hk.2) (.slice Ao196 y303.length co196)) (fun _ hk => ⟨hk.1.2,hk.1.1.1⟩)) hg hat) (jA (Kd.S_after (ok := (fun _ => True)) (by (with_reducible repeat (first | apply Kd.S_alloc | apply Kd.S_drewN | apply Kd.S_drew));exact Kd.S_mono (Kd.S_far (p := ⟨gb247,2,none⟩) (Kd.S_types HO305.out BK247.out Z154) (fun _ hk => hk.2) (.slice Ao196 y303.length co196)) (fun _ hk => ⟨trivial,hk.1⟩)) hg hat) (jA (below_weaken Z30 HL.out hb) (jA (KeepBut.trans Z112 (KeepBut.of_grown hg g) (Kd.R_base2 HO_248003.out)) (Aside0.mk (ho)))))))));clear HO_248000 BK234 BK247 HI0 HL299_0 HO305 HB HK HO_248003;obtain ⟨HO_248000,BK234,BK247,HI0,HL299_0,HO305,HB,HK,HO308⟩ := n_;clear ho hb hg hat;obtain ⟨Ao202,co202,eo202⟩ := Kd.R_slice HO308.out;subst eo202;obtain ⟨hcz203_0,hcz203_1,hcz203_2,hcz203_3,hfz203_0,hfz203_1,hfz203_2,hfz203_3⟩ := cells4 BK247.out))
                go_roundg k1
                case measure => have := HK1.out;omega
                case rel => exact ⟨(t294),(t295),(y303),(y306),(.slice Ao196 y303.length co196),(.slice Ao202 y306.length co202),H',⟨Z99⟩,⟨by (with_reducible repeat (first | apply Kd.R_alloc | apply Kd.R_drewN | apply Kd.R_drew));exact Kd.R_mono (Kd.R_far (p := ⟨gb247,3,none⟩) (Kd.R_types HO_248000.out BK247.out Z154) (fun _ hk => hk.2) (.slice Ao202 y306.length co202)) (fun _ hk => trivial)⟩,⟨by (with_reducible repeat (first | apply Kd.S_alloc | apply Kd.S_drewN | apply Kd.S_drew));exact Kd.S_mono (Kd.S_far (p := ⟨gb247,3,none⟩) (Kd.S_types HO305.out BK247.out Z154) (fun _ hk => hk.2) (.slice Ao202 y306.length co202)) (fun _ hk => hk.1.2)⟩,⟨by (with_reducible repeat (first | apply Kd.R_alloc | apply Kd.R_drewN | apply Kd.R_drew));exact Kd.R_mono (Kd.R_far (p := ⟨gb247,3,none⟩) (Kd.R_types HO308.out BK247.out Z154) (fun _ hk => hk.2) (.slice Ao202 y306.length co202)) (fun _ hk => trivial)⟩,⟨Z81⟩,⟨by refine bP ?_;refine blk_put (cs := #[.slice Ao173 t235.length co173,.string t238,.slice Ao196 y303.length co196,u248003]) ?_ 3 _ rfl;refine bP ?_;exact BK247.out⟩,⟨Z107⟩,⟨Z112⟩,⟨Z30⟩⟩
               ·rw [if_neg c186] at H
                exact absurd H Z150
              ·rw [if_neg c185] at H
               exact absurd H Z150
             ·rw [if_neg c184] at H
              exact absurd H Z150
            ·rw [if_neg c183] at H
             exact absurd H Z150
           ·rw [if_neg c182] at H
            have c182b0 : decide ((x248002_1.length : Int) < (wrap64 (40 + t293))) = false := decide_eq_false c182
            clear c182
            simp only [Option.some.injEq,Prod.mk.injEq] at H
            obtain ⟨rfl,rfl,rfl,rfl,rfl,rfl⟩ := H
            try go_wp2
            have n0_ := Aside0.mk (Kd.R_drew HO_248000.out)
            have n1_ := Aside0.mk (Kd.S_drew HO_248002.out)
            have n2_ := Aside0.mk (Kd.R_drew HO_248003.out)
            have n3_ := Aside0.mk (blk_drew BK234.out)
            have n4_ := Aside0.mk (blk_drew BK247.out)
            have n5_ := Aside0.mk (IsS100.drew HI0.out)
            have n6_ := Aside0.mk (keep_drew HK.out)
            have n7_ := Aside0.mk (below_drew1 HB.out)
            clear HO_248000
            clear HO_248002
            clear HO_248003
            clear BK234
            clear BK247
            clear HI0
            clear HK
            clear HB
            have HO_248000 := n0_
            have HO_248002 := n1_
            have HO_248003 := n2_
            have BK234 := n3_
            have BK247 := n4_
            have HI0 := n5_
            have HK := n6_
            have HB := n7_
            clear n0_ n1_ n2_ n3_ n4_ n5_ n6_ n7_
            obtain ⟨Ao205,co205,eo205⟩ := Kd.S_slice HO_248002.out
            (first | subst eo205 | (injection eo205 with f1_ f2_ f3_;have f4_ := f1_.symm;have f5_ := f3_.symm;clear f1_ f2_ f3_;subst f4_;subst f5_))
            refine start_ (n := 7) (S := fun w' => w'.cell? ⟨gb247,0,none⟩ = some (.slice Ao173 t235.length co173) ∧ w'.cell? ⟨gb247,1,none⟩ = some (.string t238) ∧ w'.cell? ⟨gb247,2,none⟩ = some (.slice Ao205 x248002_1.length co205) ∧ w'.cell? ⟨gb247,3,none⟩ = some (u248003)) (ds := []) #[false,false,false,false,false,false,false] Z102 rfl rfl ⟨(blk_cell BK247.out 0).trans rfl,(blk_cell BK247.out 1).trans rfl,(blk_cell BK247.out 2).trans rfl,(blk_cell BK247.out 3).trans rfl⟩ (fun hHeld => ?_)
            generalize wr.drew = w204 at HO_248000 HO_248002 HO_248003 BK234 BK247 HI0 HK HB hHeld ⊢
            refine pure_ (i := 0) (N := some 76) (v := ?_) (a' := ?_) #[true,false,false,false,false,false,false] rfl rfl Z102 (fun _ _ _ h => h) (Or.inl ⟨Z103,?_⟩) ?_ ?_
            rotate_left
            ·intro w'
             go_simp
             with_reducible rfl
            rotate_left
            ·simp only [Act.put,List.setIfInBounds_toArray,List.set_cons_zero,List.set_cons_succ,i64_w,i32_w]
             rfl
            refine pure_ (i := 3) (N := some 79) (v := ?_) (a' := ?_) #[true,false,false,true,false,false,false] rfl rfl Z102 (fun _ _ _ h => h) (Or.inl ⟨Z103,?_⟩) ?_ ?_
            rotate_left
            ·intro w'
             go_simp
             with_reducible rfl
            rotate_left
            ·simp only [Act.put,List.setIfInBounds_toArray,List.set_cons_zero,List.set_cons_succ,i64_w,i32_w]
             rfl
            refine take_ (i := 1) (N := some 77) (v := ?_) (a' := ?_) #[true,true,false,true,false,false,false] rfl rfl Z102 (fun _ _ _ h => h) (Or.inl ⟨Z103,?_⟩) hHeld ?_ ?_
            rotate_left
            ·rintro w' ⟨s0,s1,s2,s3⟩
             go_simp
             with_reducible rfl
            rotate_left
            ·simp only [Act.put,List.setIfInBounds_toArray,List.set_cons_zero,List.set_cons_succ,i64_w,i32_w]
             rfl
            refine pure_ (i := 2) (N := some 78) (v := ?_) (a' := ?_) #[true,true,true,true,false,false,false] rfl rfl Z102 (fun _ _ _ h => h) (Or.inl ⟨Z103,?_⟩) ?_ ?_
            rotate_left
            ·intro w'
             go_simp
             with_reducible rfl
            rotate_left
            ·simp only [Act.put,List.setIfInBounds_toArray,List.set_cons_zero,List.set_cons_succ,i64_w,i32_w]
             rfl
            refine one_ (i := 4) (N := some 80) #[true,true,true,true,true,false,false] rfl rfl Z102 Z154 (fun K hK => ?_)
            refine goes_ Try.func76 Z102 rfl #[.pointer (some ⟨g,0,none⟩),.int .i64 2] Z103 rfl rfl Z60 ?_
            with_reducible refine (spec_l1Below.calls g s0_0 x1001_1 x1002_1 2 t293 t294 t295 w0 _ ?side1 ?side2 A181.out).mono ?_
            (case side1 => exact Z107)
            (case side2 => exact Z30)
            rintro e w206 ⟨rfl,hi,hb,hk⟩
            refine ⟨_,rfl,?_⟩
            have n0_ := Aside0.mk (Kd.R_mono (Kd.R_keep (IsS100.apart (show IsS100 w0 _ g s0_0 x1001_1 x1002_1 from Z107) Z66 Z154) hk (fun _ h => h.2)) (fun _ h => h.1))
            have n1_ := Aside0.mk (Kd.S_mono (Kd.S_keep (IsS100.apartS (show IsS100 w0 _ g s0_0 x1001_1 x1002_1 from Z107) Z65 Z154) hk (fun _ h => h.2)) (fun _ h => h.1))
            have n2_ := Aside0.mk (Kd.R_mono (Kd.R_keep (IsS100.apart (show IsS100 w0 _ g s0_0 x1001_1 x1002_1 from Z107) Z64 Z154) hk (fun _ h => h.2)) (fun _ h => h.1))
            have n3_ := Aside0.mk (KeepBut.blk hk (g' := gb234) (o := .cells #[.slice none 0 0,.string (⟨#[]⟩ : ByteArray),.slice none 0 0,.slice none 0 0] 36 (0,0)) Z142 NB234_0.out Z150)
            have n4_ := Aside0.mk (KeepBut.blk hk (g' := gb247) (o := .cells #[.slice Ao173 t235.length co173,.string t238,.slice Ao205 x248002_1.length co205,u248003] 36 (0,0)) Z144 NB247_0.out Z150)
            have n5_ := Aside0.mk (KeepBut.trans Z112 hk (.inl rfl))
            have n6_ := Aside0.mk (hb)
            have n7_ := Aside0.mk (hi)
            clear HO_248000
            clear HO_248002
            clear HO_248003
            clear BK234
            clear BK247
            clear HK
            clear HB
            clear HI0
            have HO_248000 := n0_
            have HO_248002 := n1_
            have HO_248003 := n2_
            have BK234 := n3_
            have BK247 := n4_
            have HK := n5_
            have HB := n6_
            have HI0 := n7_
            clear n0_ n1_ n2_ n3_ n4_ n5_ n6_ n7_
            (try clear hb)
            (try clear hb2)
            (try clear hk)
            (try clear hi)
            refine hK.out _ _ ⟨(blk_cell BK247.out 0).trans rfl,(blk_cell BK247.out 1).trans rfl,(blk_cell BK247.out 2).trans rfl,(blk_cell BK247.out 3).trans rfl⟩ (fun hHeld => ?_)
            clear hK K
            refine norm_ (a' := ?_) ?_ ?_
            rotate_left
            ·show Act.put _ (some 80) _ = _
             simp only [Act.put,List.setIfInBounds_toArray,List.set_cons_zero,List.set_cons_succ,i64_w,i32_w]
             rfl
            refine pure_ (i := 5) (N := some 81) (v := ?_) (a' := ?_) #[true,true,true,true,true,true,false] rfl rfl Z102 (fun _ _ _ h => h) (Or.inl ⟨Z103,?_⟩) ?_ ?_
            rotate_left
            ·intro w'
             go_simp
             with_reducible rfl
            rotate_left
            ·simp only [Act.put,List.setIfInBounds_toArray,List.set_cons_zero,List.set_cons_succ,i64_w,i32_w]
             rfl
            refine pure_ (i := 6) (N := some 82) (v := ?_) (a' := ?_) #[true,true,true,true,true,true,true] rfl rfl Z102 (fun _ _ _ h => h) (Or.inl ⟨Z103,?_⟩) ?_ ?_
            rotate_left
            ·intro w'
             go_simp
             with_reducible rfl
            rotate_left
            ·simp only [Act.put,List.setIfInBounds_toArray,List.set_cons_zero,List.set_cons_succ,i64_w,i32_w]
             rfl
            refine done_ Z102 ?_
            have hnb207 := NB247_234.out
            have hnc207 := NB234_247.out
            have hnb208 := NB247_0.out
            have hnc208 := NB0_247.out
            obtain ⟨hcz209_0,hcz209_1,hcz209_2,hcz209_3,hfz209_0,hfz209_1,hfz209_2,hfz209_3⟩ := cells4 BK247.out
            have hnb210 := NB234_0.out
            have hnc210 := NB0_234.out
            obtain ⟨hcz211_0,hcz211_1,hcz211_2,hcz211_3,hfz211_0,hfz211_1,hfz211_2,hfz211_3⟩ := cells4 BK234.out
            obtain ⟨Ao212,co212,eo212⟩ := Kd.R_slice HO_248003.out
            subst eo212
            try go_wp2
            refine bodyPost_ret (results_cell_row rfl _ _ gb234 36 #[.slice Ao173 t235.length co173,.string t238,.slice Ao205 x248002_1.length co205,.slice Ao212 x248003_1.length co212] (0,0) _ rfl (by refine bP ?_;refine blk_put (cs := #[.slice Ao173 t235.length co173,.string t238,.slice Ao205 x248002_1.length co205,.slice none 0 0]) ?_ 3 _ rfl;refine bP ?_;refine blk_put (cs := #[.slice Ao173 t235.length co173,.string t238,.slice none 0 0,.slice none 0 0]) ?_ 2 _ rfl;refine bP ?_;refine blk_put (cs := #[.slice Ao173 t235.length co173,.string (⟨#[]⟩ : ByteArray),.slice none 0 0,.slice none 0 0]) ?_ 1 _ rfl;refine bP ?_;refine blk_put (cs := #[.slice none 0 0,.string (⟨#[]⟩ : ByteArray),.slice none 0 0,.slice none 0 0]) ?_ 0 _ rfl;refine bP ?_;exact BK234.out) Try.underlying36 rfl Z102) rfl ?_
            exact ⟨_,_,_,Z77,by (with_reducible repeat (first | apply Kd.R_alloc | apply Kd.R_drewN | apply Kd.R_drew));exact Kd.R_mono (Kd.R_far (p := ⟨gb234,3,none⟩) (Kd.R_far (p := ⟨gb234,2,none⟩) (Kd.R_far (p := ⟨gb234,1,none⟩) (Kd.R_far (p := ⟨gb234,0,none⟩) (Kd.R_types HO_248000.out BK234.out Z154) (fun _ hk => hk.2) (.slice Ao173 t235.length co173)) (fun _ hk => hk.2) (.string t238)) (fun _ hk => hk.2) (.slice Ao205 x248002_1.length co205)) (fun _ hk => hk.2) (.slice Ao212 x248003_1.length co212)) (fun _ hk => trivial),by (with_reducible repeat (first | apply Kd.S_alloc | apply Kd.S_drewN | apply Kd.S_drew));exact Kd.S_mono (Kd.S_far (p := ⟨gb234,3,none⟩) (Kd.S_far (p := ⟨gb234,2,none⟩) (Kd.S_far (p := ⟨gb234,1,none⟩) (Kd.S_far (p := ⟨gb234,0,none⟩) (Kd.S_types HO_248002.out BK234.out Z154) (fun _ hk => hk.2) (.slice Ao173 t235.length co173)) (fun _ hk => hk.2) (.string t238)) (fun _ hk => hk.2) (.slice Ao205 x248002_1.length co205)) (fun _ hk => hk.2) (.slice Ao212 x248003_1.length co212)) (fun _ hk => hk.1),by (with_reducible repeat (first | apply Kd.R_alloc | apply Kd.R_drewN | apply Kd.R_drew));exact Kd.R_mono (Kd.R_far (p := ⟨gb234,3,none⟩) (Kd.R_far (p := ⟨gb234,2,none⟩) (Kd.R_far (p := ⟨gb234,1,none⟩) (Kd.R_far (p := ⟨gb234,0,none⟩) (Kd.R_types HO_248003.out BK234.out Z154) (fun _ hk => hk.2) (.slice Ao173 t235.length co173)) (fun _ hk => hk.2) (.string t238)) (fun _ hk => hk.2) (.slice Ao205 x248002_1.length co205)) (fun _ hk => hk.2) (.slice Ao212 x248003_1.length co212)) (fun _ hk => trivial),Z107,Z30,Z112⟩
        ·rw [if_neg c169] at H
         have c169b0 : (t251 == 7) = false := beq_eq_false_iff_ne.mpr c169
         have c169b1 : (t251 != 7) = true := bne_iff_ne.mpr c169
         simp only [Option.some.injEq,Prod.mk.injEq] at H
         obtain ⟨rfl,rfl,rfl,rfl,rfl,rfl⟩ := H
         go_enter Try.func48,Try.ntmps48
         go_wp2_with (first | ((with_reducible refine gate_dst (N := 2) rfl ?_);refine bE 2 #[.slice none 0 0,.string (⟨#[]⟩ : ByteArray),.slice none 0 0,.slice none 0 0] 36 (h := ?_);intro gb234 hg wq1 hbox hb;have n_ := Z8;clear HI0 HK HB;obtain ⟨HI0,HK,HB,BK234,GW234,GE234,NB0_234,NB234_0⟩ := n_;clear hb hbox hg) | ((with_reducible refine gate_callee (f := 75) rfl ?_);refine goesL_ (some 6) rfl rfl Try.func75 Z102 rfl #[.pointer (some ⟨g,0,none⟩)] rfl Z60 ?_;(with_reducible refine (spec_l9Right.calls k g s0_0 s0_1 s0_2 t235 t238 t239 t242 t245 t246 w0 _ ?side1 ?side2 A2.out).mono ?_);(case side1 => exact Z114);(case side2 => exact Z116);rintro e wq2 ⟨vq3,vq4,vq5,rfl,hoq6,hoq7,hoq8,hi,hb,hk⟩;refine ⟨_,rfl,?_⟩;have n_ := Z10;clear BK234 HK HB HI0;obtain ⟨BK234,HO237,HO241,HO244,HK,HB,HI0⟩ := n_;(try clear hb);(try clear hb2);(try clear hk);(try clear hi);(try clear hoq6);(try clear hoq7);(try clear hoq8)) | ((with_reducible refine gate_dst (N := 3) rfl ?_);refine bE 3 #[.slice none 0 0,.string (⟨#[]⟩ : ByteArray),.slice none 0 0,.slice none 0 0] 36 (h := ?_);intro gb247 hg wq9 hbox hb;have n_ := Z3;clear HO237 HO241 HO244 HI0 BK234 HK HB;obtain ⟨HO237,HO241,HO244,HI0,BK234,HK,HB,BK247,GW247,GE247,NB234_247,NB247_234,NB0_247,NB247_0⟩ := n_;clear hb hbox hg;obtain ⟨Aoq10,coq10,eoq10⟩ := Kd.R_slice HO237.out;subst eoq10;have hnbq11 := NB247_234.out;have hncq11 := NB234_247.out;have hnbq12 := NB247_0.out;have hncq12 := NB0_247.out;obtain ⟨hczq13_0,hczq13_1,hczq13_2,hczq13_3,hfzq13_0,hfzq13_1,hfzq13_2,hfzq13_3⟩ := cells4 BK247.out;obtain ⟨Aoq14,coq14,eoq14⟩ := Kd.S_slice HO241.out;subst eoq14;obtain ⟨Aoq15,coq15,eoq15⟩ := Kd.R_slice HO244.out;subst eoq15) | ((with_reducible refine gate_callee (f := 76) rfl ?_);refine goesL_ (some 11) rfl rfl Try.func76 Z102 rfl #[.pointer (some ⟨g,0,none⟩),.int .i64 (t239.length : Int)] rfl Z60 ?_;(with_reducible refine (spec_l1Below.calls g s0_0 t245 t246 (t239.length : Int) t248 t249 t250 w0 _ ?side1 ?side2 A3.out).mono ?_);(case side1 => exact Z107);(case side2 => exact Z30);rintro e wq16 ⟨rfl,hi,hb,hk⟩;refine ⟨_,rfl,?_⟩;have n_ := Z1;clear BK234 HO237 HO241 HO244 BK247 HK HB HI0;obtain ⟨BK234,HO237,HO241,HO244,BK247,HK,HB,HI0⟩ := n_;(try clear hb);(try clear hb2);(try clear hk);(try clear hi)) | ((with_reducible refine gate_callee (f := 76) rfl ?_);refine goesL_ (some 13) rfl rfl Try.func76 Z102 rfl #[.pointer (some ⟨g,0,none⟩),.int .i64 14] rfl Z60 ?_;(with_reducible refine (spec_l1Below.calls g s0_0 t249 t250 14 t251 t252 t253 w0 _ ?side1 ?side2 A4.out).mono ?_);(case side1 => exact Z107);(case side2 => exact Z30);rintro e wq17 ⟨rfl,hi,hb,hk⟩;refine ⟨_,rfl,?_⟩;have n_ := Z5;clear BK234 HO237 HO241 HO244 BK247 HK HB HI0;obtain ⟨BK234,HO237,HO241,HO244,BK247,HK,HB,HI0⟩ := n_;(try clear hb);(try clear hb2);(try clear hk);(try clear hi);obtain ⟨hczq18_0,hczq18_1,hczq18_2,hczq18_3,hfzq18_0,hfzq18_1,hfzq18_2,hfzq18_3⟩ := cells4 BK247.out;have hnbq19 := NB234_0.out;have hncq19 := NB0_234.out;obtain ⟨hczq20_0,hczq20_1,hczq20_2,hczq20_3,hfzq20_0,hfzq20_1,hfzq20_2,hfzq20_3⟩ := cells4 BK234.out))
         refine bodyPost_ret (results_cell_row rfl _ _ gb234 36 #[.slice Aoq10 t235.length coq10,.string t238,.slice Aoq14 t239.length coq14,.slice Aoq15 t242.length coq15] (0,0) _ rfl (by refine bP ?_;refine blk_put (cs := #[.slice Aoq10 t235.length coq10,.string t238,.slice Aoq14 t239.length coq14,.slice none 0 0]) ?_ 3 _ rfl;refine bP ?_;refine blk_put (cs := #[.slice Aoq10 t235.length coq10,.string t238,.slice none 0 0,.slice none 0 0]) ?_ 2 _ rfl;refine bP ?_;refine blk_put (cs := #[.slice Aoq10 t235.length coq10,.string (⟨#[]⟩ : ByteArray),.slice none 0 0,.slice none 0 0]) ?_ 1 _ rfl;refine bP ?_;refine blk_put (cs := #[.slice none 0 0,.string (⟨#[]⟩ : ByteArray),.slice none 0 0,.slice none 0 0]) ?_ 0 _ rfl;refine bP ?_;exact BK234.out) Try.underlying36 rfl Z102) rfl ?_
         exact ⟨_,_,_,Z77,by (with_reducible repeat (first | apply Kd.R_alloc | apply Kd.R_drewN | apply Kd.R_drew));exact Kd.R_mono (Kd.R_far (p := ⟨gb234,3,none⟩) (Kd.R_far (p := ⟨gb234,2,none⟩) (Kd.R_far (p := ⟨gb234,1,none⟩) (Kd.R_far (p := ⟨gb234,0,none⟩) (Kd.R_types HO237.out BK234.out Z154) (fun _ hk => hk.2) (.slice Aoq10 t235.length coq10)) (fun _ hk => hk.2) (.string t238)) (fun _ hk => hk.2) (.slice Aoq14 t239.length coq14)) (fun _ hk => hk.2) (.slice Aoq15 t242.length coq15)) (fun _ hk => trivial),by (with_reducible repeat (first | apply Kd.S_alloc | apply Kd.S_drewN | apply Kd.S_drew));exact Kd.S_mono (Kd.S_far (p := ⟨gb234,3,none⟩) (Kd.S_far (p := ⟨gb234,2,none⟩) (Kd.S_far (p := ⟨gb234,1,none⟩) (Kd.S_far (p := ⟨gb234,0,none⟩) (Kd.S_types HO241.out BK234.out Z154) (fun _ hk => hk.2) (.slice Aoq10 t235.length coq10)) (fun _ hk => hk.2) (.string t238)) (fun _ hk => hk.2) (.slice Aoq14 t239.length coq14)) (fun _ hk => hk.2) (.slice Aoq15 t242.length coq15)) (fun _ hk => hk.1),by (with_reducible repeat (first | apply Kd.R_alloc | apply Kd.R_drewN | apply Kd.R_drew));exact Kd.R_mono (Kd.R_far (p := ⟨gb234,3,none⟩) (Kd.R_far (p := ⟨gb234,2,none⟩) (Kd.R_far (p := ⟨gb234,1,none⟩) (Kd.R_far (p := ⟨gb234,0,none⟩) (Kd.R_types HO244.out BK234.out Z154) (fun _ hk => hk.2) (.slice Aoq10 t235.length coq10)) (fun _ hk => hk.2) (.string t238)) (fun _ hk => hk.2) (.slice Aoq14 t239.length coq14)) (fun _ hk => hk.2) (.slice Aoq15 t242.length coq15)) (fun _ hk => trivial),Z107,Z30,Z112⟩

end Go.Proofs.Ytiacoiiapmfaeaa.QFnColumn
