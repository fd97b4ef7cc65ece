/- The machine side of FnGrid: what each Go function that it reaches comes to. Conditions: none. -/
import Derived.Test.YtlflcgdcegohjabQFnGridx0
import Derived.Test.YtlflcgdcegohjabQFnGridx1
import Derived.Test.YtlflcgdcegohjabQFnGridx2
import Derived.Test.YtlflcgdcegohjabQFnGridx3
namespace Go.Proofs.Ytlflcgdcegohjab.QFnGrid
open Go.RowKit Go.Proofs.YtlflcgdcegohjabW.PrintWords Go.Proofs.YtlflcgdcegohjabW.PrintLast Go.Proofs.YtlflcgdcegohjabW.PrintMore
attribute [local go_sem] max2_int min2_int max_two min_two max_three min_three max_four min_four   -- for this text's walks alone
set_option linter.unusedVariables false
set_option linter.unusedSimpArgs false

/-! ### spec_l9Bent: function 15 -/
mutual
def spec_l9Bent.j0 : Nat → Int → Int → List Int → Int → Int → List ByteArray → ByteArray → List (List Int) → List Int → Option (List ByteArray × ByteArray × (List (List Int)) × List Int × Int × Int)
 | 0,_,_,_,_,_,_,_,_,_ => none
 | k + 1,x4,x13,x1000,x1001,x1002,x253000,x253001,x253002,x253003 => if x13 = 0 then ((spec_l1Pick.f x1000 x1001 x1002 (([(⟨#[]⟩ : ByteArray),(⟨#[65]⟩ : ByteArray),(⟨#[49,97]⟩ : ByteArray),(⟨#[121]⟩ : ByteArray),(⟨#[97,98,99,100,101,102,103,104,105,106,107,108]⟩ : ByteArray),(⟨#[97,98,99,100,101,102,103,104,105,106,107,108,109]⟩ : ByteArray),(⟨#[98]⟩ : ByteArray)] : List ByteArray))).bind fun bt262 => (if 0 < (x253000.length : Int) then (some ((x253000.set (0 : Int).toNat bt262.1),x253001,x253002,x253003,bt262.2.1,bt262.2.2)) else (none))) else (if x13 = 1 then ((spec_l1Pick.f x1000 x1001 x1002 (([(⟨#[]⟩ : ByteArray),(⟨#[97]⟩ : ByteArray),(⟨#[121,45]⟩ : ByteArray)] : List ByteArray))).bind fun bt269 => (some (x253000,bt269.1,x253002,x253003,bt269.2.1,bt269.2.2))) else (if x13 = 2 then (if 0 ≤ x4 then (if x4 < (x253002.length : Int) then (if (rd_L3 x253002 x4).length < 17592186044416 then (some (x253000,x253001,(x253002.set (x4 : Int).toNat ((rd_L3 x253002 x4) ++ [0])),x253003,x1001,x1002)) else (none)) else (none)) else (none)) else (if x13 = 3 then (if 0 ≤ x4 then (if x4 < (x253002.length : Int) then ((spec_l1PickInt.f x1000 x1001 x1002 (([2147483647,2147483648,(-2147483648)] : List Int))).bind fun bt281 => (if 0 < ((rd_L3 x253002 x4).length : Int) then (some (x253000,x253001,(x253002.set (x4 : Int).toNat ((rd_L3 x253002 x4).set (0 : Int).toNat bt281.1)),x253003,bt281.2.1,bt281.2.2)) else (none))) else (none)) else (none)) else (if x13 = 4 then ((spec_l1Whole.f k x1000 x1001 x1002).bind fun bt287 => (if 0 ≤ x4 then (if x4 < (x253003.length : Int) then (some (x253000,x253001,x253002,(x253003.set (x4 : Int).toNat bt287.1),bt287.2.1,bt287.2.2)) else (none)) else (none))) else (if x13 = 5 then (if x253003.length < 17592186044416 then (some (x253000,x253001,x253002,(x253003 ++ [1]),x1001,x1002)) else (none)) else (if x13 = 6 then (if 0 ≤ x4 then (if x4 < (x253002.length : Int) then (some (x253000,x253001,(x253002.set (x4 : Int).toNat (([] : List Int))),x253003,x1001,x1002)) else (none)) else (none)) else (if x13 = 7 then (spec_l9Bent.l0 k x1000 x1001 x1002 x253000 x253001 x253002 x253003) else (some (x253000,x253001,x253002,x253003,x1001,x1002)))))))))
def spec_l9Bent.l0 : Nat → List Int → Int → Int → List ByteArray → ByteArray → List (List Int) → List Int → Option (List ByteArray × ByteArray × (List (List Int)) × List Int × Int × Int)
 | 0,_,_,_,_,_,_,_ => none
 | k + 1,x1000,x1001,x1002,x253000,x253001,x253002,x253003 => (spec_l1Below.f x1000 x1001 x1002 2).bind fun bt298 => (if (x253002.length : Int) < (wrap64 (40 + bt298.1)) then ((some (([] : List Int) : List Int)).bind fun y301 => (if 0 < (x253002.length : Int) then (if y301.length + (rd_L3 x253002 0).length < 17592186044416 then (if x253002.length < 5864062014805 then (if x253003.length < 17592186044416 then (spec_l9Bent.l0 k x1000 bt298.2.1 bt298.2.2 x253000 x253001 (x253002 ++ [(y301 ++ (rd_L3 x253002 0))]) (x253003 ++ [0])) else (none)) else (none)) else (none)) else (none))) else (some (x253000,x253001,x253002,x253003,bt298.2.1,bt298.2.2)))
end
def spec_l9Bent.f (k : Nat) (s0_0 : List Int) (s0_1 : Int) (s0_2 : Int) : Option (List ByteArray × ByteArray × (List (List Int)) × List Int × Int × Int) := (spec_l9Right.f k s0_0 s0_1 s0_2).bind fun bt240 => ((spec_l1Below.f s0_0 bt240.2.2.2.2.1 bt240.2.2.2.2.2 (bt240.2.2.1.length : Int)).bind fun bt253 => ((spec_l1Below.f s0_0 bt253.2.1 bt253.2.2 14).bind fun bt256 => (spec_l9Bent.j0 k bt253.1 bt256.1 s0_0 bt256.2.1 bt256.2.2 bt240.1 bt240.2.1 bt240.2.2.1 bt240.2.2.2.1)))
theorem spec_l9Bent.mono_l : ∀ k,(∀ y0 y1 y2 y3 y4 y5 y6 y7 y8,LeO (spec_l9Bent.j0 k y0 y1 y2 y3 y4 y5 y6 y7 y8) (spec_l9Bent.j0 (k + 1) y0 y1 y2 y3 y4 y5 y6 y7 y8)) ∧ (∀ y0 y1 y2 y3 y4 y5 y6,LeO (spec_l9Bent.l0 k y0 y1 y2 y3 y4 y5 y6) (spec_l9Bent.l0 (k + 1) y0 y1 y2 y3 y4 y5 y6))
 | 0 => ⟨fun _ _ _ _ _ _ _ _ _ r h => by simp [spec_l9Bent.j0] at h,fun _ _ _ _ _ _ _ r h => by simp [spec_l9Bent.l0] at h⟩
 | k + 1 => by
  obtain ⟨ih0,ih1⟩ := spec_l9Bent.mono_l k
  refine ⟨?_,?_⟩
  ·intro y0 y1 y2 y3 y4 y5 y6 y7 y8
   unfold spec_l9Bent.j0
   repeat' first
   | (with_reducible exact ih0 _ _ _ _ _ _ _ _ _)
   | (with_reducible exact ih1 _ _ _ _ _ _ _)
   | (with_reducible exact spec_l1Whole.mono _ _ _ _)
   | (with_reducible exact spec_l9Right.mono _ _ _ _)
   | (with_reducible exact LeO.refl _)
   | (with_reducible exact LeO.none _)
   | (with_reducible refine LeO.ite ?_ ?_)
   | (with_reducible refine LeO.bind ?_ (fun _ => ?_))
   | exact ih0 _ _ _ _ _ _ _ _ _
   | exact ih1 _ _ _ _ _ _ _
   | exact spec_l1Whole.mono _ _ _ _
   | exact spec_l9Right.mono _ _ _ _
   | exact LeO.none _
   | refine LeO.ite ?_ ?_
   | refine LeO.bind ?_ (fun _ => ?_)
  ·intro y0 y1 y2 y3 y4 y5 y6
   unfold spec_l9Bent.l0
   repeat' first
   | (with_reducible exact ih0 _ _ _ _ _ _ _ _ _)
   | (with_reducible exact ih1 _ _ _ _ _ _ _)
   | (with_reducible exact spec_l1Whole.mono _ _ _ _)
   | (with_reducible exact spec_l9Right.mono _ _ _ _)
   | (with_reducible exact LeO.refl _)
   | (with_reducible exact LeO.none _)
   | (with_reducible refine LeO.ite ?_ ?_)
   | (with_reducible refine LeO.bind ?_ (fun _ => ?_))
   | exact ih0 _ _ _ _ _ _ _ _ _
   | exact ih1 _ _ _ _ _ _ _
   | exact spec_l1Whole.mono _ _ _ _
   | exact spec_l9Right.mono _ _ _ _
   | exact LeO.none _
   | refine LeO.ite ?_ ?_
   | refine LeO.bind ?_ (fun _ => ?_)
theorem spec_l9Bent.mono : ∀ a0 a1 a2 k,LeO (spec_l9Bent.f k a0 a1 a2) (spec_l9Bent.f (k + 1) a0 a1 a2) := by
 intro a0 a1 a2 k
 obtain ⟨ih0,ih1⟩ := spec_l9Bent.mono_l k
 unfold spec_l9Bent.f
 repeat' first
   | (with_reducible exact ih0 _ _ _ _ _ _ _ _ _)
   | (with_reducible exact ih1 _ _ _ _ _ _ _)
   | (with_reducible exact spec_l1Whole.mono _ _ _ _)
   | (with_reducible exact spec_l9Right.mono _ _ _ _)
   | (with_reducible exact LeO.refl _)
   | (with_reducible exact LeO.none _)
   | (with_reducible refine LeO.ite ?_ ?_)
   | (with_reducible refine LeO.bind ?_ (fun _ => ?_))
   | exact ih0 _ _ _ _ _ _ _ _ _
   | exact ih1 _ _ _ _ _ _ _
   | exact spec_l1Whole.mono _ _ _ _
   | exact spec_l9Right.mono _ _ _ _
   | exact LeO.none _
   | refine LeO.ite ?_ ?_
   | refine LeO.bind ?_ (fun _ => ?_)
def spec_l9Bent.T9 : Bool × List (List Nat × List Nat) := (true,[([],[]),([0],[0]),([],[]),([],[]),([3],[3]),([],[]),([4,5],[4,5]),([6],[6]),([],[]),([7,8],[7,8]),([1,2,0,1,2,3,4,5,6,7,8,9],[1,2]),([10,9,9,0,1,2,3,4,5,6,7,8,9],[9,10])])
def spec_l9Bent.B9 : List Nat := [0,1,0,0,8,0,56,120,0,504,1023,2047]
theorem spec_l9Bent.tab9 : rtab .any (opsOf Try.f15 9) = spec_l9Bent.T9 := by kernel_rfl
theorem spec_l9Bent.bits9 : waitsOk spec_l9Bent.T9.2 spec_l9Bent.B9 = true := by kernel_rfl
def spec_l9Bent.T11 : Bool × List (List Nat × List Nat) := (true,[([],[]),([0],[0]),([],[]),([1,2],[1,2]),([3],[3]),([],[]),([],[]),([5,6],[5,6]),([4,0,1,2,3,4,5,6,7],[4]),([8,7,7,0,1,2,3,4,5,6,7],[7,8])])
def spec_l9Bent.B11 : List Nat := [0,1,0,7,15,0,0,96,255,511]
theorem spec_l9Bent.tab11 : rtab .any (opsOf Try.f15 11) = spec_l9Bent.T11 := by kernel_rfl
theorem spec_l9Bent.bits11 : waitsOk spec_l9Bent.T11.2 spec_l9Bent.B11 = true := by kernel_rfl
def spec_l9Bent.T20 : Bool × List (List Nat × List Nat) := (true,[([],[]),([0],[0]),([],[]),([],[]),([3],[3]),([4],[4]),([5],[5]),([2,6],[2,6]),([7],[7]),([1,8,7],[1,8]),([0,1,2,3,4,5,6,7,8,9],[]),([10,9,9,0,1,2,3,4,5,6,7,8,9],[9,10])])
def spec_l9Bent.B20 : List Nat := [0,1,0,0,8,24,56,124,252,511,1023,2047]
theorem spec_l9Bent.tab20 : rtab .any (opsOf Try.f15 20) = spec_l9Bent.T20 := by kernel_rfl
theorem spec_l9Bent.bits20 : waitsOk spec_l9Bent.T20.2 spec_l9Bent.B20 = true := by kernel_rfl
set_option maxHeartbeats 8000000 in
set_option maxRecDepth 100000 in
theorem spec_l9Bent.calls (k : Nat) (g : Nat) (s0_0 : List Int) (s0_1 : Int) (s0_2 : Int) (r1 : List ByteArray) (r2 : ByteArray) (r3 : List (List Int)) (r4 : List Int) (r5 : Int) (r6 : Int) (w0 w : World) (hI : IsS53 w0 w g s0_0 s0_1 s0_2) (hB : Below w0.heap.size w0 w) (h : spec_l9Bent.f k s0_0 s0_1 s0_2 = some (r1,r2,r3,r4,r5,r6)) :
  Calls Try.prog 15 #[.pointer (some ⟨g,0,none⟩)] w fun e w' => ∃ v0_ v2_ v3_ : Value,e = .returned (.agg #[v0_,.string r2,v2_,v3_]) ∧ Kd.R Kd.string 9 w' w.heap.size (fun _ => True) v0_ r1 ∧ Kd.S (Kd.slice 3 (Kd.int .i64)) 26 w' w.heap.size (fun k_ => some k_ ≠ (v3_ : Value).ownBlock) v2_ r3 ∧ Kd.R (Kd.int .i64) 3 w' w.heap.size (fun _ => True) v3_ r4 ∧ IsS53 w0 w' g s0_0 r5 r6 ∧ Below w0.heap.size w0 w' ∧ KeepBut w w' g none := by
 have hu28 := Try.underlying28
 have HI0 := Aside0.mk hI
 have HK := Aside0.mk (KeepBut.refl w g none)
 have HL := Aside0.mk hB.size
 clear hI
 have HW0 := Aside0.mk hB.size
 have HB := Aside0.mk hB
 clear hB
 have H := h
 clear h
 unfold spec_l9Bent.f at H
 obtain ⟨⟨t240,t243,t244,t247,t250,t251⟩,A20,H⟩ := Option.bind_eq_some_iff.mp H
 try dsimp only at H
 have A2 := Aside0.mk A20
 clear A20
 obtain ⟨⟨t253,t254,t255⟩,A30,H⟩ := Option.bind_eq_some_iff.mp H
 try dsimp only at H
 have A3 := Aside0.mk A30
 clear A30
 have HC4 := Aside0.mk H
 clear H
 go_enter Try.func15,Try.ntmps15
 go_upto_region 3 with (first | ((with_reducible refine gate_dst (N := 2) rfl ?_);refine bE 2 #[.slice none 0 0,.string (⟨#[]⟩ : ByteArray),.slice none 0 0,.slice none 0 0] 28 (h := ?_);intro gb239 hg w5 hbox hb;have n_ := jA (IsS53.below Z277 hb) (jA (KeepBut.trans Z288 (KeepBut.of_below hb g none) (.inl rfl)) (jA (below_step Z276 hb) (jA (hbox) (jA ((Z78 : w.heap.size ≤ gb239)) (jA ((Nat.le_trans HW0.out (Z78 : w.heap.size ≤ gb239) : w0.heap.size ≤ gb239)) (jA ((by rw [hg];exact Nat.ne_of_lt (IsS53.lt (show IsS53 w0 _ g s0_0 s0_1 s0_2 from Z277)) : g ≠ gb239)) (Aside0.mk ((by rw [hg];exact Nat.ne_of_gt (IsS53.lt (show IsS53 w0 _ g s0_0 s0_1 s0_2 from Z277)) : gb239 ≠ g)))))))));clear HI0 HK HB;obtain ⟨HI0,HK,HB,BK239,GW239,GE239,NB0_239,NB239_0⟩ := n_;clear hb hbox hg) | ((with_reducible refine gate_callee (f := 36) rfl ?_);refine goesL_ (some 6) rfl rfl Try.func36 Z256 rfl #[.pointer (some ⟨g,0,none⟩)] rfl Z159 ?_;(with_reducible refine (spec_l9Right.calls k g s0_0 s0_1 s0_2 t240 t243 t244 t247 t250 t251 w0 _ ?side1 ?side2 A2.out).mono ?_);(case side1 => exact Z85);(case side2 => exact Z87);rintro e w6 ⟨v241,v245,v248,rfl,ho0,ho1,ho2,hi,hb,hk⟩;refine ⟨_,rfl,?_⟩;have n_ := jA (KeepBut.blk hk (g' := gb239) (o := .cells #[.slice none 0 0,.string (⟨#[]⟩ : ByteArray),.slice none 0 0,.slice none 0 0] 28 (0,0)) Z242 NB239_0.out Z332) (jA (Kd.R_lower ho0 (keep_size (w := w) (g := g) (row := none) Z275)) (jA (Kd.S_lower ho1 (keep_size (w := w) (g := g) (row := none) Z275)) (jA (Kd.R_lower ho2 (keep_size (w := w) (g := g) (row := none) Z275)) (jA (KeepBut.trans Z275 hk (.inl rfl)) (jA (hb) (Aside0.mk (hi)))))));clear BK239 HK HB HI0;obtain ⟨BK239,HO242,HO246,HO249,HK,HB,HI0⟩ := n_;(try clear hb);(try clear hb2);(try clear hk);(try clear hi);(try clear ho0);(try clear ho1);(try clear ho2)) | ((with_reducible refine gate_dst (N := 3) rfl ?_);refine bE 3 #[.slice none 0 0,.string (⟨#[]⟩ : ByteArray),.slice none 0 0,.slice none 0 0] 28 (h := ?_);intro gb252 hg w7 hbox hb;have n_ := jA (Kd.R_below Z197 hb) (jA (Kd.S_below Z195 hb) (jA (Kd.R_below Z196 hb) (jA (IsS53.below Z85 hb) (jA (blk_below (g := gb239) (o := .cells #[.slice none 0 0,.string (⟨#[]⟩ : ByteArray),.slice none 0 0,.slice none 0 0] 28 (0,0)) Z242 hb) (jA (KeepBut.trans Z275 (KeepBut.of_below hb g none) (.inl rfl)) (jA (below_step Z87 hb) (jA (hbox) (jA ((Z65 : w.heap.size ≤ gb252)) (jA ((Nat.le_trans HW0.out (Z65 : w.heap.size ≤ gb252) : w0.heap.size ≤ gb252)) (jA ((by rw [hg];exact Nat.ne_of_lt (blk_lt (g := gb239) (o := .cells #[.slice none 0 0,.string (⟨#[]⟩ : ByteArray),.slice none 0 0,.slice none 0 0] 28 (0,0)) Z242) : gb239 ≠ gb252)) (jA ((by rw [hg];exact Nat.ne_of_gt (blk_lt (g := gb239) (o := .cells #[.slice none 0 0,.string (⟨#[]⟩ : ByteArray),.slice none 0 0,.slice none 0 0] 28 (0,0)) Z242) : gb252 ≠ gb239)) (jA ((by rw [hg];exact Nat.ne_of_lt (IsS53.lt (show IsS53 w0 _ g s0_0 t250 t251 from Z85)) : g ≠ gb252)) (Aside0.mk ((by rw [hg];exact Nat.ne_of_gt (IsS53.lt (show IsS53 w0 _ g s0_0 t250 t251 from Z85)) : gb252 ≠ g)))))))))))))));clear HO242 HO246 HO249 HI0 BK239 HK HB;obtain ⟨HO242,HO246,HO249,HI0,BK239,HK,HB,BK252,GW252,GE252,NB239_252,NB252_239,NB0_252,NB252_0⟩ := n_;clear hb hbox hg;obtain ⟨Ao8,co8,eo8⟩ := Kd.R_slice HO242.out;subst eo8;have hnb9 := NB252_239.out;have hnc9 := NB239_252.out;have hnb10 := NB252_0.out;have hnc10 := NB0_252.out;obtain ⟨hcz11_0,hcz11_1,hcz11_2,hcz11_3,hfz11_0,hfz11_1,hfz11_2,hfz11_3⟩ := cells4 BK252.out;obtain ⟨Ao12,co12,eo12⟩ := Kd.S_slice HO246.out;subst eo12;obtain ⟨Ao13,co13,eo13⟩ := Kd.R_slice HO249.out;subst eo13) | ((with_reducible refine gate_callee (f := 37) rfl ?_);refine goesL_ (some 11) rfl rfl Try.func37 Z256 rfl #[.pointer (some ⟨g,0,none⟩),.int .i64 (t244.length : Int)] rfl Z159 ?_;(with_reducible refine (spec_l1Below.calls g s0_0 t250 t251 (t244.length : Int) t253 t254 t255 w0 _ ?side1 ?side2 A3.out).mono ?_);(case side1 => exact Z64);(case side2 => exact Z71);rintro e w14 ⟨rfl,hi,hb,hk⟩;refine ⟨_,rfl,?_⟩;have n_ := jA (KeepBut.blk hk (g' := gb239) (o := .cells #[.slice none 0 0,.string (⟨#[]⟩ : ByteArray),.slice none 0 0,.slice none 0 0] 28 (0,0)) (by refine bP ?_;refine blk_far ?_ NB239_252.out _;refine bP ?_;refine blk_far ?_ NB239_252.out _;refine bP ?_;refine blk_far ?_ NB239_252.out _;refine bP ?_;refine blk_far ?_ NB239_252.out _;refine bP ?_;exact BK239.out) NB239_0.out Z332) (jA (Kd.R_mono (Kd.R_keep (IsS53.apart (show IsS53 w0 _ g s0_0 t250 t251 from Z64) (by (with_reducible repeat (first | apply Kd.R_alloc | apply Kd.R_drewN | apply Kd.R_drew));exact (Kd.R_mono (Kd.R_far (p := ⟨gb252,3,none⟩) (Kd.R_far (p := ⟨gb252,2,none⟩) (Kd.R_far (p := ⟨gb252,1,none⟩) (Kd.R_far (p := ⟨gb252,0,none⟩) (Kd.R_types HO242.out BK252.out Z330) (fun _ hk => hk.2) (.slice Ao8 t240.length co8)) (fun _ hk => hk.2) (.string t243)) (fun _ hk => hk.2) (.slice Ao12 t244.length co12)) (fun _ hk => hk.2) (.slice Ao13 t247.length co13)) (fun _ h_ => h_.1))) Z330) hk (fun _ h => h.2)) (fun _ h => h.1)) (jA (Kd.S_mono (Kd.S_keep (IsS53.apartS (show IsS53 w0 _ g s0_0 t250 t251 from Z64) (by (with_reducible repeat (first | apply Kd.S_alloc | apply Kd.S_drewN | apply Kd.S_drew));exact (Kd.S_mono (Kd.S_far (p := ⟨gb252,3,none⟩) (Kd.S_far (p := ⟨gb252,2,none⟩) (Kd.S_far (p := ⟨gb252,1,none⟩) (Kd.S_far (p := ⟨gb252,0,none⟩) (Kd.S_types HO246.out BK252.out Z330) (fun _ hk => hk.2) (.slice Ao8 t240.length co8)) (fun _ hk => hk.2) (.string t243)) (fun _ hk => hk.2) (.slice Ao12 t244.length co12)) (fun _ hk => hk.2) (.slice Ao13 t247.length co13)) (fun _ h_ => h_.1))) Z330) hk (fun _ h => h.2)) (fun _ h => h.1)) (jA (Kd.R_mono (Kd.R_keep (IsS53.apart (show IsS53 w0 _ g s0_0 t250 t251 from Z64) (by (with_reducible repeat (first | apply Kd.R_alloc | apply Kd.R_drewN | apply Kd.R_drew));exact (Kd.R_mono (Kd.R_far (p := ⟨gb252,3,none⟩) (Kd.R_far (p := ⟨gb252,2,none⟩) (Kd.R_far (p := ⟨gb252,1,none⟩) (Kd.R_far (p := ⟨gb252,0,none⟩) (Kd.R_types HO249.out BK252.out Z330) (fun _ hk => hk.2) (.slice Ao8 t240.length co8)) (fun _ hk => hk.2) (.string t243)) (fun _ hk => hk.2) (.slice Ao12 t244.length co12)) (fun _ hk => hk.2) (.slice Ao13 t247.length co13)) (fun _ h_ => h_.1))) Z330) hk (fun _ h => h.2)) (fun _ h => h.1)) (jA (KeepBut.blk hk (g' := gb252) (o := .cells #[.slice Ao8 t240.length co8,.string t243,.slice Ao12 t244.length co12,.slice Ao13 t247.length co13] 28 (0,0)) (by refine bP ?_;refine blk_put (cs := #[.slice Ao8 t240.length co8,.string t243,.slice Ao12 t244.length co12,.slice none 0 0]) ?_ 3 _ rfl;refine bP ?_;refine blk_put (cs := #[.slice Ao8 t240.length co8,.string t243,.slice none 0 0,.slice none 0 0]) ?_ 2 _ rfl;refine bP ?_;refine blk_put (cs := #[.slice Ao8 t240.length co8,.string (⟨#[]⟩ : ByteArray),.slice none 0 0,.slice none 0 0]) ?_ 1 _ rfl;refine bP ?_;refine blk_put (cs := #[.slice none 0 0,.string (⟨#[]⟩ : ByteArray),.slice none 0 0,.slice none 0 0]) ?_ 0 _ rfl;refine bP ?_;exact BK252.out) NB252_0.out Z332) (jA (KeepBut.trans Z263 hk (.inl rfl)) (jA (hb) (Aside0.mk (hi))))))));clear BK239 HO242 HO246 HO249 BK252 HK HB HI0;obtain ⟨BK239,HO242,HO246,HO249,BK252,HK,HB,HI0⟩ := n_;(try clear hb);(try clear hb2);(try clear hk);(try clear hi)))
 (try simp only [Act.put,List.setIfInBounds_toArray,List.set_cons_zero,List.set_cons_succ])
 go_cut [13] (fun v13 wc => ∃ (kq : Nat) (x13_3 : Int) (x1001_3 : Int) (x1002_3 : Int),v13 = .int .i64 x13_3 ∧ Aside0 (spec_l9Bent.j0 kq t253 x13_3 s0_0 x1001_3 x1002_3 t240 t243 t244 t247 = some (r1,r2,r3,r4,r5,r6)) ∧ Aside0 (kq ≤ k) ∧ Aside0 (Kd.R Kd.string 9 wc w.heap.size (fun _ => True) (.slice Ao8 t240.length co8) t240) ∧ Aside0 (Kd.S (Kd.slice 3 (Kd.int .i64)) 26 wc w.heap.size (fun k_ => some k_ ≠ ((.slice Ao13 t247.length co13) : Value).ownBlock) (.slice Ao12 t244.length co12) t244) ∧ Aside0 (Kd.R (Kd.int .i64) 3 wc w.heap.size (fun _ => True) (.slice Ao13 t247.length co13) t247) ∧ Aside0 (wc.heap[gb239]? = some (.cells #[(.slice none 0 0),.string (⟨#[]⟩ : ByteArray),(.slice none 0 0),(.slice none 0 0)] 28 (0,0))) ∧ Aside0 (wc.heap[gb252]? = some (.cells #[(.slice Ao8 t240.length co8),.string t243,(.slice Ao12 t244.length co12),(.slice Ao13 t247.length co13)] 28 (0,0))) ∧ Aside0 (IsS53 w0 wc g s0_0 x1001_3 x1002_3) ∧ Aside0 (KeepBut w wc g none) ∧ Aside0 (Below w0.heap.size w0 wc))
 case first =>
  have H := HC4.out
  clear HC4
  obtain ⟨⟨t256,t257,t258⟩,A150,H⟩ := Option.bind_eq_some_iff.mp H
  try dsimp only at H
  have A15 := Aside0.mk A150
  clear A150
  have H' := Aside0.mk H
  clear H
  go_wp2_with (first | ((with_reducible refine gate_callee (f := 37) rfl ?_);refine goesL_ (some 13) rfl rfl Try.func37 Z256 rfl #[.pointer (some ⟨g,0,none⟩),.int .i64 14] rfl Z159 ?_;(with_reducible refine (spec_l1Below.calls g s0_0 t254 t255 14 t256 t257 t258 w0 _ ?side1 ?side2 A15.out).mono ?_);(case side1 => exact Z64);(case side2 => exact Z71);rintro e w16 ⟨rfl,hi,hb,hk⟩;refine ⟨_,rfl,?_⟩;have n_ := jA (KeepBut.blk hk (g' := gb239) (o := .cells #[.slice none 0 0,.string (⟨#[]⟩ : ByteArray),.slice none 0 0,.slice none 0 0] 28 (0,0)) Z242 NB239_0.out Z332) (jA (Kd.R_mono (Kd.R_keep (IsS53.apart (show IsS53 w0 _ g s0_0 t254 t255 from Z64) Z197 Z330) hk (fun _ h => h.2)) (fun _ h => h.1)) (jA (Kd.S_mono (Kd.S_keep (IsS53.apartS (show IsS53 w0 _ g s0_0 t254 t255 from Z64) Z195 Z330) hk (fun _ h => h.2)) (fun _ h => h.1)) (jA (Kd.R_mono (Kd.R_keep (IsS53.apart (show IsS53 w0 _ g s0_0 t254 t255 from Z64) Z196 Z330) hk (fun _ h => h.2)) (fun _ h => h.1)) (jA (KeepBut.blk hk (g' := gb252) (o := .cells #[.slice Ao8 t240.length co8,.string t243,.slice Ao12 t244.length co12,.slice Ao13 t247.length co13] 28 (0,0)) Z243 NB252_0.out Z332) (jA (KeepBut.trans Z263 hk (.inl rfl)) (jA (hb) (Aside0.mk (hi))))))));clear BK239 HO242 HO246 HO249 BK252 HK HB HI0;obtain ⟨BK239,HO242,HO246,HO249,BK252,HK,HB,HI0⟩ := n_;(try clear hb);(try clear hb2);(try clear hk);(try clear hi)))
  go_meet
  case rel => exact ⟨_,(t256),(t257),(t258),Z230,H',⟨Z240⟩,⟨Z197⟩,⟨Z195⟩,⟨Z196⟩,⟨Z242⟩,⟨Z243⟩,⟨Z64⟩,⟨Z263⟩,⟨Z71⟩⟩
 case rest =>
  clear HC4
  try clear c1
  try clear p2
  try clear c3
  try clear c9
  try clear c10
  try clear c15
  obtain ⟨kq,x13_3,x1001_3,x1002_3,rfl,HA,HJ3,HO_253000,HO_253002,HO_253003,BK239,BK252,HI0,HK,HB⟩ := hcut
  cases kq with
  | zero => exact absurd HA.out (by simp [spec_l9Bent.j0])
  | succ kj3 =>
   have H := HA.out
   clear HA
   simp only [spec_l9Bent.j0] at H
   by_cases c17 : x13_3 = 0
   ·rw [if_pos c17] at H
    have c17b0 : (x13_3 == 0) = true := beq_iff_eq.mpr c17
    have c17b1 : (x13_3 != 0) = false := bne_eq_false_iff_eq.mpr c17
    clear c17
    obtain ⟨y259,hyy⟩ : ∃ y_ : List ByteArray,y_ = (([(⟨#[]⟩ : ByteArray),(⟨#[65]⟩ : ByteArray),(⟨#[49,97]⟩ : ByteArray),(⟨#[121]⟩ : ByteArray),(⟨#[97,98,99,100,101,102,103,104,105,106,107,108]⟩ : ByteArray),(⟨#[97,98,99,100,101,102,103,104,105,106,107,108,109]⟩ : ByteArray),(⟨#[98]⟩ : ByteArray)] : List ByteArray)) := ⟨_,rfl⟩
    replace H : ((spec_l1Pick.f s0_0 x1001_3 x1002_3 y259).bind fun bt262 => (if 0 < (t240.length : Int) then (some ((t240.set (0 : Int).toNat bt262.1),t243,t244,t247,bt262.2.1,bt262.2.2)) else (none))) = some (r1,r2,r3,r4,r5,r6) := zR
    have Ny259 := Aside0.mk hyy
    clear hyy
    obtain ⟨⟨t262,t263,t264⟩,A180,H⟩ := Option.bind_eq_some_iff.mp H
    try dsimp only at H
    have A18 := Aside0.mk A180
    clear A180
    obtain ⟨c19,H⟩ := ifp H
    have c19b0 : decide (0 < (t240.length : Int)) = true := decide_eq_true c19
    have c19b1 : decide (0 < t240.length) = true := decide_eq_true Z331
    clear c19
    obtain ⟨y265,hyy⟩ : ∃ y_ : List ByteArray,y_ = (t240.set (0 : Int).toNat t262) := ⟨_,rfl⟩
    replace H : (some (y265,t243,t244,t247,t263,t264)) = some (r1,r2,r3,r4,r5,r6) := zR
    have Ny265 := Aside0.mk hyy
    clear hyy
    simp only [Option.some.injEq,Prod.mk.injEq] at H
    obtain ⟨rfl,rfl,rfl,rfl,rfl,rfl⟩ := H
    try go_wp2
    have n_ := jA (Kd.R_drew HO_253000.out) (jA (Kd.S_drew HO_253002.out) (jA (Kd.R_drew HO_253003.out) (jA (blk_drew BK239.out) (jA (blk_drew BK252.out) (jA (IsS53.drew HI0.out) (jA (keep_drew HK.out) (Aside0.mk (below_drew1 HB.out))))))))
    clear HO_253000 HO_253002 HO_253003 BK239 BK252 HI0 HK HB
    obtain ⟨HO_253000,HO_253002,HO_253003,BK239,BK252,HI0,HK,HB⟩ := n_
    refine start_ (n := 7) (S := fun w' => w'.cell? ⟨gb252,0,none⟩ = some (.slice Ao8 t240.length co8) ∧ w'.cell? ⟨gb252,1,none⟩ = some (.string t243) ∧ w'.cell? ⟨gb252,2,none⟩ = some (.slice Ao12 t244.length co12) ∧ w'.cell? ⟨gb252,3,none⟩ = some (.slice Ao13 t247.length co13)) (ds := [6]) (qM 7 0) Z256 rfl (by kernel_rfl) ⟨bc BK252 0,bc BK252 1,bc BK252 2,bc BK252 3⟩ (fun hHeld => ?_)
    generalize wc.drew = w21 at HO_253000 HO_253002 HO_253003 BK239 BK252 HI0 HK HB hHeld ⊢
    refine sP 0 16 7 1 (h := ?_)
    refine sP 2 18 7 5 (h := ?_)
    refine sT4 1 17 7 7 hHeld (h := ?_)
    refine sO 3 19 7 15 (h := fun K hK => ?_)
    refine Kd.R_lit_step Kd.string _ 9 ?hg (N := 19) ?hd (xs := ([(⟨#[]⟩ : ByteArray),(⟨#[65]⟩ : ByteArray),(⟨#[49,97]⟩ : ByteArray),(⟨#[121]⟩ : ByteArray),(⟨#[97,98,99,100,101,102,103,104,105,106,107,108]⟩ : ByteArray),(⟨#[97,98,99,100,101,102,103,104,105,106,107,108,109]⟩ : ByteArray),(⟨#[98]⟩ : ByteArray)] : List ByteArray)) (inner := [.string (⟨#[]⟩ : ByteArray),.string (⟨#[65]⟩ : ByteArray),.string (⟨#[49,97]⟩ : ByteArray),.string (⟨#[121]⟩ : ByteArray),.string (⟨#[97,98,99,100,101,102,103,104,105,106,107,108]⟩ : ByteArray),.string (⟨#[97,98,99,100,101,102,103,104,105,106,107,108,109]⟩ : ByteArray),.string (⟨#[98]⟩ : ByteArray)]) (ok := fun _ => True) (okp := fun _ => True) ?hr ?hp (fun _ hk => hk) trivial (Below.refl _ _) (Nat.le_refl _) Z332 ?_;(case hd => rfl);(case hg => rfl);(case hr => exact Z231);(case hp => exact (Reps.one (show Kd.M Kd.string _ _ _ (⟨#[]⟩ : ByteArray) [.string (⟨#[]⟩ : ByteArray)] from rfl) (Reps.one (show Kd.M Kd.string _ _ _ (⟨#[65]⟩ : ByteArray) [.string (⟨#[65]⟩ : ByteArray)] from rfl) (Reps.one (show Kd.M Kd.string _ _ _ (⟨#[49,97]⟩ : ByteArray) [.string (⟨#[49,97]⟩ : ByteArray)] from rfl) (Reps.one (show Kd.M Kd.string _ _ _ (⟨#[121]⟩ : ByteArray) [.string (⟨#[121]⟩ : ByteArray)] from rfl) (Reps.one (show Kd.M Kd.string _ _ _ (⟨#[97,98,99,100,101,102,103,104,105,106,107,108]⟩ : ByteArray) [.string (⟨#[97,98,99,100,101,102,103,104,105,106,107,108]⟩ : ByteArray)] from rfl) (Reps.one (show Kd.M Kd.string _ _ _ (⟨#[97,98,99,100,101,102,103,104,105,106,107,108,109]⟩ : ByteArray) [.string (⟨#[97,98,99,100,101,102,103,104,105,106,107,108,109]⟩ : ByteArray)] from rfl) (Reps.one (show Kd.M Kd.string _ _ _ (⟨#[98]⟩ : ByteArray) [.string (⟨#[98]⟩ : ByteArray)] from rfl) (Reps.none _ _)))))))))
    intro v260 w22 ho23 hb hg_ hnew_
    clear hg_ hnew_
    (first | rw [← Ny259.out] at ho23 | (simp only [Int.reduceToNat] at ho23;rw [← Ny259.out] at ho23))
    have n_ := jA (Kd.R_elder' Z173 (Kd.R_base ho23) hb) (jA (Kd.S_below Z175 hb) (jA (Kd.R_below Z172 hb) (jA (Kd.R_lower (Kd.R_new' ho23 (Kd.R_lt Z173)) (keep_size (w := w) (g := g) (row := none) Z263)) (jA (blk_below (g := gb239) (o := .cells #[.slice none 0 0,.string (⟨#[]⟩ : ByteArray),.slice none 0 0,.slice none 0 0] 28 (0,0)) Z242 hb) (jA (blk_below (g := gb252) (o := .cells #[.slice Ao8 t240.length co8,.string t243,.slice Ao12 t244.length co12,.slice Ao13 t247.length co13] 28 (0,0)) Z243 hb) (jA (IsS53.below Z64 hb) (jA (KeepBut.trans Z263 (KeepBut.of_below hb g none) (.inl rfl)) (Aside0.mk (below_step Z71 hb)))))))))
    clear HO_253000 HO_253002 HO_253003 BK239 BK252 HI0 HK HB
    obtain ⟨HO_253000,HO_253002,HO_253003,HO261,BK239,BK252,HI0,HK,HB⟩ := n_
    clear hb ho23
    obtain ⟨Ao24,co24,eo24⟩ := Kd.R_slice HO261.out
    (first | subst eo24 | (injection eo24 with f1_ f2_ f3_;have f4_ := f1_.symm;have f5_ := f3_.symm;clear f1_ f2_ f3_;subst f4_;subst f5_))
    refine hK.out _ _ ⟨bc BK252 0,bc BK252 1,bc BK252 2,bc BK252 3⟩ (fun hHeld => ?_)
    clear hK K
    refine rN (h := ?_)
    refine sO 4 20 7 31 (h := fun K hK => ?_)
    refine goes_ Try.func38 Z256 rfl #[.pointer (some ⟨g,0,none⟩),.slice Ao24 y259.length co24] Z257 rfl rfl Z159 ?_
    with_reducible refine (spec_l1Pick.calls g s0_0 x1001_3 x1002_3 _ _ y259 t262 t263 t264 w0 _ ?side1 ?side2 ?side3 ?side4 ?side5 A18.out).mono ?_
    (case side1 => exact Z64)
    (case side2 => exact Z71)
    (case side3 => repeat (first | exact (Kd.R_reads' HO261.out).2.2 | (with_reducible refine Kd.C_alloc ?_ _) | (with_reducible refine Kd.C_drewN ?_ _) | (with_reducible refine Kd.C_drew ?_)))
    (case side4 => exact (Kd.R_reads' HO261.out).2.1)
    (case side5 => exact far_slice (IsS53.own_ne HI0.out HO261.out Z330))
    rintro e w25 ⟨rfl,hi,hb,hk⟩
    refine ⟨_,rfl,?_⟩
    have n_ := jA (Kd.R_mono (Kd.R_keep (IsS53.apart (show IsS53 w0 _ g s0_0 x1001_3 x1002_3 from Z64) Z173 Z330) hk (fun _ h => h.2)) (fun _ h => h.1)) (jA (Kd.S_mono (Kd.S_keep (IsS53.apartS (show IsS53 w0 _ g s0_0 x1001_3 x1002_3 from Z64) Z175 Z330) hk (fun _ h => h.2)) (fun _ h => h.1)) (jA (Kd.R_mono (Kd.R_keep (IsS53.apart (show IsS53 w0 _ g s0_0 x1001_3 x1002_3 from Z64) Z172 Z330) hk (fun _ h => h.2)) (fun _ h => h.1)) (jA (KeepBut.blk hk (g' := gb239) (o := .cells #[.slice none 0 0,.string (⟨#[]⟩ : ByteArray),.slice none 0 0,.slice none 0 0] 28 (0,0)) Z242 NB239_0.out Z332) (jA (KeepBut.blk hk (g' := gb252) (o := .cells #[.slice Ao8 t240.length co8,.string t243,.slice Ao12 t244.length co12,.slice Ao13 t247.length co13] 28 (0,0)) Z243 NB252_0.out Z332) (jA (Kd.R_mono (Kd.R_keep (IsS53.apart (show IsS53 w0 _ g s0_0 x1001_3 x1002_3 from Z64) (by (with_reducible repeat (first | apply Kd.R_alloc | apply Kd.R_drewN | apply Kd.R_drew));exact HO261.out) Z330) hk (fun _ h => h.2)) (fun _ h => h.1)) (jA (KeepBut.trans Z263 hk (.inl rfl)) (jA (hb) (Aside0.mk (hi)))))))))
    clear HO_253000 HO_253002 HO_253003 BK239 BK252 HO261 HK HB HI0
    obtain ⟨HO_253000,HO_253002,HO_253003,BK239,BK252,HO261,HK,HB,HI0⟩ := n_
    (try clear hb)
    (try clear hb2)
    (try clear hk)
    (try clear hi)
    have p20 : 0 ≤ (0 : Int) := Z331
    have q20 : (0 : Int) < ((t240.length : Int) : Int) := of_decide_eq_true Z229
    have qi20 : (0 < t240.length) = True := eq_true Z331
    obtain ⟨go20,co20,eo20,gb20,gl20,cl20,HG20⟩ := Kd.R_form HO_253000.out Z331
    (first | cases eo20 | (injection eo20 with ea_ en_ ec_;(first | subst ea_ | (injection ea_ with ea_;subst ea_));subst ec_;clear en_))
    have GB20 := Aside0.mk gb20
    have GG20 := Aside0.mk HG20
    clear gb20 gl20 HG20
    obtain ⟨hx20_0,hf20_0⟩ := Kd.R_celln (⟨#[]⟩ : ByteArray) HO_253000.out (0 : Int) p20 q20
    (try rw [show ((0 : Int)).toNat = 0 from rfl] at hx20_0)
    (try simp only [Nat.reduceMul,Nat.zero_mul,Nat.zero_add,Nat.reduceAdd] at hx20_0)
    (try rw [show ((0 : Int)).toNat = 0 from rfl] at hf20_0)
    (try simp only [Nat.reduceMul,Nat.zero_mul,Nat.zero_add,Nat.reduceAdd] at hf20_0)
    replace p20 := eq_true p20
    replace q20 := eq_true q20
    have HN0_go20 := Aside0.mk (show g ≠ go20 from by have h_ := IsS53.own_ne HI0.out HO_253000.out Z330;intro e_;exact h_ Z255)
    have HP26 := Kd.R_putn HO_253000.out (0 : Int) t262
    rw [← Ny265.out] at HP26
    have HQ26 := Aside0.mk HP26
    clear HP26
    refine hK.out _ _ ⟨bc BK252 0,bc BK252 1,bc BK252 2,bc BK252 3⟩ (fun hHeld => ?_)
    clear hK K
    refine rN (h := ?_)
    refine sP 5 21 7 63 (h := ?_)
    refine last_ (i := 6) (N := none) (qM 7 127) rfl rfl Z256 Z330 (fun K hK => ?_)
    refine skip_ (w1 := ?_) Z257 rfl ?_ ?_
    rotate_left
    ·go_simp
     rfl
    refine hK.out _ _ ?_
    clear hK K
    refine done_ Z256 ?_
    have n0_ : Aside0 (Kd.R Kd.string 9 (w25.setCell ⟨go20,0,none⟩ (.string t262)) w.heap.size (fun k_ => some k_ ≠ (.slice Ao24 y259.length co24 : Value).ownBlock) (.slice (some ⟨go20,0,none⟩) t240.length co8) y265) := ⟨by (with_reducible repeat (first | apply Kd.R_alloc | apply Kd.R_drewN | apply Kd.R_drew));exact Kd.R_mono HQ26.out (fun _ hk => hk.2)⟩
    have n1_ : Aside0 (Kd.S (Kd.slice 3 (Kd.int .i64)) 26 (w25.setCell ⟨go20,0,none⟩ (.string t262)) w.heap.size (fun k_ => some k_ ≠ (.slice Ao13 t247.length co13 : Value).ownBlock) (.slice Ao12 t244.length co12) t244) := ⟨by (with_reducible repeat (first | apply Kd.S_alloc | apply Kd.S_drewN | apply Kd.S_drew));exact Kd.S_mono (Kd.S_far (p := ⟨go20,0,none⟩) (Kd.S_types HO_253002.out GG20.out Z330) (fun _ hk => hk.2) (.string t262)) (fun _ hk => hk.1)⟩
    have n2_ : Aside0 (Kd.R (Kd.int .i64) 3 (w25.setCell ⟨go20,0,none⟩ (.string t262)) w.heap.size (fun _ => True) (.slice Ao13 t247.length co13) t247) := ⟨by (with_reducible repeat (first | apply Kd.R_alloc | apply Kd.R_drewN | apply Kd.R_drew));exact Kd.R_mono (Kd.R_far (p := ⟨go20,0,none⟩) (Kd.R_types HO_253003.out GG20.out Z330) (fun _ hk => hk.2) (.string t262)) (fun _ hk => trivial)⟩
    have n3_ : Aside0 (Kd.R Kd.string 9 (w25.setCell ⟨go20,0,none⟩ (.string t262)) w.heap.size (fun k_ => some k_ ≠ (.slice (some ⟨go20,0,none⟩) t240.length co8 : Value).ownBlock) (.slice Ao24 y259.length co24) y259) := ⟨by (with_reducible repeat (first | apply Kd.R_alloc | apply Kd.R_drewN | apply Kd.R_drew));exact Kd.R_mono (Kd.R_far (p := ⟨go20,0,none⟩) (Kd.R_mono HO261.out (fun k_ hk => (⟨hk,fun e_ => hk.2 Z255⟩ : _ ∧ k_ ≠ go20))) (fun _ hk => hk.2) (.string t262)) (fun _ hk => hk.1.2)⟩
    have n4_ : Aside0 ((w25.setCell ⟨go20,0,none⟩ (.string t262)).heap[gb239]? = some (.cells #[.slice none 0 0,.string (⟨#[]⟩ : ByteArray),.slice none 0 0,.slice none 0 0] 28 (0,0))) := ⟨by refine bP ?_;refine blk_far ?_ (by have h_ := Kd.R_ne HO_253000.out BK239.out Z330;intro e_;exact h_ Z255) _;refine bP ?_;exact BK239.out⟩
    have n5_ : Aside0 ((w25.setCell ⟨go20,0,none⟩ (.string t262)).heap[gb252]? = some (.cells #[.slice (some ⟨go20,0,none⟩) t240.length co8,.string t243,.slice Ao12 t244.length co12,.slice Ao13 t247.length co13] 28 (0,0))) := ⟨by refine bP ?_;refine blk_far ?_ (by have h_ := Kd.R_ne HO_253000.out BK252.out Z330;intro e_;exact h_ Z255) _;refine bP ?_;exact BK252.out⟩
    have n6_ : Aside0 (IsS53 w0 (w25.setCell ⟨go20,0,none⟩ (.string t262)) g s0_0 t263 t264) := ⟨by repeat (first | (with_reducible first | exact HI0.out | apply IsS53.alloc | apply IsS53.drewN | apply IsS53.drew | apply IsS53.set_1 | apply IsS53.set_2 | refine IsS53.far ?_ HN0_go20.out _ | refine IsS53.far ?_ NB0_239.out _ | refine IsS53.far ?_ NB0_252.out _) | exact HI0.out)⟩
    have n7_ : Aside0 (KeepBut w (w25.setCell ⟨go20,0,none⟩ (.string t262)) g none) := ⟨by repeat (first | (with_reducible first | exact HK.out | apply KeepBut.set_ | apply keep_drewN | apply keep_drew | apply keep_alloc | refine keep_far ?_ GB20.out _ | refine keep_far ?_ GW239.out _ | refine keep_far ?_ GW252.out _) | exact HK.out)⟩
    have n8_ : Aside0 (Below w0.heap.size w0 (w25.setCell ⟨go20,0,none⟩ (.string t262))) := ⟨by repeat (first | (with_reducible first | exact HB.out | apply below_alloc | apply pw_below_drewN | apply below_drew1 | refine below_set ?_ (Nat.le_trans HL.out GB20.out) | refine below_set ?_ (IsS53.ge HI0.out) | refine below_set ?_ GE239.out | refine below_set ?_ GE252.out) | exact HB.out)⟩
    (try clear HO_253000)
    (try clear HO_253002)
    (try clear HO_253003)
    (try clear HO261)
    (try clear BK239)
    (try clear BK252)
    (try clear HI0)
    (try clear HK)
    (try clear HB)
    generalize (w25.setCell ⟨go20,0,none⟩ (.string t262)) = w27 at n0_ n1_ n2_ n3_ n4_ n5_ n6_ n7_ n8_ ⊢
    have HO_253000 := n0_
    have HO_253002 := n1_
    have HO_253003 := n2_
    have HO261 := n3_
    have BK239 := n4_
    have BK252 := n5_
    have HI0 := n6_
    have HK := n7_
    have HB := n8_
    clear n0_ n1_ n2_ n3_ n4_ n5_ n6_ n7_ n8_
    have hnb28 := NB252_239.out
    have hnc28 := NB239_252.out
    have hnb29 := NB252_0.out
    have hnc29 := NB0_252.out
    obtain ⟨hcz30_0,hcz30_1,hcz30_2,hcz30_3,hfz30_0,hfz30_1,hfz30_2,hfz30_3⟩ := cells4 BK252.out
    have hnb31 := NB239_0.out
    have hnc31 := NB0_239.out
    obtain ⟨hcz32_0,hcz32_1,hcz32_2,hcz32_3,hfz32_0,hfz32_1,hfz32_2,hfz32_3⟩ := cells4 BK239.out
    try go_wp2
    refine bodyPost_ret (results_cell_row rfl _ _ gb239 28 #[.slice (some ⟨go20,0,none⟩) t240.length co8,.string t243,.slice Ao12 t244.length co12,.slice Ao13 t247.length co13] (0,0) _ rfl (by refine bP ?_;refine blk_put (cs := #[.slice (some ⟨go20,0,none⟩) t240.length co8,.string t243,.slice Ao12 t244.length co12,.slice none 0 0]) ?_ 3 _ rfl;refine bP ?_;refine blk_put (cs := #[.slice (some ⟨go20,0,none⟩) t240.length co8,.string t243,.slice none 0 0,.slice none 0 0]) ?_ 2 _ rfl;refine bP ?_;refine blk_put (cs := #[.slice (some ⟨go20,0,none⟩) t240.length co8,.string (⟨#[]⟩ : ByteArray),.slice none 0 0,.slice none 0 0]) ?_ 1 _ rfl;refine bP ?_;refine blk_put (cs := #[.slice none 0 0,.string (⟨#[]⟩ : ByteArray),.slice none 0 0,.slice none 0 0]) ?_ 0 _ rfl;refine bP ?_;exact BK239.out) Try.underlying28 rfl Z256) rfl ?_
    exact ⟨_,_,_,Z212,by (with_reducible repeat (first | apply Kd.R_alloc | apply Kd.R_drewN | apply Kd.R_drew));exact Kd.R_mono (Kd.R_far (p := ⟨gb239,3,none⟩) (Kd.R_far (p := ⟨gb239,2,none⟩) (Kd.R_far (p := ⟨gb239,1,none⟩) (Kd.R_far (p := ⟨gb239,0,none⟩) (Kd.R_types HO_253000.out BK239.out Z330) (fun _ hk => hk.2) (.slice (some ⟨go20,0,none⟩) t240.length co8)) (fun _ hk => hk.2) (.string t243)) (fun _ hk => hk.2) (.slice Ao12 t244.length co12)) (fun _ hk => hk.2) (.slice Ao13 t247.length co13)) (fun _ hk => trivial),by (with_reducible repeat (first | apply Kd.S_alloc | apply Kd.S_drewN | apply Kd.S_drew));exact Kd.S_mono (Kd.S_far (p := ⟨gb239,3,none⟩) (Kd.S_far (p := ⟨gb239,2,none⟩) (Kd.S_far (p := ⟨gb239,1,none⟩) (Kd.S_far (p := ⟨gb239,0,none⟩) (Kd.S_types HO_253002.out BK239.out Z330) (fun _ hk => hk.2) (.slice (some ⟨go20,0,none⟩) t240.length co8)) (fun _ hk => hk.2) (.string t243)) (fun _ hk => hk.2) (.slice Ao12 t244.length co12)) (fun _ hk => hk.2) (.slice Ao13 t247.length co13)) (fun _ hk => hk.1),by (with_reducible repeat (first | apply Kd.R_alloc | apply Kd.R_drewN | apply Kd.R_drew));exact Kd.R_mono (Kd.R_far (p := ⟨gb239,3,none⟩) (Kd.R_far (p := ⟨gb239,2,none⟩) (Kd.R_far (p := ⟨gb239,1,none⟩) (Kd.R_far (p := ⟨gb239,0,none⟩) (Kd.R_types HO_253003.out BK239.out Z330) (fun _ hk => hk.2) (.slice (some ⟨go20,0,none⟩) t240.length co8)) (fun _ hk => hk.2) (.string t243)) (fun _ hk => hk.2) (.slice Ao12 t244.length co12)) (fun _ hk => hk.2) (.slice Ao13 t247.length co13)) (fun _ hk => trivial),Z64,Z71,Z263⟩
   rw [if_neg c17] at H
   have c17b0 : (x13_3 == 0) = false := beq_eq_false_iff_ne.mpr c17
   have c17b1 : (x13_3 != 0) = true := bne_iff_ne.mpr c17
   by_cases c33 : x13_3 = 1
   ·rw [if_pos c33] at H
    have c33b0 : (x13_3 == 1) = true := beq_iff_eq.mpr c33
    have c33b1 : (x13_3 != 1) = false := bne_eq_false_iff_eq.mpr c33
    clear c33
    obtain ⟨y266,hyy⟩ : ∃ y_ : List ByteArray,y_ = (([(⟨#[]⟩ : ByteArray),(⟨#[97]⟩ : ByteArray),(⟨#[121,45]⟩ : ByteArray)] : List ByteArray)) := ⟨_,rfl⟩
    replace H : ((spec_l1Pick.f s0_0 x1001_3 x1002_3 y266).bind fun bt269 => (some (t240,bt269.1,t244,t247,bt269.2.1,bt269.2.2))) = some (r1,r2,r3,r4,r5,r6) := zR
    have Ny266 := Aside0.mk hyy
    clear hyy
    obtain ⟨⟨t269,t270,t271⟩,A340,H⟩ := Option.bind_eq_some_iff.mp H
    try dsimp only at H
    have A34 := Aside0.mk A340
    clear A340
    simp only [Option.some.injEq,Prod.mk.injEq] at H
    obtain ⟨rfl,rfl,rfl,rfl,rfl,rfl⟩ := H
    go_wp2_with (first | ((with_reducible refine gate_dst (N := 25) rfl ?_);refine Kd.R_lit Kd.string _ 9 ?hg (N := 25) ?hd (xs := ([(⟨#[]⟩ : ByteArray),(⟨#[97]⟩ : ByteArray),(⟨#[121,45]⟩ : ByteArray)] : List ByteArray)) (inner := [.string (⟨#[]⟩ : ByteArray),.string (⟨#[97]⟩ : ByteArray),.string (⟨#[121,45]⟩ : ByteArray)]) (ok := fun _ => True) (okp := fun _ => True) ?hr ?hp (fun _ hk => hk) trivial (Below.refl _ _) (Nat.le_refl _) Z332 ?_;(case hd => rfl);(case hg => rfl);(case hr => exact Z231);(case hp => exact (Reps.one (show Kd.M Kd.string _ _ _ (⟨#[]⟩ : ByteArray) [.string (⟨#[]⟩ : ByteArray)] from rfl) (Reps.one (show Kd.M Kd.string _ _ _ (⟨#[97]⟩ : ByteArray) [.string (⟨#[97]⟩ : ByteArray)] from rfl) (Reps.one (show Kd.M Kd.string _ _ _ (⟨#[121,45]⟩ : ByteArray) [.string (⟨#[121,45]⟩ : ByteArray)] from rfl) (Reps.none _ _)))));intro vq1 wq2 hoq3 hb hg_ hnew_;clear hg_ hnew_;(first | rw [← Ny266.out] at hoq3 | (simp only [Int.reduceToNat] at hoq3;rw [← Ny266.out] at hoq3));have n_ := jA (Kd.R_elder' Z173 (Kd.R_base hoq3) hb) (jA (Kd.S_below Z175 hb) (jA (Kd.R_below Z172 hb) (jA (Kd.R_lower (Kd.R_new' hoq3 (Kd.R_lt Z173)) (keep_size (w := w) (g := g) (row := none) Z263)) (jA (blk_below (g := gb239) (o := .cells #[.slice none 0 0,.string (⟨#[]⟩ : ByteArray),.slice none 0 0,.slice none 0 0] 28 (0,0)) Z242 hb) (jA (blk_below (g := gb252) (o := .cells #[.slice Ao8 t240.length co8,.string t243,.slice Ao12 t244.length co12,.slice Ao13 t247.length co13] 28 (0,0)) Z243 hb) (jA (IsS53.below Z64 hb) (jA (KeepBut.trans Z263 (KeepBut.of_below hb g none) (.inl rfl)) (Aside0.mk (below_step Z71 hb)))))))));clear HO_253000 HO_253002 HO_253003 BK239 BK252 HI0 HK HB;obtain ⟨HO_253000,HO_253002,HO_253003,HO268,BK239,BK252,HI0,HK,HB⟩ := n_;clear hb hoq3;obtain ⟨Aoq4,coq4,eoq4⟩ := Kd.R_slice HO268.out;subst eoq4) | ((with_reducible refine gate_callee (f := 38) rfl ?_);refine goesL_ (some 26) rfl rfl Try.func38 Z256 rfl #[.pointer (some ⟨g,0,none⟩),.slice Aoq4 y266.length coq4] rfl Z159 ?_;(with_reducible refine (spec_l1Pick.calls g s0_0 x1001_3 x1002_3 _ _ y266 t269 t270 t271 w0 _ ?side1 ?side2 ?side3 ?side4 ?side5 A34.out).mono ?_);(case side1 => exact Z64);(case side2 => exact Z71);(case side3 => repeat (first | exact (Kd.R_reads' HO268.out).2.2 | (with_reducible refine Kd.C_alloc ?_ _) | (with_reducible refine Kd.C_drewN ?_ _) | (with_reducible refine Kd.C_drew ?_)));(case side4 => exact (Kd.R_reads' HO268.out).2.1);(case side5 => exact far_slice (IsS53.own_ne HI0.out HO268.out Z330));rintro e wq5 ⟨rfl,hi,hb,hk⟩;refine ⟨_,rfl,?_⟩;have n_ := jA (Kd.R_mono (Kd.R_keep (IsS53.apart (show IsS53 w0 _ g s0_0 x1001_3 x1002_3 from Z64) Z173 Z330) hk (fun _ h => h.2)) (fun _ h => h.1)) (jA (Kd.S_mono (Kd.S_keep (IsS53.apartS (show IsS53 w0 _ g s0_0 x1001_3 x1002_3 from Z64) Z175 Z330) hk (fun _ h => h.2)) (fun _ h => h.1)) (jA (Kd.R_mono (Kd.R_keep (IsS53.apart (show IsS53 w0 _ g s0_0 x1001_3 x1002_3 from Z64) Z172 Z330) hk (fun _ h => h.2)) (fun _ h => h.1)) (jA (KeepBut.blk hk (g' := gb239) (o := .cells #[.slice none 0 0,.string (⟨#[]⟩ : ByteArray),.slice none 0 0,.slice none 0 0] 28 (0,0)) Z242 NB239_0.out Z332) (jA (KeepBut.blk hk (g' := gb252) (o := .cells #[.slice Ao8 t240.length co8,.string t243,.slice Ao12 t244.length co12,.slice Ao13 t247.length co13] 28 (0,0)) Z243 NB252_0.out Z332) (jA (Kd.R_mono (Kd.R_keep (IsS53.apart (show IsS53 w0 _ g s0_0 x1001_3 x1002_3 from Z64) (by (with_reducible repeat (first | apply Kd.R_alloc | apply Kd.R_drewN | apply Kd.R_drew));exact HO268.out) Z330) hk (fun _ h => h.2)) (fun _ h => h.1)) (jA (KeepBut.trans Z263 hk (.inl rfl)) (jA (hb) (Aside0.mk (hi)))))))));clear HO_253000 HO_253002 HO_253003 BK239 BK252 HO268 HK HB HI0;obtain ⟨HO_253000,HO_253002,HO_253003,BK239,BK252,HO268,HK,HB,HI0⟩ := n_;(try clear hb);(try clear hb2);(try clear hk);(try clear hi);have hnbq6 := NB252_239.out;have hncq6 := NB239_252.out;have hnbq7 := NB252_0.out;have hncq7 := NB0_252.out;obtain ⟨hczq8_0,hczq8_1,hczq8_2,hczq8_3,hfzq8_0,hfzq8_1,hfzq8_2,hfzq8_3⟩ := cells4 BK252.out;have hnbq9 := NB239_0.out;have hncq9 := NB0_239.out;obtain ⟨hczq10_0,hczq10_1,hczq10_2,hczq10_3,hfzq10_0,hfzq10_1,hfzq10_2,hfzq10_3⟩ := cells4 BK239.out))
    refine bodyPost_ret (results_cell_row rfl _ _ gb239 28 #[.slice Ao8 t240.length co8,.string t269,.slice Ao12 t244.length co12,.slice Ao13 t247.length co13] (0,0) _ rfl (by refine bP ?_;refine blk_put (cs := #[.slice Ao8 t240.length co8,.string t269,.slice Ao12 t244.length co12,.slice none 0 0]) ?_ 3 _ rfl;refine bP ?_;refine blk_put (cs := #[.slice Ao8 t240.length co8,.string t269,.slice none 0 0,.slice none 0 0]) ?_ 2 _ rfl;refine bP ?_;refine blk_put (cs := #[.slice Ao8 t240.length co8,.string (⟨#[]⟩ : ByteArray),.slice none 0 0,.slice none 0 0]) ?_ 1 _ rfl;refine bP ?_;refine blk_put (cs := #[.slice none 0 0,.string (⟨#[]⟩ : ByteArray),.slice none 0 0,.slice none 0 0]) ?_ 0 _ rfl;refine bP ?_;refine blk_far ?_ NB239_252.out _;refine bP ?_;exact BK239.out) Try.underlying28 rfl Z256) rfl ?_
    exact ⟨_,_,_,Z212,by (with_reducible repeat (first | apply Kd.R_alloc | apply Kd.R_drewN | apply Kd.R_drew));exact Kd.R_mono (Kd.R_far (p := ⟨gb239,3,none⟩) (Kd.R_far (p := ⟨gb239,2,none⟩) (Kd.R_far (p := ⟨gb239,1,none⟩) (Kd.R_far (p := ⟨gb239,0,none⟩) (Kd.R_far (p := ⟨gb252,1,none⟩) (Kd.R_types (Kd.R_types HO_253000.out BK252.out Z330) BK239.out Z330) (fun _ hk => hk.1.2) (.string t269)) (fun _ hk => hk.2) (.slice Ao8 t240.length co8)) (fun _ hk => hk.2) (.string t269)) (fun _ hk => hk.2) (.slice Ao12 t244.length co12)) (fun _ hk => hk.2) (.slice Ao13 t247.length co13)) (fun _ hk => trivial),by (with_reducible repeat (first | apply Kd.S_alloc | apply Kd.S_drewN | apply Kd.S_drew));exact Kd.S_mono (Kd.S_far (p := ⟨gb239,3,none⟩) (Kd.S_far (p := ⟨gb239,2,none⟩) (Kd.S_far (p := ⟨gb239,1,none⟩) (Kd.S_far (p := ⟨gb239,0,none⟩) (Kd.S_far (p := ⟨gb252,1,none⟩) (Kd.S_types (Kd.S_types HO_253002.out BK252.out Z330) BK239.out Z330) (fun _ hk => hk.1.2) (.string t269)) (fun _ hk => hk.2) (.slice Ao8 t240.length co8)) (fun _ hk => hk.2) (.string t269)) (fun _ hk => hk.2) (.slice Ao12 t244.length co12)) (fun _ hk => hk.2) (.slice Ao13 t247.length co13)) (fun _ hk => hk.1.1),by (with_reducible repeat (first | apply Kd.R_alloc | apply Kd.R_drewN | apply Kd.R_drew));exact Kd.R_mono (Kd.R_far (p := ⟨gb239,3,none⟩) (Kd.R_far (p := ⟨gb239,2,none⟩) (Kd.R_far (p := ⟨gb239,1,none⟩) (Kd.R_far (p := ⟨gb239,0,none⟩) (Kd.R_far (p := ⟨gb252,1,none⟩) (Kd.R_types (Kd.R_types HO_253003.out BK252.out Z330) BK239.out Z330) (fun _ hk => hk.1.2) (.string t269)) (fun _ hk => hk.2) (.slice Ao8 t240.length co8)) (fun _ hk => hk.2) (.string t269)) (fun _ hk => hk.2) (.slice Ao12 t244.length co12)) (fun _ hk => hk.2) (.slice Ao13 t247.length co13)) (fun _ hk => trivial),Z64,Z71,Z263⟩
   rw [if_neg c33] at H
   have c33b0 : (x13_3 == 1) = false := beq_eq_false_iff_ne.mpr c33
   have c33b1 : (x13_3 != 1) = true := bne_iff_ne.mpr c33
   by_cases c44 : x13_3 = 2
   ·rw [if_pos c44] at H
    have c44b0 : (x13_3 == 2) = true := beq_iff_eq.mpr c44
    have c44b1 : (x13_3 != 2) = false := bne_eq_false_iff_eq.mpr c44
    clear c44
    obtain ⟨c45,H⟩ := ifp H
    have c45b0 : decide (0 ≤ t253) = true := decide_eq_true c45
    clear c45
    obtain ⟨c46,H⟩ := ifp H
    have c46b0 : decide (t253 < (t244.length : Int)) = true := decide_eq_true c46
    clear c46
    obtain ⟨c47,H⟩ := ifp H
    have LMc47 := Aside0.mk c47
    clear c47
    obtain ⟨y273,hyy⟩ : ∃ y_ : List Int,y_ = ((rd_L3 t244 t253) ++ [0]) := ⟨_,rfl⟩
    replace H : (some (t240,t243,(t244.set (t253 : Int).toNat y273),t247,x1001_3,x1002_3)) = some (r1,r2,r3,r4,r5,r6) := zR
    have Ny273 := Aside0.mk hyy
    clear hyy
    obtain ⟨y276,hyy⟩ : ∃ y_ : List (List Int),y_ = (t244.set (t253 : Int).toNat y273) := ⟨_,rfl⟩
    replace H : (some (t240,t243,y276,t247,x1001_3,x1002_3)) = some (r1,r2,r3,r4,r5,r6) := zR
    have Ny276 := Aside0.mk hyy
    clear hyy
    simp only [Option.some.injEq,Prod.mk.injEq] at H
    obtain ⟨rfl,rfl,rfl,rfl,rfl,rfl⟩ := H
    try go_wp2
    have n_ := jA (Kd.R_drew HO_253000.out) (jA (Kd.S_drew HO_253002.out) (jA (Kd.R_drew HO_253003.out) (jA (blk_drew BK239.out) (jA (blk_drew BK252.out) (jA (IsS53.drew HI0.out) (jA (keep_drew HK.out) (Aside0.mk (below_drew1 HB.out))))))))
    clear HO_253000 HO_253002 HO_253003 BK239 BK252 HI0 HK HB
    obtain ⟨HO_253000,HO_253002,HO_253003,BK239,BK252,HI0,HK,HB⟩ := n_
    have p272 : 0 ≤ (t253 : Int) := of_decide_eq_true Z229
    have q272 : t253 < (t244.length : Int) := of_decide_eq_true Z229
    obtain ⟨ad272,A272_0,c272_0,e272,hx272_0,hl272_0,hi272_0⟩ := at_L3 (Kd.S_reads' HO_253002.out).2.2 t253 p272 q272
    cases e272
    obtain ⟨ce272,hce272,hMe272,hcc272⟩ := Kd.S_get HO_253002.out [] t253 p272 (by first | exact q272 | exact of_decide_eq_true Z229 | (have e_ := (Kd.S_reads' HO_253002.out).1;omega))
    obtain ⟨ve272_0,rfl,ge272_0⟩ := hMe272
    have hv272_0 := hcc272 0 _ rfl
    rw [Nat.add_zero,show ((Kd.slice 3 (Kd.int .i64))).sz = 1 from rfl,Nat.mul_one] at hv272_0
    replace hv272_0 := Option.some.inj (hv272_0.symm.trans hx272_0)
    rw [hv272_0] at ge272_0
    have HL272_0 := Aside0.mk (show Kd.R (Kd.int .i64) 3 _ _ _ _ (rd_L3 t244 t253) from ge272_0)
    clear hv272_0 ge272_0
    have HX272_0 := Aside0.mk hx272_0
    clear hcc272 hce272
    have HR272_0 := Aside0.mk hi272_0
    have HC272_0 := Aside0.mk hl272_0
    clear hi272_0 hl272_0
    replace p272 := eq_true p272
    replace q272 := eq_true q272
    obtain ⟨go50,co50,eo50,gb50,gl50,cl50,HG50⟩ := Kd.S_form HO_253002.out (by have h_ : (t253 : Int) < ((t244.length : Int) : Int) := of_decide_eq_true Z229;have h2_ : 0 ≤ (t253 : Int) := (of_decide_eq_true Z229);omega)
    (first | cases eo50 | (injection eo50 with ea_ en_ ec_;(first | subst ea_ | (injection ea_ with ea_;subst ea_));subst ec_;clear en_))
    have GB50 := Aside0.mk gb50
    have GG50 := Aside0.mk HG50
    clear gb50 gl50 HG50
    (first | simp only [add_plain] at hx272_0 | skip)
    obtain ⟨oki50,ce50,hcl50,hM50,hcc50,_,_,hH50⟩ := Kd.S_elem HO_253002.out [] (t253 : Int) (of_decide_eq_true Z229) (by have h_ : (t253 : Int) < ((t244.length : Int) : Int) := of_decide_eq_true Z229;first | exact h_ | (have e_ := (Kd.S_reads' HO_253002.out).1;omega) | simpa using h_)
    obtain ⟨ve50_0,rfl,ge50_0⟩ := hM50
    have hv50 := hcc50 0 _ rfl
    have hX50 := HX272_0.out
    (try simp only [add_plain] at hX50)
    (try simp only [Nat.add_zero] at hv50)
    (try rw [show ((Kd.slice 3 (Kd.int .i64))).sz = 1 from rfl,Nat.mul_one] at hv50)
    replace hv50 := Option.some.inj (hv50.symm.trans hX50)
    subst hv50
    clear hX50 hcc50 hcl50
    have UU50 := Aside0.mk (show Kd.R (Kd.int .i64) 3 _ w.heap.size oki50 (.slice A272_0 (rd_L3 t244 t253).length c272_0) (rd_L3 t244 t253) from ge50_0)
    have HH50 := Aside0.mk hH50
    have HN50 := Aside0.mk (Kd.S_reads' HO_253002.out).1
    clear hH50 ge50_0
    refine start_ (n := 12) (S := fun w' => w'.cell? ⟨gb252,0,none⟩ = some (.slice Ao8 t240.length co8) ∧ w'.cell? ⟨gb252,1,none⟩ = some (.string t243) ∧ w'.cell? ⟨gb252,2,none⟩ = some (.slice (some ⟨go50,0,none⟩) t244.length co12) ∧ w'.cell? ⟨gb252,3,none⟩ = some (.slice Ao13 t247.length co13) ∧ w'.cell? ⟨go50,(t253).toNat,none⟩ = some (.slice A272_0 (rd_L3 t244 t253).length c272_0)) (ds := [11]) (qM 12 0) Z256 rfl (by kernel_rfl) ⟨bc BK252 0,bc BK252 1,bc BK252 2,bc BK252 3,hx272_0⟩ (fun hHeld => ?_);refine with_tabW spec_l9Bent.tab9 spec_l9Bent.bits9 (fun HT_ HW_ => ?_)
    generalize wc.drew = w49 at HO_253000 HO_253002 HO_253003 BK239 BK252 HI0 HK HB GG50 HH50 HL272_0 HR272_0 HX272_0 UU50 hx272_0 hHeld ⊢
    refine rP 0 30 12 1 HT_ (h := ?_)
    refine rP 2 32 12 5 HT_ (h := ?_)
    refine rP 3 33 12 13 HT_ (h := ?_)
    refine rP 5 35 12 45 HT_ (h := ?_)
    refine rT5 1 31 12 47 HT_ HW_ hHeld (h := ?_)
    refine rT5 4 34 12 63 HT_ HW_ hHeld (h := ?_)
    refine rP 6 36 12 127 HT_ (h := ?_)
    refine rT5 7 37 12 255 HT_ HW_ hHeld (h := ?_)
    refine rO 8 38 12 511 HT_ (h := fun K hK => ?_)
    refine value_ (w1 := ?_) (v := ?_) Z257 rfl ?_ ?_
    rotate_left 2
    ·go_simp
     constructor
     ·rfl
     rfl
    refine hK.out _ _ ⟨(blk_cell (blk_alloc BK252.out _) 0).trans rfl,(blk_cell (blk_alloc BK252.out _) 1).trans rfl,(blk_cell (blk_alloc BK252.out _) 2).trans rfl,(blk_cell (blk_alloc BK252.out _) 3).trans rfl,(World.cell?_alloc_lt _ _ _ (World.block_lt_of_cell? _ _ (hHeld.2.2.2.2))).trans (hHeld.2.2.2.2)⟩ (fun hHeld => ?_)
    clear hK K
    refine rN (h := ?_)
    refine rO 9 39 12 1023 HT_ (h := fun K hK => ?_)
    refine Kd.R_append_step (Kd.int .i64) w.heap.size Z257 (.tmp 37) (.tmp 38) 26 3 (.int .i64 0) 8 rfl Try.underlying26 info3 rfl Z330 Z331 (.slice A272_0 (rd_L3 t244 t253).length c272_0) (rd_L3 t244 t253) 0 [.int .i64 0] (fun k_ => oki50 k_ ∨ ((fun k_ => some k_ ≠ (.slice Ao13 t247.length co13 : Value).ownBlock)) k_ ∧ w49.heap.size ≤ k_) (fun _ => False) rfl rfl ?aP (fun _ hk => hk.elim) ?aF ?aO (Below.refl _ _) ?aS ?aL ?_
    (case aP => exact rfl)
    (case aF => exact (fun k_ hk => .inr ⟨Kd.fresh' (Kd.R_lt Z172) k_ hk,hk⟩))
    (case aO => exact (by (with_reducible repeat (first | apply Kd.R_alloc | apply Kd.R_drewN | apply Kd.R_drew));exact Kd.R_mono UU50.out (fun _ hk => .inl hk)))
    (case aS => exact Z53)
    (case aL => have := LMc47.out;omega)
    intro v274 w51 ho hb hg hat
    (first | have HS4_ := cell_grown hg (hHeld.2.2.2.2) Z69 | have HS4_ := cell_grown hg (cell_unalloc (hHeld.2.2.2.2) (by first | (rw [add_block];exact Kd.S_lt HO_253002.out _ rfl) | (show (Addr.add _ _).block < _;rw [add_block];exact Kd.S_lt HO_253002.out _ rfl) | exact Kd.S_lt HO_253002.out _ rfl)) Z69)
    rw [← Ny273.out] at ho
    have n_ := jA (Kd.R_over' (v := (.slice A272_0 (rd_L3 t244 t253).length c272_0)) Z173 (Kd.R_typed HL272_0.out) Z330 hg) (jA (Kd.R_grown2 Z172 rfl hg (fun k_ e_ => (HL272_0.out.1 k_ e_).1)) (jA (blk_grown (g := gb239) (o := .cells #[.slice none 0 0,.string (⟨#[]⟩ : ByteArray),.slice none 0 0,.slice none 0 0] 28 (0,0)) Z242 hg (Kd.R_ne HL272_0.out BK239.out Z330)) (jA (blk_grown (g := gb252) (o := .cells #[.slice Ao8 t240.length co8,.string t243,.slice (some ⟨go50,0,none⟩) t244.length co12,.slice Ao13 t247.length co13] 28 (0,0)) Z243 hg (Kd.R_ne HL272_0.out BK252.out Z330)) (jA (IsS53.grown Z45 hg (IsS53.own_ne HI0.out HL272_0.out Z330)) (jA (below_weaken Z71 HL.out hb) (jA (KeepBut.trans Z263 (KeepBut.of_grown hg g) (Kd.R_base2 HL272_0.out)) (jA (Kd.H_grown (Kd.H_widen (by repeat (first | exact HH50.out | refine Kd.H_alloc ?_ _ | refine Kd.H_drewN ?_ _ | refine Kd.H_drew ?_))) hg (fun k_ e_ => .inl (UU50.out.1 k_ e_))) (Aside0.mk (ho)))))))))
    clear HO_253000 HO_253003 BK239 BK252 HI0 HB HK HH50 HO_253002 UU50 HL272_0
    obtain ⟨HO_253000,HO_253003,BK239,BK252,HI0,HB,HK,HH50,HO275⟩ := n_
    clear ho hb hg hat
    have p48 : 0 ≤ (t253 : Int) := of_decide_eq_true Z229
    have q48 : (t253 : Int) < ((t244.length : Int) : Int) := of_decide_eq_true Z229
    replace p48 := eq_true p48
    replace q48 := eq_true q48
    obtain ⟨Ao54,co54,eo54⟩ := Kd.R_slice HO275.out
    (first | subst eo54 | (injection eo54 with f1_ f2_ f3_;have f4_ := f1_.symm;have f5_ := f3_.symm;clear f1_ f2_ f3_;subst f4_;subst f5_))
    obtain ⟨_,_,hraw52,_,_,hcc52,_⟩ := Kd.H_raw HH50.out (of_decide_eq_true Z229) (by have h_ : (t253 : Int) < ((t244.length : Int) : Int) := of_decide_eq_true Z229;first | exact h_ | (have e_ := (HN50.out);omega) | simpa using h_)
    obtain ⟨_,hfr52⟩ := Kd.H_at HH50.out (of_decide_eq_true Z229) (by have h_ : (t253 : Int) < ((t244.length : Int) : Int) := of_decide_eq_true Z229;first | exact h_ | (have e_ := (HN50.out);omega) | simpa using h_)
    have hx52_0 := hcc52 0 _ rfl
    have hf52_0 := hfr52 0
    (try simp only [Nat.add_zero] at hx52_0 hf52_0)
    (try rw [show ((Kd.slice 3 (Kd.int .i64))).sz = 1 from rfl,Nat.mul_one] at hx52_0)
    (try rw [show ((Kd.slice 3 (Kd.int .i64))).sz = 1 from rfl,Nat.mul_one] at hf52_0)
    have HP52 := Kd.S_seg0 HH50.out (of_decide_eq_true Z229) (by have h_ : (t253 : Int) < ((t244.length : Int) : Int) := of_decide_eq_true Z229;first | exact h_ | (have e_ := (HN50.out);omega) | simpa using h_) (seg := [.slice Ao54 y273.length co54]) (j := 0) (show 1 ≤ 1 from Z330) (x' := y273) (Kd.M_row HO275.out) (fun _ hk => hk)
    (try simp only [show ((Kd.slice 3 (Kd.int .i64))).sz = 1 from rfl,Nat.mul_one,Nat.add_zero] at HP52)
    clear hcc52 hfr52
    have HN0_go50 := Aside0.mk (show g ≠ go50 from by have h_ := IsS53.own_ne HI0.out hraw52 Z330;intro e_;exact h_ Z255)
    have HNB239_go50 := Aside0.mk (show gb239 ≠ go50 from by have h_ := Kd.R_ne hraw52 BK239.out Z330;intro e_;exact h_ Z255)
    have HNB252_go50 := Aside0.mk (show gb252 ≠ go50 from by have h_ := Kd.R_ne hraw52 BK252.out Z330;intro e_;exact h_ Z255)
    have HS52 := HP52.1
    rw [← Ny276.out] at HS52
    have HQ52 := Aside0.mk HS52
    obtain ⟨_,hgg52⟩ := Kd.R_typed hraw52 go50 rfl
    have GG52_ := Aside0.mk hgg52
    clear HP52 HS52 hgg52
    refine hK.out _ _ ⟨bc BK252 0,bc BK252 1,bc BK252 2,bc BK252 3,HS4_⟩ (fun hHeld => ?_)
    clear hK K
    refine rN (h := ?_)
    refine rP 10 40 12 2047 HT_ (h := ?_)
    refine last_ (i := 11) (N := none) (qM 12 4095) rfl rfl (one_of HT_.out Z256) Z330 (fun K hK => ?_)
    refine skip_ (w1 := ?_) Z257 rfl ?_ ?_
    rotate_left
    ·go_simp
     rfl
    refine hK.out _ _ ?_
    clear hK K
    refine done_ (done_of HT_.out Z256) ?_
    have n0_ : Aside0 (Kd.R Kd.string 9 (w51.setCell ⟨go50,(t253 : Int).toNat,none⟩ (.slice Ao54 y273.length co54)) w.heap.size (fun _ => True) (.slice Ao8 t240.length co8) t240) := ⟨by (with_reducible repeat (first | apply Kd.R_alloc | apply Kd.R_drewN | apply Kd.R_drew));exact Kd.R_mono (Kd.R_far (p := ⟨go50,(t253 : Int).toNat,none⟩) (Kd.R_types HO_253000.out GG52_.out Z330) (fun _ hk => hk.2) (.slice Ao54 y273.length co54)) (fun _ hk => trivial)⟩
    have n1_ : Aside0 (Kd.R (Kd.int .i64) 3 (w51.setCell ⟨go50,(t253 : Int).toNat,none⟩ (.slice Ao54 y273.length co54)) w.heap.size (fun _ => True) (.slice Ao13 t247.length co13) t247) := ⟨by (with_reducible repeat (first | apply Kd.R_alloc | apply Kd.R_drewN | apply Kd.R_drew));exact Kd.R_mono (Kd.R_far (p := ⟨go50,(t253 : Int).toNat,none⟩) (Kd.R_types HO_253003.out GG52_.out Z330) (fun _ hk => hk.2) (.slice Ao54 y273.length co54)) (fun _ hk => trivial)⟩
    have n2_ : Aside0 (Kd.S (Kd.slice 3 (Kd.int .i64)) 26 (w51.setCell ⟨go50,(t253 : Int).toNat,none⟩ (.slice Ao54 y273.length co54)) w.heap.size (fun k_ => some k_ ≠ (.slice Ao13 t247.length co13 : Value).ownBlock) (.slice (some ⟨go50,0,none⟩) t244.length co12) y276) := ⟨by (with_reducible repeat (first | apply Kd.S_alloc | apply Kd.S_drewN | apply Kd.S_drew));exact HQ52.out⟩
    have n3_ : Aside0 ((w51.setCell ⟨go50,(t253 : Int).toNat,none⟩ (.slice Ao54 y273.length co54)).heap[gb239]? = some (.cells #[.slice none 0 0,.string (⟨#[]⟩ : ByteArray),.slice none 0 0,.slice none 0 0] 28 (0,0))) := ⟨by refine bP ?_;refine blk_far ?_ HNB239_go50.out _;refine bP ?_;exact BK239.out⟩
    have n4_ : Aside0 ((w51.setCell ⟨go50,(t253 : Int).toNat,none⟩ (.slice Ao54 y273.length co54)).heap[gb252]? = some (.cells #[.slice Ao8 t240.length co8,.string t243,.slice (some ⟨go50,0,none⟩) t244.length co12,.slice Ao13 t247.length co13] 28 (0,0))) := ⟨by refine bP ?_;refine blk_far ?_ HNB252_go50.out _;refine bP ?_;exact BK252.out⟩
    have n5_ : Aside0 (IsS53 w0 (w51.setCell ⟨go50,(t253 : Int).toNat,none⟩ (.slice Ao54 y273.length co54)) g s0_0 x1001_3 x1002_3) := ⟨by repeat (first | (with_reducible first | exact HI0.out | apply IsS53.alloc | apply IsS53.drewN | apply IsS53.drew | apply IsS53.set_1 | apply IsS53.set_2 | refine IsS53.far ?_ HN0_go50.out _ | refine IsS53.far ?_ NB0_239.out _ | refine IsS53.far ?_ NB0_252.out _) | exact HI0.out)⟩
    have n6_ : Aside0 (KeepBut w (w51.setCell ⟨go50,(t253 : Int).toNat,none⟩ (.slice Ao54 y273.length co54)) g none) := ⟨by repeat (first | (with_reducible first | exact HK.out | apply KeepBut.set_ | apply keep_drewN | apply keep_drew | apply keep_alloc | refine keep_far ?_ GB50.out _ | refine keep_far ?_ GW239.out _ | refine keep_far ?_ GW252.out _) | exact HK.out)⟩
    have n7_ : Aside0 (Below w0.heap.size w0 (w51.setCell ⟨go50,(t253 : Int).toNat,none⟩ (.slice Ao54 y273.length co54))) := ⟨by repeat (first | (with_reducible first | exact HB.out | apply below_alloc | apply pw_below_drewN | apply below_drew1 | refine below_set ?_ (Nat.le_trans HL.out GB50.out) | refine below_set ?_ (IsS53.ge HI0.out) | refine below_set ?_ GE239.out | refine below_set ?_ GE252.out) | exact HB.out)⟩
    (try clear HO_253000)
    (try clear HO_253003)
    (try clear HO_253002)
    (try clear BK239)
    (try clear BK252)
    (try clear HI0)
    (try clear HK)
    (try clear HB)
    generalize (w51.setCell ⟨go50,(t253 : Int).toNat,none⟩ (.slice Ao54 y273.length co54)) = w55 at n0_ n1_ n2_ n3_ n4_ n5_ n6_ n7_ ⊢
    have HO_253000 := n0_
    have HO_253003 := n1_
    have HO_253002 := n2_
    have BK239 := n3_
    have BK252 := n4_
    have HI0 := n5_
    have HK := n6_
    have HB := n7_
    clear n0_ n1_ n2_ n3_ n4_ n5_ n6_ n7_
    have hnb56 := NB252_239.out
    have hnc56 := NB239_252.out
    have hnb57 := NB252_0.out
    have hnc57 := NB0_252.out
    obtain ⟨hcz58_0,hcz58_1,hcz58_2,hcz58_3,hfz58_0,hfz58_1,hfz58_2,hfz58_3⟩ := cells4 BK252.out
    have hnb59 := NB239_0.out
    have hnc59 := NB0_239.out
    obtain ⟨hcz60_0,hcz60_1,hcz60_2,hcz60_3,hfz60_0,hfz60_1,hfz60_2,hfz60_3⟩ := cells4 BK239.out
    try go_wp2
    refine bodyPost_ret (results_cell_row rfl _ _ gb239 28 #[.slice Ao8 t240.length co8,.string t243,.slice (some ⟨go50,0,none⟩) t244.length co12,.slice Ao13 t247.length co13] (0,0) _ rfl (by refine bP ?_;refine blk_put (cs := #[.slice Ao8 t240.length co8,.string t243,.slice (some ⟨go50,0,none⟩) t244.length co12,.slice none 0 0]) ?_ 3 _ rfl;refine bP ?_;refine blk_put (cs := #[.slice Ao8 t240.length co8,.string t243,.slice none 0 0,.slice none 0 0]) ?_ 2 _ rfl;refine bP ?_;refine blk_put (cs := #[.slice Ao8 t240.length co8,.string (⟨#[]⟩ : ByteArray),.slice none 0 0,.slice none 0 0]) ?_ 1 _ rfl;refine bP ?_;refine blk_put (cs := #[.slice none 0 0,.string (⟨#[]⟩ : ByteArray),.slice none 0 0,.slice none 0 0]) ?_ 0 _ rfl;refine bP ?_;exact BK239.out) Try.underlying28 rfl Z256) rfl ?_
    exact ⟨_,_,_,Z212,by (with_reducible repeat (first | apply Kd.R_alloc | apply Kd.R_drewN | apply Kd.R_drew));exact Kd.R_mono (Kd.R_far (p := ⟨gb239,3,none⟩) (Kd.R_far (p := ⟨gb239,2,none⟩) (Kd.R_far (p := ⟨gb239,1,none⟩) (Kd.R_far (p := ⟨gb239,0,none⟩) (Kd.R_types HO_253000.out BK239.out Z330) (fun _ hk => hk.2) (.slice Ao8 t240.length co8)) (fun _ hk => hk.2) (.string t243)) (fun _ hk => hk.2) (.slice (some ⟨go50,0,none⟩) t244.length co12)) (fun _ hk => hk.2) (.slice Ao13 t247.length co13)) (fun _ hk => trivial),by (with_reducible repeat (first | apply Kd.S_alloc | apply Kd.S_drewN | apply Kd.S_drew));exact Kd.S_mono (Kd.S_far (p := ⟨gb239,3,none⟩) (Kd.S_far (p := ⟨gb239,2,none⟩) (Kd.S_far (p := ⟨gb239,1,none⟩) (Kd.S_far (p := ⟨gb239,0,none⟩) (Kd.S_types HO_253002.out BK239.out Z330) (fun _ hk => hk.2) (.slice Ao8 t240.length co8)) (fun _ hk => hk.2) (.string t243)) (fun _ hk => hk.2) (.slice (some ⟨go50,0,none⟩) t244.length co12)) (fun _ hk => hk.2) (.slice Ao13 t247.length co13)) (fun _ hk => hk.1),by (with_reducible repeat (first | apply Kd.R_alloc | apply Kd.R_drewN | apply Kd.R_drew));exact Kd.R_mono (Kd.R_far (p := ⟨gb239,3,none⟩) (Kd.R_far (p := ⟨gb239,2,none⟩) (Kd.R_far (p := ⟨gb239,1,none⟩) (Kd.R_far (p := ⟨gb239,0,none⟩) (Kd.R_types HO_253003.out BK239.out Z330) (fun _ hk => hk.2) (.slice Ao8 t240.length co8)) (fun _ hk => hk.2) (.string t243)) (fun _ hk => hk.2) (.slice (some ⟨go50,0,none⟩) t244.length co12)) (fun _ hk => hk.2) (.slice Ao13 t247.length co13)) (fun _ hk => trivial),Z64,Z71,Z263⟩
   rw [if_neg c44] at H
   have c44b0 : (x13_3 == 2) = false := beq_eq_false_iff_ne.mpr c44
   have c44b1 : (x13_3 != 2) = true := bne_iff_ne.mpr c44
   by_cases c61 : x13_3 = 3
   ·rw [if_pos c61] at H
    have c61b0 : (x13_3 == 3) = true := beq_iff_eq.mpr c61
    have c61b1 : (x13_3 != 3) = false := bne_eq_false_iff_eq.mpr c61
    clear c61
    obtain ⟨c62,H⟩ := ifp H
    have c62b0 : decide (0 ≤ t253) = true := decide_eq_true c62
    clear c62
    obtain ⟨c63,H⟩ := ifp H
    have c63b0 : decide (t253 < (t244.length : Int)) = true := decide_eq_true c63
    clear c63
    obtain ⟨y278,hyy⟩ : ∃ y_ : List Int,y_ = (([2147483647,2147483648,(-2147483648)] : List Int)) := ⟨_,rfl⟩
    replace H : ((spec_l1PickInt.f s0_0 x1001_3 x1002_3 y278).bind fun bt281 => (if 0 < ((rd_L3 t244 t253).length : Int) then (some (t240,t243,(t244.set (t253 : Int).toNat ((rd_L3 t244 t253).set (0 : Int).toNat bt281.1)),t247,bt281.2.1,bt281.2.2)) else (none))) = some (r1,r2,r3,r4,r5,r6) := zR
    have Ny278 := Aside0.mk hyy
    clear hyy
    obtain ⟨⟨t281,t282,t283⟩,A640,H⟩ := Option.bind_eq_some_iff.mp H
    try dsimp only at H
    have A64 := Aside0.mk A640
    clear A640
    obtain ⟨c65,H⟩ := ifp H
    have c65b0 : decide (0 < ((rd_L3 t244 t253).length : Int)) = true := decide_eq_true c65
    have c65b1 : decide (0 < (rd_L3 t244 t253).length) = true := decide_eq_true Z331
    clear c65
    obtain ⟨y284,hyy⟩ : ∃ y_ : List Int,y_ = ((rd_L3 t244 t253).set (0 : Int).toNat t281) := ⟨_,rfl⟩
    replace H : (some (t240,t243,(t244.set (t253 : Int).toNat y284),t247,t282,t283)) = some (r1,r2,r3,r4,r5,r6) := zR
    have Ny284 := Aside0.mk hyy
    clear hyy
    obtain ⟨y286,hyy⟩ : ∃ y_ : List (List Int),y_ = (t244.set (t253 : Int).toNat y284) := ⟨_,rfl⟩
    replace H : (some (t240,t243,y286,t247,t282,t283)) = some (r1,r2,r3,r4,r5,r6) := zR
    have Ny286 := Aside0.mk hyy
    clear hyy
    simp only [Option.some.injEq,Prod.mk.injEq] at H
    obtain ⟨rfl,rfl,rfl,rfl,rfl,rfl⟩ := H
    try go_wp2
    have n_ := jA (Kd.R_drew HO_253000.out) (jA (Kd.S_drew HO_253002.out) (jA (Kd.R_drew HO_253003.out) (jA (blk_drew BK239.out) (jA (blk_drew BK252.out) (jA (IsS53.drew HI0.out) (jA (keep_drew HK.out) (Aside0.mk (below_drew1 HB.out))))))))
    clear HO_253000 HO_253002 HO_253003 BK239 BK252 HI0 HK HB
    obtain ⟨HO_253000,HO_253002,HO_253003,BK239,BK252,HI0,HK,HB⟩ := n_
    have p277 : 0 ≤ (t253 : Int) := of_decide_eq_true Z229
    have q277 : t253 < (t244.length : Int) := of_decide_eq_true Z229
    obtain ⟨ad277,A277_0,c277_0,e277,hx277_0,hl277_0,hi277_0⟩ := at_L3 (Kd.S_reads' HO_253002.out).2.2 t253 p277 q277
    cases e277
    obtain ⟨ce277,hce277,hMe277,hcc277⟩ := Kd.S_get HO_253002.out [] t253 p277 (by first | exact q277 | exact of_decide_eq_true Z229 | (have e_ := (Kd.S_reads' HO_253002.out).1;omega))
    obtain ⟨ve277_0,rfl,ge277_0⟩ := hMe277
    have hv277_0 := hcc277 0 _ rfl
    rw [Nat.add_zero,show ((Kd.slice 3 (Kd.int .i64))).sz = 1 from rfl,Nat.mul_one] at hv277_0
    replace hv277_0 := Option.some.inj (hv277_0.symm.trans hx277_0)
    rw [hv277_0] at ge277_0
    have HL277_0 := Aside0.mk (show Kd.R (Kd.int .i64) 3 _ _ _ _ (rd_L3 t244 t253) from ge277_0)
    clear hv277_0 ge277_0
    have HX277_0 := Aside0.mk hx277_0
    clear hcc277 hce277
    have HR277_0 := Aside0.mk hi277_0
    have HC277_0 := Aside0.mk hl277_0
    clear hi277_0 hl277_0
    replace p277 := eq_true p277
    replace q277 := eq_true q277
    refine start_ (n := 10) (S := fun w' => w'.cell? ⟨gb252,0,none⟩ = some (.slice Ao8 t240.length co8) ∧ w'.cell? ⟨gb252,1,none⟩ = some (.string t243) ∧ w'.cell? ⟨gb252,2,none⟩ = some (.slice (some ad277) t244.length co12) ∧ w'.cell? ⟨gb252,3,none⟩ = some (.slice Ao13 t247.length co13) ∧ w'.cell? (ad277.add (t253).toNat) = some (.slice A277_0 (rd_L3 t244 t253).length c277_0)) (ds := [9]) (qM 10 0) Z256 rfl (by kernel_rfl) ⟨bc BK252 0,bc BK252 1,bc BK252 2,bc BK252 3,hx277_0⟩ (fun hHeld => ?_);refine with_tabW spec_l9Bent.tab11 spec_l9Bent.bits11 (fun HT_ HW_ => ?_)
    generalize wc.drew = w67 at HO_253000 HO_253002 HO_253003 BK239 BK252 HI0 HK HB HL277_0 HR277_0 HX277_0 hx277_0 hHeld ⊢
    refine rP 0 43 10 1 HT_ (h := ?_)
    refine rP 2 45 10 5 HT_ (h := ?_)
    refine rP 5 48 10 37 HT_ (h := ?_)
    refine rT5 1 44 10 39 HT_ HW_ hHeld (h := ?_)
    refine rP 3 46 10 47 HT_ (h := ?_)
    refine rT5 4 47 10 63 HT_ HW_ hHeld (h := ?_)
    refine rO 6 49 10 127 HT_ (h := fun K hK => ?_)
    refine Kd.R_lit_step (Kd.int .i64) _ 3 ?hg (N := 49) ?hd (xs := ([2147483647,2147483648,(-2147483648)] : List Int)) (inner := [.int .i64 2147483647,.int .i64 2147483648,.int .i64 (-2147483648)]) (ok := fun _ => True) (okp := fun _ => True) ?hr ?hp (fun _ hk => hk) trivial (Below.refl _ _) (Nat.le_refl _) Z332 ?_;(case hd => rfl);(case hg => rfl);(case hr => exact Z231);(case hp => exact (Reps.one (show Kd.M (Kd.int .i64) _ _ _ 2147483647 [.int .i64 2147483647] from rfl) (Reps.one (show Kd.M (Kd.int .i64) _ _ _ 2147483648 [.int .i64 2147483648] from rfl) (Reps.one (show Kd.M (Kd.int .i64) _ _ _ (-2147483648) [.int .i64 (-2147483648)] from rfl) (Reps.none _ _)))))
    intro v279 w68 ho69 hb hg_ hnew_
    have HS4_ := (hb.cell (World.block_lt_of_cell? _ _ (hHeld.2.2.2.2))).trans (hHeld.2.2.2.2)
    clear hg_ hnew_
    (first | rw [← Ny278.out] at ho69 | (simp only [Int.reduceToNat] at ho69;rw [← Ny278.out] at ho69))
    have n_ := jA (Kd.R_below Z173 hb) (jA (Kd.S_elder' Z175 (Kd.R_base ho69) hb) (jA (Kd.R_elder' Z172 (Kd.R_base ho69) hb) (jA (Kd.R_elder' Z179 (Kd.R_base ho69) hb) (jA (Kd.R_lower (Kd.R_new' (Kd.R_new' ho69 (Kd.R_lt Z172)) (Kd.R_lt Z179)) (keep_size (w := w) (g := g) (row := none) Z263)) (jA (blk_below (g := gb239) (o := .cells #[.slice none 0 0,.string (⟨#[]⟩ : ByteArray),.slice none 0 0,.slice none 0 0] 28 (0,0)) Z242 hb) (jA (blk_below (g := gb252) (o := .cells #[.slice Ao8 t240.length co8,.string t243,.slice (some ad277) t244.length co12,.slice Ao13 t247.length co13] 28 (0,0)) Z243 hb) (jA (IsS53.below Z64 hb) (jA (Kd.C_below (by repeat (first | (with_reducible exact HR277_0.out) | (with_reducible refine Kd.C_alloc ?_ _) | (with_reducible refine Kd.C_drewN ?_ _) | (with_reducible refine Kd.C_drew ?_) | exact HR277_0.out)) hb) (jA (pw_cell_below hb HX277_0.out) (jA (KeepBut.trans Z263 (KeepBut.of_below hb g none) (.inl rfl)) (Aside0.mk (below_step Z71 hb))))))))))))
    clear HO_253000 HO_253002 HO_253003 HL277_0 BK239 BK252 HI0 HR277_0 HX277_0 HK HB
    obtain ⟨HO_253000,HO_253002,HO_253003,HL277_0,HO280,BK239,BK252,HI0,HR277_0,HX277_0,HK,HB⟩ := n_
    clear hb ho69
    obtain ⟨Ao70,co70,eo70⟩ := Kd.R_slice HO280.out
    (first | subst eo70 | (injection eo70 with f1_ f2_ f3_;have f4_ := f1_.symm;have f5_ := f3_.symm;clear f1_ f2_ f3_;subst f4_;subst f5_))
    refine hK.out _ _ ⟨bc BK252 0,bc BK252 1,bc BK252 2,bc BK252 3,HS4_⟩ (fun hHeld => ?_)
    clear hK K
    refine rN (h := ?_)
    refine rO 7 50 10 255 HT_ (h := fun K hK => ?_)
    refine goes_ Try.func16 Z256 rfl #[.pointer (some ⟨g,0,none⟩),.slice Ao70 y278.length co70] Z257 rfl rfl Z159 ?_
    with_reducible refine (spec_l1PickInt.calls g s0_0 x1001_3 x1002_3 _ _ y278 t281 t282 t283 w0 _ ?side1 ?side2 ?side3 ?side4 ?side5 A64.out).mono ?_
    (case side1 => exact Z64)
    (case side2 => exact Z71)
    (case side3 => repeat (first | exact (Kd.R_reads' HO280.out).2.2 | (with_reducible refine Kd.C_alloc ?_ _) | (with_reducible refine Kd.C_drewN ?_ _) | (with_reducible refine Kd.C_drew ?_)))
    (case side4 => exact (Kd.R_reads' HO280.out).2.1)
    (case side5 => exact far_slice (IsS53.own_ne HI0.out HO280.out Z330))
    rintro e w71 ⟨rfl,hi,hb,hk⟩
    have HS4_ := keep_cell hk (hHeld.2.2.2.2) (by first | (rw [add_block];exact Kd.own_blk (IsS53.own_neS HI0.out HO_253002.out Z330)) | (show (Addr.add _ _).block ≠ _;rw [add_block];exact Kd.own_blk (IsS53.own_neS HI0.out HO_253002.out Z330)) | exact Kd.own_blk (IsS53.own_neS HI0.out HO_253002.out Z330))
    refine ⟨_,rfl,?_⟩
    have n_ := jA (Kd.R_mono (Kd.R_keep (IsS53.apart (show IsS53 w0 _ g s0_0 x1001_3 x1002_3 from Z64) Z173 Z330) hk (fun _ h => h.2)) (fun _ h => h.1)) (jA (Kd.S_mono (Kd.S_keep (IsS53.apartS (show IsS53 w0 _ g s0_0 x1001_3 x1002_3 from Z64) Z175 Z330) hk (fun _ h => h.2)) (fun _ h => h.1)) (jA (Kd.R_mono (Kd.R_keep (IsS53.apart (show IsS53 w0 _ g s0_0 x1001_3 x1002_3 from Z64) Z172 Z330) hk (fun _ h => h.2)) (fun _ h => h.1)) (jA (KeepBut.blk hk (g' := gb239) (o := .cells #[.slice none 0 0,.string (⟨#[]⟩ : ByteArray),.slice none 0 0,.slice none 0 0] 28 (0,0)) Z242 NB239_0.out Z332) (jA (KeepBut.blk hk (g' := gb252) (o := .cells #[.slice Ao8 t240.length co8,.string t243,.slice (some ad277) t244.length co12,.slice Ao13 t247.length co13] 28 (0,0)) Z243 NB252_0.out Z332) (jA (Kd.R_mono (Kd.R_keep (IsS53.apart (show IsS53 w0 _ g s0_0 x1001_3 x1002_3 from Z64) Z179 Z330) hk (fun _ h => h.2)) (fun _ h => h.1)) (jA (keep_cell hk HX277_0.out (by first | (rw [add_block];exact Kd.own_blk (IsS53.own_neS HI0.out HO_253002.out Z330)) | (show (Addr.add _ _).block ≠ _;rw [add_block];exact Kd.own_blk (IsS53.own_neS HI0.out HO_253002.out Z330)) | exact Kd.own_blk (IsS53.own_neS HI0.out HO_253002.out Z330) | (dsimp only;exact Kd.own_blk (IsS53.own_neS HI0.out HO_253002.out Z330)))) (jA (Kd.R_mono (Kd.R_keep (IsS53.apart (show IsS53 w0 _ g s0_0 x1001_3 x1002_3 from Z64) (by (with_reducible repeat (first | apply Kd.R_alloc | apply Kd.R_drewN | apply Kd.R_drew));exact HO280.out) Z330) hk (fun _ h => h.2)) (fun _ h => h.1)) (jA (KeepBut.trans Z263 hk (.inl rfl)) (jA (hb) (Aside0.mk (hi)))))))))))
    clear HO_253000 HO_253002 HO_253003 BK239 BK252 HL277_0 HX277_0 HO280 HK HB HI0
    obtain ⟨HO_253000,HO_253002,HO_253003,BK239,BK252,HL277_0,HX277_0,HO280,HK,HB,HI0⟩ := n_
    (try clear hb)
    (try clear hb2)
    (try clear hk)
    (try clear hi)
    have p66 : 0 ≤ (0 : Int) := Z331
    have q66 : (0 : Int) < (((rd_L3 t244 t253).length : Int) : Int) := of_decide_eq_true Z229
    have qi66 : (0 < (rd_L3 t244 t253).length) = True := eq_true Z331
    obtain ⟨go66,co66,eo66,gb66,gl66,cl66,HG66⟩ := Kd.R_form HL277_0.out Z331
    (first | cases eo66 | (injection eo66 with ea_ en_ ec_;(first | subst ea_ | (injection ea_ with ea_;subst ea_));subst ec_;clear en_))
    have GB66 := Aside0.mk gb66
    have GG66 := Aside0.mk HG66
    clear gb66 gl66 HG66
    obtain ⟨hx66_0,hf66_0⟩ := Kd.R_celln 0 HL277_0.out (0 : Int) p66 q66
    (try rw [show ((0 : Int)).toNat = 0 from rfl] at hx66_0)
    (try simp only [Nat.reduceMul,Nat.zero_mul,Nat.zero_add,Nat.reduceAdd] at hx66_0)
    (try rw [show ((0 : Int)).toNat = 0 from rfl] at hf66_0)
    (try simp only [Nat.reduceMul,Nat.zero_mul,Nat.zero_add,Nat.reduceAdd] at hf66_0)
    replace p66 := eq_true p66
    replace q66 := eq_true q66
    have hq72 : (t253 : Int) < (t244.length : Int) := (by have h_ : (t253 : Int) < ((t244.length : Int) : Int) := of_decide_eq_true Z229;first | exact h_ | (have e_ := (Kd.S_reads' HO_253002.out).1;omega) | simpa only [List.length_set,List.length_set] using h_)
    obtain ⟨oki72,ce72,hcl72,hM72,hcc72,hok72,hbk72⟩ := Kd.S_borrow HO_253002.out [] (t253 : Int) (of_decide_eq_true Z229) hq72
    obtain ⟨ve72_0,rfl,ge72_0⟩ := hM72
    have hv72 := hcc72 0 _ rfl
    rw [Nat.add_zero,show ((Kd.slice 3 (Kd.int .i64))).sz = 1 from rfl,Nat.mul_one] at hv72
    replace hv72 := Option.some.inj (hv72.symm.trans HX277_0.out)
    subst hv72
    clear hcc72 hcl72
    replace ge72_0 := (show Kd.R (Kd.int .i64) 3 _ _ _ _ (rd_L3 t244 t253) from ge72_0)
    have HP72 := Kd.R_putg ge72_0 (0 : Int) t281
    have HN0_go66 := Aside0.mk (show g ≠ go66 from by have h_ := IsS53.own_ne HI0.out HL277_0.out Z330;intro e_;exact h_ Z255)
    rw [← Ny284.out] at HP72
    have HS72 := hbk72 HP72.2 (fun k_ e_ => by injection e_ with e_;subst e_;exact ge72_0.1 _ rfl) (x' := y284) (Kd.M_row HP72.1)
    rw [← Ny286.out] at HS72
    have HQ72 := Aside0.mk HS72
    clear HP72 HS72 hbk72 hok72
    refine hK.out _ _ ⟨bc BK252 0,bc BK252 1,bc BK252 2,bc BK252 3,HS4_⟩ (fun hHeld => ?_)
    clear hK K
    refine rN (h := ?_)
    refine rP 8 51 10 511 HT_ (h := ?_)
    refine last_ (i := 9) (N := none) (qM 10 1023) rfl rfl (one_of HT_.out Z256) Z330 (fun K hK => ?_)
    refine skip_ (w1 := ?_) Z257 rfl ?_ ?_
    rotate_left
    ·go_simp
     rfl
    refine hK.out _ _ ?_
    clear hK K
    refine done_ (done_of HT_.out Z256) ?_
    have n0_ : Aside0 (Kd.R Kd.string 9 (w71.setCell ⟨go66,0,none⟩ (.int .i64 t281)) w.heap.size (fun _ => True) (.slice Ao8 t240.length co8) t240) := ⟨by (with_reducible repeat (first | apply Kd.R_alloc | apply Kd.R_drewN | apply Kd.R_drew));exact Kd.R_mono (Kd.R_far (p := ⟨go66,0,none⟩) (Kd.R_types HO_253000.out GG66.out Z330) (fun _ hk => hk.2) (.int .i64 t281)) (fun _ hk => trivial)⟩
    have n1_ : Aside0 (Kd.S (Kd.slice 3 (Kd.int .i64)) 26 (w71.setCell ⟨go66,0,none⟩ (.int .i64 t281)) w.heap.size (fun k_ => some k_ ≠ (.slice Ao13 t247.length co13 : Value).ownBlock ∧ some k_ ≠ (.slice Ao70 y278.length co70 : Value).ownBlock) (.slice (some ad277) t244.length co12) y286) := ⟨by (with_reducible repeat (first | apply Kd.S_alloc | apply Kd.S_drewN | apply Kd.S_drew));exact HQ72.out⟩
    have n2_ : Aside0 (Kd.R (Kd.int .i64) 3 (w71.setCell ⟨go66,0,none⟩ (.int .i64 t281)) w.heap.size (fun k_ => some k_ ≠ (.slice Ao70 y278.length co70 : Value).ownBlock) (.slice Ao13 t247.length co13) t247) := ⟨by (with_reducible repeat (first | apply Kd.R_alloc | apply Kd.R_drewN | apply Kd.R_drew));exact Kd.R_mono (Kd.R_far (p := ⟨go66,0,none⟩) (Kd.R_far1 HO_253003.out rfl ((HL277_0.out.1 _ rfl).1.1)) (fun _ hk => hk.2) (.int .i64 t281)) (fun _ hk => hk.1.2)⟩
    have n3_ : Aside0 (Kd.R (Kd.int .i64) 3 (w71.setCell ⟨go66,0,none⟩ (.int .i64 t281)) w.heap.size (fun k_ => some k_ ≠ (.slice Ao13 t247.length co13 : Value).ownBlock) (.slice Ao70 y278.length co70) y278) := ⟨by (with_reducible repeat (first | apply Kd.R_alloc | apply Kd.R_drewN | apply Kd.R_drew));exact Kd.R_mono (Kd.R_far (p := ⟨go66,0,none⟩) (Kd.R_far1 HO280.out rfl ((HL277_0.out.1 _ rfl).2)) (fun _ hk => hk.2) (.int .i64 t281)) (fun _ hk => hk.1.1.2)⟩
    have n4_ : Aside0 ((w71.setCell ⟨go66,0,none⟩ (.int .i64 t281)).heap[gb239]? = some (.cells #[.slice none 0 0,.string (⟨#[]⟩ : ByteArray),.slice none 0 0,.slice none 0 0] 28 (0,0))) := ⟨by refine bP ?_;refine blk_far ?_ (by have h_ := Kd.R_ne HL277_0.out BK239.out Z330;intro e_;exact h_ Z255) _;refine bP ?_;exact BK239.out⟩
    have n5_ : Aside0 ((w71.setCell ⟨go66,0,none⟩ (.int .i64 t281)).heap[gb252]? = some (.cells #[.slice Ao8 t240.length co8,.string t243,.slice (some ad277) t244.length co12,.slice Ao13 t247.length co13] 28 (0,0))) := ⟨by refine bP ?_;refine blk_far ?_ (by have h_ := Kd.R_ne HL277_0.out BK252.out Z330;intro e_;exact h_ Z255) _;refine bP ?_;exact BK252.out⟩
    have n6_ : Aside0 (IsS53 w0 (w71.setCell ⟨go66,0,none⟩ (.int .i64 t281)) g s0_0 t282 t283) := ⟨by repeat (first | (with_reducible first | exact HI0.out | apply IsS53.alloc | apply IsS53.drewN | apply IsS53.drew | apply IsS53.set_1 | apply IsS53.set_2 | refine IsS53.far ?_ HN0_go66.out _ | refine IsS53.far ?_ NB0_239.out _ | refine IsS53.far ?_ NB0_252.out _) | exact HI0.out)⟩
    have n7_ : Aside0 (KeepBut w (w71.setCell ⟨go66,0,none⟩ (.int .i64 t281)) g none) := ⟨by repeat (first | (with_reducible first | exact HK.out | apply KeepBut.set_ | apply keep_drewN | apply keep_drew | apply keep_alloc | refine keep_far ?_ GB66.out _ | refine keep_far ?_ GW239.out _ | refine keep_far ?_ GW252.out _) | exact HK.out)⟩
    have n8_ : Aside0 (Below w0.heap.size w0 (w71.setCell ⟨go66,0,none⟩ (.int .i64 t281))) := ⟨by repeat (first | (with_reducible first | exact HB.out | apply below_alloc | apply pw_below_drewN | apply below_drew1 | refine below_set ?_ (Nat.le_trans HL.out GB66.out) | refine below_set ?_ (IsS53.ge HI0.out) | refine below_set ?_ GE239.out | refine below_set ?_ GE252.out) | exact HB.out)⟩
    (try clear HO_253000)
    (try clear HO_253002)
    (try clear HO_253003)
    (try clear HO280)
    (try clear BK239)
    (try clear BK252)
    (try clear HI0)
    (try clear HK)
    (try clear HB)
    generalize (w71.setCell ⟨go66,0,none⟩ (.int .i64 t281)) = w74 at n0_ n1_ n2_ n3_ n4_ n5_ n6_ n7_ n8_ ⊢
    have HO_253000 := n0_
    have HO_253002 := n1_
    have HO_253003 := n2_
    have HO280 := n3_
    have BK239 := n4_
    have BK252 := n5_
    have HI0 := n6_
    have HK := n7_
    have HB := n8_
    clear n0_ n1_ n2_ n3_ n4_ n5_ n6_ n7_ n8_
    have hnb75 := NB252_239.out
    have hnc75 := NB239_252.out
    have hnb76 := NB252_0.out
    have hnc76 := NB0_252.out
    obtain ⟨hcz77_0,hcz77_1,hcz77_2,hcz77_3,hfz77_0,hfz77_1,hfz77_2,hfz77_3⟩ := cells4 BK252.out
    have hnb78 := NB239_0.out
    have hnc78 := NB0_239.out
    obtain ⟨hcz79_0,hcz79_1,hcz79_2,hcz79_3,hfz79_0,hfz79_1,hfz79_2,hfz79_3⟩ := cells4 BK239.out
    try go_wp2
    refine bodyPost_ret (results_cell_row rfl _ _ gb239 28 #[.slice Ao8 t240.length co8,.string t243,.slice (some ad277) t244.length co12,.slice Ao13 t247.length co13] (0,0) _ rfl (by refine bP ?_;refine blk_put (cs := #[.slice Ao8 t240.length co8,.string t243,.slice (some ad277) t244.length co12,.slice none 0 0]) ?_ 3 _ rfl;refine bP ?_;refine blk_put (cs := #[.slice Ao8 t240.length co8,.string t243,.slice none 0 0,.slice none 0 0]) ?_ 2 _ rfl;refine bP ?_;refine blk_put (cs := #[.slice Ao8 t240.length co8,.string (⟨#[]⟩ : ByteArray),.slice none 0 0,.slice none 0 0]) ?_ 1 _ rfl;refine bP ?_;refine blk_put (cs := #[.slice none 0 0,.string (⟨#[]⟩ : ByteArray),.slice none 0 0,.slice none 0 0]) ?_ 0 _ rfl;refine bP ?_;exact BK239.out) Try.underlying28 rfl Z256) rfl ?_
    exact ⟨_,_,_,Z212,by (with_reducible repeat (first | apply Kd.R_alloc | apply Kd.R_drewN | apply Kd.R_drew));exact Kd.R_mono (Kd.R_far (p := ⟨gb239,3,none⟩) (Kd.R_far (p := ⟨gb239,2,none⟩) (Kd.R_far (p := ⟨gb239,1,none⟩) (Kd.R_far (p := ⟨gb239,0,none⟩) (Kd.R_types HO_253000.out BK239.out Z330) (fun _ hk => hk.2) (.slice Ao8 t240.length co8)) (fun _ hk => hk.2) (.string t243)) (fun _ hk => hk.2) (.slice (some ad277) t244.length co12)) (fun _ hk => hk.2) (.slice Ao13 t247.length co13)) (fun _ hk => trivial),by (with_reducible repeat (first | apply Kd.S_alloc | apply Kd.S_drewN | apply Kd.S_drew));exact Kd.S_mono (Kd.S_far (p := ⟨gb239,3,none⟩) (Kd.S_far (p := ⟨gb239,2,none⟩) (Kd.S_far (p := ⟨gb239,1,none⟩) (Kd.S_far (p := ⟨gb239,0,none⟩) (Kd.S_types HO_253002.out BK239.out Z330) (fun _ hk => hk.2) (.slice Ao8 t240.length co8)) (fun _ hk => hk.2) (.string t243)) (fun _ hk => hk.2) (.slice (some ad277) t244.length co12)) (fun _ hk => hk.2) (.slice Ao13 t247.length co13)) (fun _ hk => hk.1.1),by (with_reducible repeat (first | apply Kd.R_alloc | apply Kd.R_drewN | apply Kd.R_drew));exact Kd.R_mono (Kd.R_far (p := ⟨gb239,3,none⟩) (Kd.R_far (p := ⟨gb239,2,none⟩) (Kd.R_far (p := ⟨gb239,1,none⟩) (Kd.R_far (p := ⟨gb239,0,none⟩) (Kd.R_types HO_253003.out BK239.out Z330) (fun _ hk => hk.2) (.slice Ao8 t240.length co8)) (fun _ hk => hk.2) (.string t243)) (fun _ hk => hk.2) (.slice (some ad277) t244.length co12)) (fun _ hk => hk.2) (.slice Ao13 t247.length co13)) (fun _ hk => trivial),Z64,Z71,Z263⟩
   rw [if_neg c61] at H
   have c61b0 : (x13_3 == 3) = false := beq_eq_false_iff_ne.mpr c61
   have c61b1 : (x13_3 != 3) = true := bne_iff_ne.mpr c61
   by_cases c80 : x13_3 = 4
   ·rw [if_pos c80] at H
    have c80b0 : (x13_3 == 4) = true := beq_iff_eq.mpr c80
    have c80b1 : (x13_3 != 4) = false := bne_eq_false_iff_eq.mpr c80
    clear c80
    obtain ⟨⟨t287,t288,t289⟩,A810,H⟩ := Option.bind_eq_some_iff.mp H
    try dsimp only at H
    have A81 := Aside0.mk A810
    clear A810
    obtain ⟨c82,H⟩ := ifp H
    have c82b0 : decide (0 ≤ t253) = true := decide_eq_true c82
    clear c82
    obtain ⟨c83,H⟩ := ifp H
    have c83b0 : decide (t253 < (t247.length : Int)) = true := decide_eq_true c83
    clear c83
    obtain ⟨y290,hyy⟩ : ∃ y_ : List Int,y_ = (t247.set (t253 : Int).toNat t287) := ⟨_,rfl⟩
    replace H : (some (t240,t243,t244,y290,t288,t289)) = some (r1,r2,r3,r4,r5,r6) := zR
    have Ny290 := Aside0.mk hyy
    clear hyy
    simp only [Option.some.injEq,Prod.mk.injEq] at H
    obtain ⟨rfl,rfl,rfl,rfl,rfl,rfl⟩ := H
    try go_wp2
    have n_ := jA (Kd.R_drew HO_253000.out) (jA (Kd.S_drew HO_253002.out) (jA (Kd.R_drew HO_253003.out) (jA (blk_drew BK239.out) (jA (blk_drew BK252.out) (jA (IsS53.drew HI0.out) (jA (keep_drew HK.out) (Aside0.mk (below_drew1 HB.out))))))))
    clear HO_253000 HO_253002 HO_253003 BK239 BK252 HI0 HK HB
    obtain ⟨HO_253000,HO_253002,HO_253003,BK239,BK252,HI0,HK,HB⟩ := n_
    refine start_ (n := 7) (S := fun w' => w'.cell? ⟨gb252,0,none⟩ = some (.slice Ao8 t240.length co8) ∧ w'.cell? ⟨gb252,1,none⟩ = some (.string t243) ∧ w'.cell? ⟨gb252,2,none⟩ = some (.slice Ao12 t244.length co12) ∧ w'.cell? ⟨gb252,3,none⟩ = some (.slice Ao13 t247.length co13)) (ds := [6]) (qM 7 0) Z256 rfl (by kernel_rfl) ⟨bc BK252 0,bc BK252 1,bc BK252 2,bc BK252 3⟩ (fun hHeld => ?_)
    generalize wc.drew = w85 at HO_253000 HO_253002 HO_253003 BK239 BK252 HI0 HK HB hHeld ⊢
    refine sP 0 54 7 1 (h := ?_)
    refine sP 2 56 7 5 (h := ?_)
    refine sP 3 57 7 13 (h := ?_)
    refine sT4 1 55 7 15 hHeld (h := ?_)
    refine sO 4 58 7 31 (h := fun K hK => ?_)
    refine goes_ Try.func39 Z256 rfl #[.pointer (some ⟨g,0,none⟩)] Z257 rfl rfl Z159 ?_
    with_reducible refine (spec_l1Whole.calls kj3 g s0_0 x1001_3 x1002_3 t287 t288 t289 w0 _ ?side1 ?side2 A81.out).mono ?_
    (case side1 => exact Z64)
    (case side2 => exact Z71)
    rintro e w86 ⟨rfl,hi,hb,hk⟩
    refine ⟨_,rfl,?_⟩
    have n_ := jA (Kd.R_mono (Kd.R_keep (IsS53.apart (show IsS53 w0 _ g s0_0 x1001_3 x1002_3 from Z64) Z173 Z330) hk (fun _ h => h.2)) (fun _ h => h.1)) (jA (Kd.S_mono (Kd.S_keep (IsS53.apartS (show IsS53 w0 _ g s0_0 x1001_3 x1002_3 from Z64) Z175 Z330) hk (fun _ h => h.2)) (fun _ h => h.1)) (jA (Kd.R_mono (Kd.R_keep (IsS53.apart (show IsS53 w0 _ g s0_0 x1001_3 x1002_3 from Z64) Z172 Z330) hk (fun _ h => h.2)) (fun _ h => h.1)) (jA (KeepBut.blk hk (g' := gb239) (o := .cells #[.slice none 0 0,.string (⟨#[]⟩ : ByteArray),.slice none 0 0,.slice none 0 0] 28 (0,0)) Z242 NB239_0.out Z332) (jA (KeepBut.blk hk (g' := gb252) (o := .cells #[.slice Ao8 t240.length co8,.string t243,.slice Ao12 t244.length co12,.slice Ao13 t247.length co13] 28 (0,0)) Z243 NB252_0.out Z332) (jA (KeepBut.trans Z263 hk (.inl rfl)) (jA (hb) (Aside0.mk (hi))))))))
    clear HO_253000 HO_253002 HO_253003 BK239 BK252 HK HB HI0
    obtain ⟨HO_253000,HO_253002,HO_253003,BK239,BK252,HK,HB,HI0⟩ := n_
    (try clear hb)
    (try clear hb2)
    (try clear hk)
    (try clear hi)
    have p84 : 0 ≤ (t253 : Int) := of_decide_eq_true Z229
    have q84 : (t253 : Int) < ((t247.length : Int) : Int) := of_decide_eq_true Z229
    obtain ⟨go84,co84,eo84,gb84,gl84,cl84,HG84⟩ := Kd.R_form HO_253003.out Z331
    (first | cases eo84 | (injection eo84 with ea_ en_ ec_;(first | subst ea_ | (injection ea_ with ea_;subst ea_));subst ec_;clear en_))
    have GB84 := Aside0.mk gb84
    have GG84 := Aside0.mk HG84
    clear gb84 gl84 HG84
    obtain ⟨hx84_0,hf84_0⟩ := Kd.R_celln 0 HO_253003.out (t253 : Int) p84 q84
    replace p84 := eq_true p84
    replace q84 := eq_true q84
    have HN0_go84 := Aside0.mk (show g ≠ go84 from by have h_ := IsS53.own_ne HI0.out HO_253003.out Z330;intro e_;exact h_ Z255)
    have HP87 := Kd.R_putn HO_253003.out (t253 : Int) t287
    rw [← Ny290.out] at HP87
    have HQ87 := Aside0.mk HP87
    clear HP87
    refine hK.out _ _ ⟨bc BK252 0,bc BK252 1,bc BK252 2,bc BK252 3⟩ (fun hHeld => ?_)
    clear hK K
    refine rN (h := ?_)
    refine sP 5 59 7 63 (h := ?_)
    refine last_ (i := 6) (N := none) (qM 7 127) rfl rfl Z256 Z330 (fun K hK => ?_)
    refine skip_ (w1 := ?_) Z257 rfl ?_ ?_
    rotate_left
    ·go_simp
     rfl
    refine hK.out _ _ ?_
    clear hK K
    refine done_ Z256 ?_
    have n0_ : Aside0 (Kd.R Kd.string 9 (w86.setCell ⟨go84,(t253 : Int).toNat,none⟩ (.int .i64 t287)) w.heap.size (fun _ => True) (.slice Ao8 t240.length co8) t240) := ⟨by (with_reducible repeat (first | apply Kd.R_alloc | apply Kd.R_drewN | apply Kd.R_drew));exact Kd.R_mono (Kd.R_far (p := ⟨go84,(t253 : Int).toNat,none⟩) (Kd.R_types HO_253000.out GG84.out Z330) (fun _ hk => hk.2) (.int .i64 t287)) (fun _ hk => trivial)⟩
    have n1_ : Aside0 (Kd.S (Kd.slice 3 (Kd.int .i64)) 26 (w86.setCell ⟨go84,(t253 : Int).toNat,none⟩ (.int .i64 t287)) w.heap.size (fun k_ => some k_ ≠ (.slice (some ⟨go84,0,none⟩) t247.length co13 : Value).ownBlock) (.slice Ao12 t244.length co12) t244) := ⟨by (with_reducible repeat (first | apply Kd.S_alloc | apply Kd.S_drewN | apply Kd.S_drew));exact Kd.S_mono (Kd.S_far (p := ⟨go84,(t253 : Int).toNat,none⟩) (Kd.S_mono HO_253002.out (fun k_ hk => (⟨hk,fun e_ => hk Z255⟩ : _ ∧ k_ ≠ go84))) (fun _ hk => hk.2) (.int .i64 t287)) (fun _ hk => hk.1)⟩
    have n2_ : Aside0 (Kd.R (Kd.int .i64) 3 (w86.setCell ⟨go84,(t253 : Int).toNat,none⟩ (.int .i64 t287)) w.heap.size (fun _ => True) (.slice (some ⟨go84,0,none⟩) t247.length co13) y290) := ⟨by (with_reducible repeat (first | apply Kd.R_alloc | apply Kd.R_drewN | apply Kd.R_drew));exact HQ87.out⟩
    have n3_ : Aside0 ((w86.setCell ⟨go84,(t253 : Int).toNat,none⟩ (.int .i64 t287)).heap[gb239]? = some (.cells #[.slice none 0 0,.string (⟨#[]⟩ : ByteArray),.slice none 0 0,.slice none 0 0] 28 (0,0))) := ⟨by refine bP ?_;refine blk_far ?_ (by have h_ := Kd.R_ne HO_253003.out BK239.out Z330;intro e_;exact h_ Z255) _;refine bP ?_;exact BK239.out⟩
    have n4_ : Aside0 ((w86.setCell ⟨go84,(t253 : Int).toNat,none⟩ (.int .i64 t287)).heap[gb252]? = some (.cells #[.slice Ao8 t240.length co8,.string t243,.slice Ao12 t244.length co12,.slice (some ⟨go84,0,none⟩) t247.length co13] 28 (0,0))) := ⟨by refine bP ?_;refine blk_far ?_ (by have h_ := Kd.R_ne HO_253003.out BK252.out Z330;intro e_;exact h_ Z255) _;refine bP ?_;exact BK252.out⟩
    have n5_ : Aside0 (IsS53 w0 (w86.setCell ⟨go84,(t253 : Int).toNat,none⟩ (.int .i64 t287)) g s0_0 t288 t289) := ⟨by repeat (first | (with_reducible first | exact HI0.out | apply IsS53.alloc | apply IsS53.drewN | apply IsS53.drew | apply IsS53.set_1 | apply IsS53.set_2 | refine IsS53.far ?_ HN0_go84.out _ | refine IsS53.far ?_ NB0_239.out _ | refine IsS53.far ?_ NB0_252.out _) | exact HI0.out)⟩
    have n6_ : Aside0 (KeepBut w (w86.setCell ⟨go84,(t253 : Int).toNat,none⟩ (.int .i64 t287)) g none) := ⟨by repeat (first | (with_reducible first | exact HK.out | apply KeepBut.set_ | apply keep_drewN | apply keep_drew | apply keep_alloc | refine keep_far ?_ GB84.out _ | refine keep_far ?_ GW239.out _ | refine keep_far ?_ GW252.out _) | exact HK.out)⟩
    have n7_ : Aside0 (Below w0.heap.size w0 (w86.setCell ⟨go84,(t253 : Int).toNat,none⟩ (.int .i64 t287))) := ⟨by repeat (first | (with_reducible first | exact HB.out | apply below_alloc | apply pw_below_drewN | apply below_drew1 | refine below_set ?_ (Nat.le_trans HL.out GB84.out) | refine below_set ?_ (IsS53.ge HI0.out) | refine below_set ?_ GE239.out | refine below_set ?_ GE252.out) | exact HB.out)⟩
    (try clear HO_253000)
    (try clear HO_253002)
    (try clear HO_253003)
    (try clear BK239)
    (try clear BK252)
    (try clear HI0)
    (try clear HK)
    (try clear HB)
    generalize (w86.setCell ⟨go84,(t253 : Int).toNat,none⟩ (.int .i64 t287)) = w88 at n0_ n1_ n2_ n3_ n4_ n5_ n6_ n7_ ⊢
    have HO_253000 := n0_
    have HO_253002 := n1_
    have HO_253003 := n2_
    have BK239 := n3_
    have BK252 := n4_
    have HI0 := n5_
    have HK := n6_
    have HB := n7_
    clear n0_ n1_ n2_ n3_ n4_ n5_ n6_ n7_
    have hnb89 := NB252_239.out
    have hnc89 := NB239_252.out
    have hnb90 := NB252_0.out
    have hnc90 := NB0_252.out
    obtain ⟨hcz91_0,hcz91_1,hcz91_2,hcz91_3,hfz91_0,hfz91_1,hfz91_2,hfz91_3⟩ := cells4 BK252.out
    have hnb92 := NB239_0.out
    have hnc92 := NB0_239.out
    obtain ⟨hcz93_0,hcz93_1,hcz93_2,hcz93_3,hfz93_0,hfz93_1,hfz93_2,hfz93_3⟩ := cells4 BK239.out
    try go_wp2
    refine bodyPost_ret (results_cell_row rfl _ _ gb239 28 #[.slice Ao8 t240.length co8,.string t243,.slice Ao12 t244.length co12,.slice (some ⟨go84,0,none⟩) t247.length co13] (0,0) _ rfl Z26 Try.underlying28 rfl Z256) rfl ?_
    exact ⟨_,_,_,Z212,by (with_reducible repeat (first | apply Kd.R_alloc | apply Kd.R_drewN | apply Kd.R_drew));exact Kd.R_mono (Kd.R_far (p := ⟨gb239,3,none⟩) (Kd.R_far (p := ⟨gb239,2,none⟩) (Kd.R_far (p := ⟨gb239,1,none⟩) (Kd.R_far (p := ⟨gb239,0,none⟩) (Kd.R_types HO_253000.out BK239.out Z330) (fun _ hk => hk.2) (.slice Ao8 t240.length co8)) (fun _ hk => hk.2) (.string t243)) (fun _ hk => hk.2) (.slice Ao12 t244.length co12)) (fun _ hk => hk.2) (.slice (some ⟨go84,0,none⟩) t247.length co13)) (fun _ hk => trivial),by (with_reducible repeat (first | apply Kd.S_alloc | apply Kd.S_drewN | apply Kd.S_drew));exact Kd.S_mono (Kd.S_far (p := ⟨gb239,3,none⟩) (Kd.S_far (p := ⟨gb239,2,none⟩) (Kd.S_far (p := ⟨gb239,1,none⟩) (Kd.S_far (p := ⟨gb239,0,none⟩) (Kd.S_types HO_253002.out BK239.out Z330) (fun _ hk => hk.2) (.slice Ao8 t240.length co8)) (fun _ hk => hk.2) (.string t243)) (fun _ hk => hk.2) (.slice Ao12 t244.length co12)) (fun _ hk => hk.2) (.slice (some ⟨go84,0,none⟩) t247.length co13)) (fun _ hk => hk.1),by (with_reducible repeat (first | apply Kd.R_alloc | apply Kd.R_drewN | apply Kd.R_drew));exact Kd.R_mono (Kd.R_far (p := ⟨gb239,3,none⟩) (Kd.R_far (p := ⟨gb239,2,none⟩) (Kd.R_far (p := ⟨gb239,1,none⟩) (Kd.R_far (p := ⟨gb239,0,none⟩) (Kd.R_types HO_253003.out BK239.out Z330) (fun _ hk => hk.2) (.slice Ao8 t240.length co8)) (fun _ hk => hk.2) (.string t243)) (fun _ hk => hk.2) (.slice Ao12 t244.length co12)) (fun _ hk => hk.2) (.slice (some ⟨go84,0,none⟩) t247.length co13)) (fun _ hk => trivial),Z64,Z71,Z263⟩
   rw [if_neg c80] at H
   have c80b0 : (x13_3 == 4) = false := beq_eq_false_iff_ne.mpr c80
   have c80b1 : (x13_3 != 4) = true := bne_iff_ne.mpr c80
   by_cases c94 : x13_3 = 5
   ·rw [if_pos c94] at H
    have c94b0 : (x13_3 == 5) = true := beq_iff_eq.mpr c94
    have c94b1 : (x13_3 != 5) = false := bne_eq_false_iff_eq.mpr c94
    clear c94
    obtain ⟨c95,H⟩ := ifp H
    have LMc95 := Aside0.mk c95
    clear c95
    obtain ⟨y291,hyy⟩ : ∃ y_ : List Int,y_ = (t247 ++ [1]) := ⟨_,rfl⟩
    replace H : (some (t240,t243,t244,y291,x1001_3,x1002_3)) = some (r1,r2,r3,r4,r5,r6) := zR
    have Ny291 := Aside0.mk hyy
    clear hyy
    simp only [Option.some.injEq,Prod.mk.injEq] at H
    obtain ⟨rfl,rfl,rfl,rfl,rfl,rfl⟩ := H
    have hnb96 := NB252_239.out
    have hnc96 := NB239_252.out
    have hnb97 := NB252_0.out
    have hnc97 := NB0_252.out
    obtain ⟨hcz98_0,hcz98_1,hcz98_2,hcz98_3,hfz98_0,hfz98_1,hfz98_2,hfz98_3⟩ := cells4 BK252.out
    go_wp2_with (first | ((with_reducible refine gate_builtin (b := .append) (xs := #[.tmp 63,.tmp 64]) rfl ?_);at_builtin;refine Kd.R_append (Kd.int .i64) w.heap.size rfl (.tmp 63) (.tmp 64) 26 3 (.int .i64 0) 8 rfl Try.underlying26 info3 rfl Z330 Z331 (.slice Ao13 t247.length co13) t247 1 [.int .i64 1] (fun _ => True) (fun _ => False) rfl rfl ?aP (fun _ hk => hk.elim) ?aF ?aO (Below.refl _ _) ?aS ?aL ?_;(case aP => exact rfl);(case aF => exact Z250);(case aO => exact Z172);(case aS => exact Z53);(case aL => have := LMc95.out;omega);intro vq1 wq2 ho hb hg hat;rw [← Ny291.out] at ho;have n_ := jA (Kd.R_over' Z173 (Kd.R_typed Z172) Z330 hg) (jA (Kd.S_after (ok := (fun _ => True)) (by (with_reducible repeat (first | apply Kd.S_alloc | apply Kd.S_drewN | apply Kd.S_drew));exact Kd.S_mono HO_253002.out (fun _ hk => ⟨trivial,hk⟩)) hg hat) (jA (blk_grown (g := gb239) (o := .cells #[.slice none 0 0,.string (⟨#[]⟩ : ByteArray),.slice none 0 0,.slice none 0 0] 28 (0,0)) Z242 hg (Kd.R_ne HO_253003.out BK239.out Z330)) (jA (blk_grown (g := gb252) (o := .cells #[.slice Ao8 t240.length co8,.string t243,.slice Ao12 t244.length co12,.slice Ao13 t247.length co13] 28 (0,0)) Z243 hg (Kd.R_ne HO_253003.out BK252.out Z330)) (jA (IsS53.grown Z45 hg (IsS53.own_ne HI0.out HO_253003.out Z330)) (jA (below_weaken Z71 HL.out hb) (jA (KeepBut.trans Z263 (KeepBut.of_grown hg g) (Kd.R_base2 HO_253003.out)) (Aside0.mk (ho))))))));clear HO_253000 HO_253002 BK239 BK252 HI0 HB HK HO_253003;obtain ⟨HO_253000,HO_253002,BK239,BK252,HI0,HB,HK,HO293⟩ := n_;clear ho hb hg hat;obtain ⟨Aoq3,coq3,eoq3⟩ := Kd.R_slice HO293.out;subst eoq3;obtain ⟨hczq4_0,hczq4_1,hczq4_2,hczq4_3,hfzq4_0,hfzq4_1,hfzq4_2,hfzq4_3⟩ := cells4 BK252.out;have hnbq5 := NB239_0.out;have hncq5 := NB0_239.out;obtain ⟨hczq6_0,hczq6_1,hczq6_2,hczq6_3,hfzq6_0,hfzq6_1,hfzq6_2,hfzq6_3⟩ := cells4 BK239.out))
    refine bodyPost_ret (results_cell_row rfl _ _ gb239 28 #[.slice Ao8 t240.length co8,.string t243,.slice Ao12 t244.length co12,.slice Aoq3 y291.length coq3] (0,0) _ rfl (by refine bP ?_;refine blk_put (cs := #[.slice Ao8 t240.length co8,.string t243,.slice Ao12 t244.length co12,.slice none 0 0]) ?_ 3 _ rfl;refine bP ?_;refine blk_put (cs := #[.slice Ao8 t240.length co8,.string t243,.slice none 0 0,.slice none 0 0]) ?_ 2 _ rfl;refine bP ?_;refine blk_put (cs := #[.slice Ao8 t240.length co8,.string (⟨#[]⟩ : ByteArray),.slice none 0 0,.slice none 0 0]) ?_ 1 _ rfl;refine bP ?_;refine blk_put (cs := #[.slice none 0 0,.string (⟨#[]⟩ : ByteArray),.slice none 0 0,.slice none 0 0]) ?_ 0 _ rfl;refine bP ?_;refine blk_far ?_ NB239_252.out _;refine bP ?_;exact BK239.out) Try.underlying28 rfl Z256) rfl ?_
    exact ⟨_,_,_,Z212,by (with_reducible repeat (first | apply Kd.R_alloc | apply Kd.R_drewN | apply Kd.R_drew));exact Kd.R_mono (Kd.R_far (p := ⟨gb239,3,none⟩) (Kd.R_far (p := ⟨gb239,2,none⟩) (Kd.R_far (p := ⟨gb239,1,none⟩) (Kd.R_far (p := ⟨gb239,0,none⟩) (Kd.R_far (p := ⟨gb252,3,none⟩) (Kd.R_types (Kd.R_types HO_253000.out BK252.out Z330) BK239.out Z330) (fun _ hk => hk.1.2) (.slice Aoq3 y291.length coq3)) (fun _ hk => hk.2) (.slice Ao8 t240.length co8)) (fun _ hk => hk.2) (.string t243)) (fun _ hk => hk.2) (.slice Ao12 t244.length co12)) (fun _ hk => hk.2) (.slice Aoq3 y291.length coq3)) (fun _ hk => trivial),by (with_reducible repeat (first | apply Kd.S_alloc | apply Kd.S_drewN | apply Kd.S_drew));exact Kd.S_mono (Kd.S_far (p := ⟨gb239,3,none⟩) (Kd.S_far (p := ⟨gb239,2,none⟩) (Kd.S_far (p := ⟨gb239,1,none⟩) (Kd.S_far (p := ⟨gb239,0,none⟩) (Kd.S_far (p := ⟨gb252,3,none⟩) (Kd.S_types (Kd.S_types HO_253002.out BK252.out Z330) BK239.out Z330) (fun _ hk => hk.1.2) (.slice Aoq3 y291.length coq3)) (fun _ hk => hk.2) (.slice Ao8 t240.length co8)) (fun _ hk => hk.2) (.string t243)) (fun _ hk => hk.2) (.slice Ao12 t244.length co12)) (fun _ hk => hk.2) (.slice Aoq3 y291.length coq3)) (fun _ hk => hk.1.1.2),by (with_reducible repeat (first | apply Kd.R_alloc | apply Kd.R_drewN | apply Kd.R_drew));exact Kd.R_mono (Kd.R_far (p := ⟨gb239,3,none⟩) (Kd.R_far (p := ⟨gb239,2,none⟩) (Kd.R_far (p := ⟨gb239,1,none⟩) (Kd.R_far (p := ⟨gb239,0,none⟩) (Kd.R_far (p := ⟨gb252,3,none⟩) (Kd.R_types (Kd.R_types HO293.out BK252.out Z330) BK239.out Z330) (fun _ hk => hk.1.2) (.slice Aoq3 y291.length coq3)) (fun _ hk => hk.2) (.slice Ao8 t240.length co8)) (fun _ hk => hk.2) (.string t243)) (fun _ hk => hk.2) (.slice Ao12 t244.length co12)) (fun _ hk => hk.2) (.slice Aoq3 y291.length coq3)) (fun _ hk => trivial),Z64,Z71,Z263⟩
   rw [if_neg c94] at H
   have c94b0 : (x13_3 == 5) = false := beq_eq_false_iff_ne.mpr c94
   have c94b1 : (x13_3 != 5) = true := bne_iff_ne.mpr c94
   by_cases c104 : x13_3 = 6
   ·rw [if_pos c104] at H
    have c104b0 : (x13_3 == 6) = true := beq_iff_eq.mpr c104
    have c104b1 : (x13_3 != 6) = false := bne_eq_false_iff_eq.mpr c104
    clear c104
    obtain ⟨y294,hyy⟩ : ∃ y_ : List Int,y_ = (([] : List Int)) := ⟨_,rfl⟩
    replace H : (if 0 ≤ t253 then (if t253 < (t244.length : Int) then (some (t240,t243,(t244.set (t253 : Int).toNat y294),t247,x1001_3,x1002_3)) else (none)) else (none)) = some (r1,r2,r3,r4,r5,r6) := zR
    have Ny294 := Aside0.mk hyy
    clear hyy
    obtain ⟨c105,H⟩ := ifp H
    have c105b0 : decide (0 ≤ t253) = true := decide_eq_true c105
    clear c105
    obtain ⟨c106,H⟩ := ifp H
    have c106b0 : decide (t253 < (t244.length : Int)) = true := decide_eq_true c106
    clear c106
    obtain ⟨y297,hyy⟩ : ∃ y_ : List (List Int),y_ = (t244.set (t253 : Int).toNat y294) := ⟨_,rfl⟩
    replace H : (some (t240,t243,y297,t247,x1001_3,x1002_3)) = some (r1,r2,r3,r4,r5,r6) := zR
    have Ny297 := Aside0.mk hyy
    clear hyy
    simp only [Option.some.injEq,Prod.mk.injEq] at H
    obtain ⟨rfl,rfl,rfl,rfl,rfl,rfl⟩ := H
    have hnb108 := NB252_239.out
    have hnc108 := NB239_252.out
    have hnb109 := NB252_0.out
    have hnc109 := NB0_252.out
    obtain ⟨hcz110_0,hcz110_1,hcz110_2,hcz110_3,hfz110_0,hfz110_1,hfz110_2,hfz110_3⟩ := cells4 BK252.out
    go_wp2_with (first | ((with_reducible refine gate_dst (N := 72) rfl ?_);refine Kd.R_lit (Kd.int .i64) _ 3 ?hg (N := 72) ?hd (xs := ([] : List Int)) (inner := []) (ok := fun _ => True) (okp := fun _ => True) ?hr ?hp (fun _ hk => hk) trivial (Below.refl _ _) (Nat.le_refl _) Z332 ?_;(case hd => rfl);(case hg => rfl);(case hr => exact Z231);(case hp => exact Z252);intro vq1 wq2 hoq3 hb hg_ hnew_;clear hg_ hnew_;(first | rw [← Ny294.out] at hoq3 | (simp only [Int.reduceToNat] at hoq3;rw [← Ny294.out] at hoq3));have n_ := jA (Kd.R_below Z173 hb) (jA (Kd.S_elder' Z175 (Kd.R_base hoq3) hb) (jA (Kd.R_elder' Z172 (Kd.R_base hoq3) hb) (jA (Kd.R_lower (Kd.R_new' hoq3 (Kd.R_lt Z172)) (keep_size (w := w) (g := g) (row := none) Z263)) (jA (blk_below (g := gb239) (o := .cells #[.slice none 0 0,.string (⟨#[]⟩ : ByteArray),.slice none 0 0,.slice none 0 0] 28 (0,0)) Z242 hb) (jA (blk_below (g := gb252) (o := .cells #[.slice Ao8 t240.length co8,.string t243,.slice Ao12 t244.length co12,.slice Ao13 t247.length co13] 28 (0,0)) Z243 hb) (jA (IsS53.below Z64 hb) (jA (KeepBut.trans Z263 (KeepBut.of_below hb g none) (.inl rfl)) (Aside0.mk (below_step Z71 hb)))))))));clear HO_253000 HO_253002 HO_253003 BK239 BK252 HI0 HK HB;obtain ⟨HO_253000,HO_253002,HO_253003,HO296,BK239,BK252,HI0,HK,HB⟩ := n_;clear hb hoq3;have pq4 : 0 ≤ (t253 : Int) := of_decide_eq_true Z229;have qq4 : (t253 : Int) < ((t244.length : Int) : Int) := of_decide_eq_true Z229;obtain ⟨goq4,coq4,eoq4,gb107,glq4,clq4,HGq4⟩ := Kd.S_form HO_253002.out Z331;(first | cases eoq4 | (injection eoq4 with ea_ en_ ec_;(first | subst ea_ | (injection ea_ with ea_;subst ea_));subst ec_;clear en_));have GBq4 := Aside0.mk gb107;have GGq4 := Aside0.mk HGq4;clear gb107 glq4 HGq4;obtain ⟨_,ceq4,hclq4,hMq4,hccq4,hfrq4,_,_⟩ := Kd.S_elem HO_253002.out [] (t253 : Int) pq4 qq4;obtain ⟨veq4_0,rfl,geq4_0⟩ := hMq4;have hxq4_0 := hccq4 0 _ rfl;have hfq4_0 := hfrq4 0;(try simp only [show ((Kd.slice 3 (Kd.int .i64))).sz = 1 from rfl,Nat.mul_one,Nat.add_zero] at hxq4_0);(try simp only [show ((Kd.slice 3 (Kd.int .i64))).sz = 1 from rfl,Nat.mul_one,Nat.add_zero] at hfq4_0);(try clear hclq4);(try clear hccq4);(try clear hfrq4);(try clear hMq4);replace pq4 := eq_true pq4;replace qq4 := eq_true qq4;have HXq5 := Aside0.mk (show Kd.S (Kd.slice 3 (Kd.int .i64)) 26 wq2 w.heap.size (fun k_ => ((fun k_ => some k_ ≠ (.slice Ao13 t247.length co13 : Value).ownBlock)) k_ ∧ ¬ ((fun k_ => some k_ = (vq1 : Value).ownBlock)) k_) (.slice (some ⟨goq4,0,none⟩) t244.length co12) t244 from Z126);obtain ⟨okiq5,ceq5,hclq5,hMq5,hccq5,hfrq5,hokiq5,hHq5⟩ := Kd.S_elem HXq5.out [] (t253 : Int) (of_decide_eq_true Z229) (by have h_ : (t253 : Int) < ((t244.length : Int) : Int) := of_decide_eq_true Z229;first | exact h_ | (have e_ := (Kd.S_reads' HO_253002.out).1;omega) | simpa using h_);obtain ⟨veq5_0,rfl,geq5_0⟩ := hMq5;have HPq5 := Kd.S_seg hHq5 (of_decide_eq_true Z229) (by have h_ : (t253 : Int) < ((t244.length : Int) : Int) := of_decide_eq_true Z229;first | exact h_ | (have e_ := (Kd.S_reads' HO_253002.out).1;omega) | simpa using h_) (seg := [vq1]) (j := 0) (show 1 ≤ 1 from Z330) (x' := y294) (Kd.M_row (Kd.R_mono (Kd.R_tight rfl (Kd.R_mono (ok' := fun k_ => ((fun k_ => some k_ ≠ (.slice Ao13 t247.length co13 : Value).ownBlock)) k_ ∧ k_ ≠ goq4) (Kd.R_apart' (HO296.out) (Kd.S_typed HO_253002.out) Z330) (fun k_ hk => ⟨hk.1.2,fun e_ => (hk.2) Z255⟩))) (fun _ h_ => Or.inr (h_)))) (fun _ hk => hk) (fun k_ hk_ => ((Kd.R_mono (ok' := fun k_ => ((fun k_ => some k_ ≠ (.slice Ao13 t247.length co13 : Value).ownBlock)) k_ ∧ k_ ≠ goq4) (Kd.R_apart' (HO296.out) (Kd.S_typed HO_253002.out) Z330) (fun k_ hk => ⟨hk.1.2,fun e_ => (hk.2) Z255⟩))).1 k_ hk_.symm);have hxq5_0 := hccq5 0 _ rfl;(try simp only [show ((Kd.slice 3 (Kd.int .i64))).sz = 1 from rfl,Nat.mul_one,Nat.add_zero] at hxq5_0);have hfq5_0 := hfrq5 0;(try simp only [show ((Kd.slice 3 (Kd.int .i64))).sz = 1 from rfl,Nat.mul_one,Nat.add_zero] at hfq5_0);(try clear hclq5);(try clear hccq5);(try clear hfrq5);(try clear hMq5);(try clear hokiq5);(try clear hHq5);(try simp only [show ((Kd.slice 3 (Kd.int .i64))).sz = 1 from rfl,Nat.mul_one,Nat.add_zero] at HPq5)) | ((with_reducible refine gate_store (t := 26) (p := 73) rfl ?_);refine store_event (t := 26) (p := 73) (v := ?vo_w114) (w1 := (wq2.setCell ⟨goq4,(t253 : Int).toNat,none⟩ (vq1))) ?hg ?ho ?hn ?hr ?_;(case ho => rfl);(case hg => rfl);(case hn => rfl);(case hr => first | (go_simp;done) | (go_simp;rfl) | (obtain ⟨A_0,c_0,e_q6⟩ := Kd.R_slice HO296.out;rw [e_q6];first | (go_simp;done) | (go_simp;rfl)));intro wq7 hw;have hg : wq2.grownBy wq7 (some goq4) := (by rw [hw];exact HPq5.2);have hp_ : Kd.S (Kd.slice 3 (Kd.int .i64)) 26 wq7 w.heap.size (fun k_ => some k_ ≠ (.slice Ao13 t247.length co13 : Value).ownBlock) (.slice (some ⟨goq4,0,none⟩) t244.length co12) y297 := (by rw [hw,Ny297.out];exact HPq5.1);clear HPq5;have n_ := jA (Kd.R_over' (v := (.slice (some ⟨goq4,0,none⟩) t244.length co12)) Z173 (Kd.S_typed HO_253002.out) Z330 hg) (jA (hp_) (jA (Kd.R_over' (v := (.slice (some ⟨goq4,0,none⟩) t244.length co12)) Z172 (Kd.S_typed HO_253002.out) Z330 hg) (jA (blk_grown (g := gb239) (o := .cells #[.slice none 0 0,.string (⟨#[]⟩ : ByteArray),.slice none 0 0,.slice none 0 0] 28 (0,0)) Z242 hg (Kd.S_ne HO_253002.out BK239.out Z330)) (jA (blk_grown (g := gb252) (o := .cells #[.slice Ao8 t240.length co8,.string t243,.slice (some ⟨goq4,0,none⟩) t244.length co12,.slice Ao13 t247.length co13] 28 (0,0)) Z243 hg (Kd.S_ne HO_253002.out BK252.out Z330)) (jA (IsS53.grown Z45 hg (IsS53.own_neS HI0.out HO_253002.out Z330)) (jA ((by rw [hw];exact below_set (HB.out) (Nat.le_trans HL.out GBq4.out) : Below w0.heap.size w0 wq7)) (Aside0.mk (KeepBut.trans Z263 (KeepBut.of_grown hg g) (Kd.S_base2 HO_253002.out)))))))));clear HO_253000 HO_253002 HO_253003 BK239 BK252 HI0 HB HK HO296;obtain ⟨HO_253000,HO_253002,HO_253003,BK239,BK252,HI0,HB,HK⟩ := n_;clear hg hw hp_;obtain ⟨hczq8_0,hczq8_1,hczq8_2,hczq8_3,hfzq8_0,hfzq8_1,hfzq8_2,hfzq8_3⟩ := cells4 BK252.out;have hnbq9 := NB239_0.out;have hncq9 := NB0_239.out;obtain ⟨hczq10_0,hczq10_1,hczq10_2,hczq10_3,hfzq10_0,hfzq10_1,hfzq10_2,hfzq10_3⟩ := cells4 BK239.out))
    refine bodyPost_ret (results_cell_row rfl _ _ gb239 28 #[.slice Ao8 t240.length co8,.string t243,.slice (some ⟨goq4,0,none⟩) t244.length co12,.slice Ao13 t247.length co13] (0,0) _ rfl (by refine bP ?_;refine blk_put (cs := #[.slice Ao8 t240.length co8,.string t243,.slice (some ⟨goq4,0,none⟩) t244.length co12,.slice none 0 0]) ?_ 3 _ rfl;refine bP ?_;refine blk_put (cs := #[.slice Ao8 t240.length co8,.string t243,.slice none 0 0,.slice none 0 0]) ?_ 2 _ rfl;refine bP ?_;refine blk_put (cs := #[.slice Ao8 t240.length co8,.string (⟨#[]⟩ : ByteArray),.slice none 0 0,.slice none 0 0]) ?_ 1 _ rfl;refine bP ?_;refine blk_put (cs := #[.slice none 0 0,.string (⟨#[]⟩ : ByteArray),.slice none 0 0,.slice none 0 0]) ?_ 0 _ rfl;refine bP ?_;exact BK239.out) Try.underlying28 rfl Z256) rfl ?_
    exact ⟨_,_,_,Z212,by (with_reducible repeat (first | apply Kd.R_alloc | apply Kd.R_drewN | apply Kd.R_drew));exact Kd.R_mono (Kd.R_far (p := ⟨gb239,3,none⟩) (Kd.R_far (p := ⟨gb239,2,none⟩) (Kd.R_far (p := ⟨gb239,1,none⟩) (Kd.R_far (p := ⟨gb239,0,none⟩) (Kd.R_types HO_253000.out BK239.out Z330) (fun _ hk => hk.2) (.slice Ao8 t240.length co8)) (fun _ hk => hk.2) (.string t243)) (fun _ hk => hk.2) (.slice (some ⟨goq4,0,none⟩) t244.length co12)) (fun _ hk => hk.2) (.slice Ao13 t247.length co13)) (fun _ hk => trivial),by (with_reducible repeat (first | apply Kd.S_alloc | apply Kd.S_drewN | apply Kd.S_drew));exact Kd.S_mono (Kd.S_far (p := ⟨gb239,3,none⟩) (Kd.S_far (p := ⟨gb239,2,none⟩) (Kd.S_far (p := ⟨gb239,1,none⟩) (Kd.S_far (p := ⟨gb239,0,none⟩) (Kd.S_types HO_253002.out BK239.out Z330) (fun _ hk => hk.2) (.slice Ao8 t240.length co8)) (fun _ hk => hk.2) (.string t243)) (fun _ hk => hk.2) (.slice (some ⟨goq4,0,none⟩) t244.length co12)) (fun _ hk => hk.2) (.slice Ao13 t247.length co13)) (fun _ hk => hk.1),by (with_reducible repeat (first | apply Kd.R_alloc | apply Kd.R_drewN | apply Kd.R_drew));exact Kd.R_mono (Kd.R_far (p := ⟨gb239,3,none⟩) (Kd.R_far (p := ⟨gb239,2,none⟩) (Kd.R_far (p := ⟨gb239,1,none⟩) (Kd.R_far (p := ⟨gb239,0,none⟩) (Kd.R_types HO_253003.out BK239.out Z330) (fun _ hk => hk.2) (.slice Ao8 t240.length co8)) (fun _ hk => hk.2) (.string t243)) (fun _ hk => hk.2) (.slice (some ⟨goq4,0,none⟩) t244.length co12)) (fun _ hk => hk.2) (.slice Ao13 t247.length co13)) (fun _ hk => trivial),Z64,Z71,Z263⟩
   rw [if_neg c104] at H
   have c104b0 : (x13_3 == 6) = false := beq_eq_false_iff_ne.mpr c104
   have c104b1 : (x13_3 != 6) = true := bne_iff_ne.mpr c104
   by_cases c118 : x13_3 = 7
   rotate_left
   ·rw [if_neg c118] at H
    have c118b0 : (x13_3 == 7) = false := beq_eq_false_iff_ne.mpr c118
    have c118b1 : (x13_3 != 7) = true := bne_iff_ne.mpr c118
    simp only [Option.some.injEq,Prod.mk.injEq] at H
    obtain ⟨rfl,rfl,rfl,rfl,rfl,rfl⟩ := H
    have hnb151 := NB252_239.out
    have hnc151 := NB239_252.out
    have hnb152 := NB252_0.out
    have hnc152 := NB0_252.out
    obtain ⟨hcz153_0,hcz153_1,hcz153_2,hcz153_3,hfz153_0,hfz153_1,hfz153_2,hfz153_3⟩ := cells4 BK252.out
    have hnb154 := NB239_0.out
    have hnc154 := NB0_239.out
    obtain ⟨hcz155_0,hcz155_1,hcz155_2,hcz155_3,hfz155_0,hfz155_1,hfz155_2,hfz155_3⟩ := cells4 BK239.out
    go_wp2
    refine bodyPost_ret (results_cell_row rfl _ _ gb239 28 #[.slice Ao8 t240.length co8,.string t243,.slice Ao12 t244.length co12,.slice Ao13 t247.length co13] (0,0) _ rfl Z26 Try.underlying28 rfl Z256) rfl ?_
    exact ⟨_,_,_,Z212,by (with_reducible repeat (first | apply Kd.R_alloc | apply Kd.R_drewN | apply Kd.R_drew));exact Kd.R_mono (Kd.R_far (p := ⟨gb239,3,none⟩) (Kd.R_far (p := ⟨gb239,2,none⟩) (Kd.R_far (p := ⟨gb239,1,none⟩) (Kd.R_far (p := ⟨gb239,0,none⟩) (Kd.R_types HO_253000.out BK239.out Z330) (fun _ hk => hk.2) (.slice Ao8 t240.length co8)) (fun _ hk => hk.2) (.string t243)) (fun _ hk => hk.2) (.slice Ao12 t244.length co12)) (fun _ hk => hk.2) (.slice Ao13 t247.length co13)) (fun _ hk => trivial),by (with_reducible repeat (first | apply Kd.S_alloc | apply Kd.S_drewN | apply Kd.S_drew));exact Kd.S_mono (Kd.S_far (p := ⟨gb239,3,none⟩) (Kd.S_far (p := ⟨gb239,2,none⟩) (Kd.S_far (p := ⟨gb239,1,none⟩) (Kd.S_far (p := ⟨gb239,0,none⟩) (Kd.S_types HO_253002.out BK239.out Z330) (fun _ hk => hk.2) (.slice Ao8 t240.length co8)) (fun _ hk => hk.2) (.string t243)) (fun _ hk => hk.2) (.slice Ao12 t244.length co12)) (fun _ hk => hk.2) (.slice Ao13 t247.length co13)) (fun _ hk => hk.1),by (with_reducible repeat (first | apply Kd.R_alloc | apply Kd.R_drewN | apply Kd.R_drew));exact Kd.R_mono (Kd.R_far (p := ⟨gb239,3,none⟩) (Kd.R_far (p := ⟨gb239,2,none⟩) (Kd.R_far (p := ⟨gb239,1,none⟩) (Kd.R_far (p := ⟨gb239,0,none⟩) (Kd.R_types HO_253003.out BK239.out Z330) (fun _ hk => hk.2) (.slice Ao8 t240.length co8)) (fun _ hk => hk.2) (.string t243)) (fun _ hk => hk.2) (.slice Ao12 t244.length co12)) (fun _ hk => hk.2) (.slice Ao13 t247.length co13)) (fun _ hk => trivial),Z64,Z71,Z263⟩
   rw [if_pos c118] at H
   have c118b0 : (x13_3 == 7) = true := beq_iff_eq.mpr c118
   have c118b1 : (x13_3 != 7) = false := bne_eq_false_iff_eq.mpr c118
   clear c118
   have H' := Aside0.mk H
   clear H
   go_wp2
   go_loopg [] kj3 (fun kq w' => ∃ (x1001_2 : Int) (x1002_2 : Int) (x253002_2 : List (List Int)) (x253003_2 : List Int) (u253002 : Value) (u253003 : Value),Aside0 (spec_l9Bent.l0 kq s0_0 x1001_2 x1002_2 t240 t243 x253002_2 x253003_2 = some (r1,r2,r3,r4,r5,r6)) ∧ Aside0 (kq ≤ kj3) ∧ Aside0 (Kd.R Kd.string 9 w' w.heap.size (fun _ => True) (.slice Ao8 t240.length co8) t240) ∧ Aside0 (Kd.S (Kd.slice 3 (Kd.int .i64)) 26 w' w.heap.size (fun k_ => some k_ ≠ (u253003 : Value).ownBlock) u253002 x253002_2) ∧ Aside0 (Kd.R (Kd.int .i64) 3 w' w.heap.size (fun _ => True) u253003 x253003_2) ∧ Aside0 (w'.heap[gb239]? = some (.cells #[(.slice none 0 0),.string (⟨#[]⟩ : ByteArray),(.slice none 0 0),(.slice none 0 0)] 28 (0,0))) ∧ Aside0 (w'.heap[gb252]? = some (.cells #[(.slice Ao8 t240.length co8),.string t243,u253002,u253003] 28 (0,0))) ∧ Aside0 (IsS53 w0 w' g s0_0 x1001_2 x1002_2) ∧ Aside0 (KeepBut w w' g none) ∧ Aside0 (Below w0.heap.size w0 w'))
   case atStart => exact ⟨(x1001_3),(x1002_3),(t244),(t247),(.slice Ao12 t244.length co12),(.slice Ao13 t247.length co13),H',⟨Nat.le_refl _⟩,⟨Z173⟩,⟨Z175⟩,⟨Z172⟩,⟨Z242⟩,⟨Z243⟩,⟨Z64⟩,⟨Z263⟩,⟨Z71⟩⟩
   case round =>
    clear H'
    try clear c1
    try clear p1
    try clear q1
    try clear hx1
    try clear hf1
    try clear c2
    try clear p2
    try clear q2
    try clear hx2
    try clear c3
    try clear c6
    try clear p6
    try clear q6
    try clear hx6
    try clear qi6
    try clear hf6
    try clear c7
    try clear q7
    try clear c8
    try clear p8
    try clear q8
    try clear hx8
    try clear hf8
    try clear c9
    try clear c10
    try clear p10
    try clear q10
    try clear hx10
    try clear hf10
    try clear c11
    try clear hx11
    try clear hf11
    try clear c16
    try clear c27
    try clear p27
    try clear q27
    try clear hx27
    try clear c39
    try clear c61
    try clear c61b0
    try clear c61b1
    try clear c62
    try clear c63
    try clear c65
    try clear p66
    try clear q66
    try clear hx66
    try clear qi66
    try clear hf66
    try clear c72
    try clear q72
    try clear c75
    try clear c76
    try clear c78
    try clear c80
    try clear c80b0
    try clear c80b1
    try clear c82
    try clear c82b0
    try clear c83
    try clear c83b0
    try clear p84
    try clear q84
    try clear hx84
    try clear hf84
    try clear c89
    try clear c90
    try clear c92
    try clear c94
    try clear c94b0
    try clear c94b1
    try clear c95
    try clear c96
    try clear c97
    try clear c102
    try clear c104
    try clear c104b0
    try clear c104b1
    try clear c105
    try clear c105b0
    try clear c106
    try clear c106b0
    try clear c107
    try clear p107
    try clear q107
    try clear hx107
    try clear hf107
    try clear c108
    try clear c109
    try clear c113
    try clear hx113
    try clear hf113
    try clear c116
    try clear c118
    try clear c118b0
    try clear c118b1
    try clear hx107_0
    try clear hx113_0
    try clear hx277_0
    try clear hx66_0
    try clear hx84_0
    try clear p107
    try clear p277
    try clear p66
    try clear p84
    try clear q107
    try clear q277
    try clear q66
    try clear q84
    obtain ⟨x1001_2,x1002_2,x253002_2,x253003_2,u253002,u253003,HA,HK2,HO_253000,HO_253002,HO_253003,BK239,BK252,HI0,HK,HB⟩ := hrel
    cases gk with
    | zero => exact absurd HA.out (by simp [spec_l9Bent.l0])
    | succ k2 =>
     have H := HA.out
     clear HA
     simp only [spec_l9Bent.l0] at H
     obtain ⟨⟨t298,t299,t300⟩,A1190,H⟩ := Option.bind_eq_some_iff.mp H
     try dsimp only at H
     have A119 := Aside0.mk A1190
     clear A1190
     by_cases c120 : (x253002_2.length : Int) < (wrap64 (40 + t298))
     rotate_left
     ·rw [if_neg c120] at H
      have c120b0 : decide ((x253002_2.length : Int) < (wrap64 (40 + t298))) = false := decide_eq_false c120
      clear c120
      simp only [Option.some.injEq,Prod.mk.injEq] at H
      obtain ⟨rfl,rfl,rfl,rfl,rfl,rfl⟩ := H
      try go_wp2
      have n_ := jA (Kd.R_drew HO_253000.out) (jA (Kd.S_drew HO_253002.out) (jA (Kd.R_drew HO_253003.out) (jA (blk_drew BK239.out) (jA (blk_drew BK252.out) (jA (IsS53.drew HI0.out) (jA (keep_drew HK.out) (Aside0.mk (below_drew1 HB.out))))))))
      clear HO_253000 HO_253002 HO_253003 BK239 BK252 HI0 HK HB
      obtain ⟨HO_253000,HO_253002,HO_253003,BK239,BK252,HI0,HK,HB⟩ := n_
      obtain ⟨Ao143,co143,eo143⟩ := Kd.S_slice HO_253002.out
      (first | subst eo143 | (injection eo143 with f1_ f2_ f3_;have f4_ := f1_.symm;have f5_ := f3_.symm;clear f1_ f2_ f3_;subst f4_;subst f5_))
      refine start_ (n := 7) (S := fun w' => w'.cell? ⟨gb252,0,none⟩ = some (.slice Ao8 t240.length co8) ∧ w'.cell? ⟨gb252,1,none⟩ = some (.string t243) ∧ w'.cell? ⟨gb252,2,none⟩ = some (.slice Ao143 x253002_2.length co143) ∧ w'.cell? ⟨gb252,3,none⟩ = some (u253003)) (ds := []) (qM 7 0) Z256 rfl (by kernel_rfl) ⟨bc BK252 0,bc BK252 1,bc BK252 2,bc BK252 3⟩ (fun hHeld => ?_)
      generalize wr.drew = w142 at HO_253000 HO_253002 HO_253003 BK239 BK252 HI0 HK HB hHeld ⊢
      refine sP 0 76 7 1 (h := ?_)
      refine sP 3 79 7 9 (h := ?_)
      refine sT4 1 77 7 11 hHeld (h := ?_)
      refine sP 2 78 7 15 (h := ?_)
      refine sO 4 80 7 31 (h := fun K hK => ?_)
      refine goes_ Try.func37 Z256 rfl #[.pointer (some ⟨g,0,none⟩),.int .i64 2] Z257 rfl rfl Z159 ?_
      with_reducible refine (spec_l1Below.calls g s0_0 x1001_2 x1002_2 2 t298 t299 t300 w0 _ ?side1 ?side2 A119.out).mono ?_
      (case side1 => exact Z64)
      (case side2 => exact Z71)
      rintro e w144 ⟨rfl,hi,hb,hk⟩
      refine ⟨_,rfl,?_⟩
      have n_ := jA (Kd.R_mono (Kd.R_keep (IsS53.apart (show IsS53 w0 _ g s0_0 x1001_2 x1002_2 from Z64) Z173 Z330) hk (fun _ h => h.2)) (fun _ h => h.1)) (jA (Kd.S_mono (Kd.S_keep (IsS53.apartS (show IsS53 w0 _ g s0_0 x1001_2 x1002_2 from Z64) Z175 Z330) hk (fun _ h => h.2)) (fun _ h => h.1)) (jA (Kd.R_mono (Kd.R_keep (IsS53.apart (show IsS53 w0 _ g s0_0 x1001_2 x1002_2 from Z64) Z172 Z330) hk (fun _ h => h.2)) (fun _ h => h.1)) (jA (KeepBut.blk hk (g' := gb239) (o := .cells #[.slice none 0 0,.string (⟨#[]⟩ : ByteArray),.slice none 0 0,.slice none 0 0] 28 (0,0)) Z242 NB239_0.out Z332) (jA (KeepBut.blk hk (g' := gb252) (o := .cells #[.slice Ao8 t240.length co8,.string t243,.slice Ao143 x253002_2.length co143,u253003] 28 (0,0)) Z243 NB252_0.out Z332) (jA (KeepBut.trans Z263 hk (.inl rfl)) (jA (hb) (Aside0.mk (hi))))))))
      clear HO_253000 HO_253002 HO_253003 BK239 BK252 HK HB HI0
      obtain ⟨HO_253000,HO_253002,HO_253003,BK239,BK252,HK,HB,HI0⟩ := n_
      (try clear hb)
      (try clear hb2)
      (try clear hk)
      (try clear hi)
      refine hK.out _ _ ⟨bc BK252 0,bc BK252 1,bc BK252 2,bc BK252 3⟩ (fun hHeld => ?_)
      clear hK K
      refine rN (h := ?_)
      refine sP 5 81 7 63 (h := ?_)
      refine sP 6 82 7 127 (h := ?_)
      refine done_ Z256 ?_
      have hnb145 := NB252_239.out
      have hnc145 := NB239_252.out
      have hnb146 := NB252_0.out
      have hnc146 := NB0_252.out
      obtain ⟨hcz147_0,hcz147_1,hcz147_2,hcz147_3,hfz147_0,hfz147_1,hfz147_2,hfz147_3⟩ := cells4 BK252.out
      have hnb148 := NB239_0.out
      have hnc148 := NB0_239.out
      obtain ⟨hcz149_0,hcz149_1,hcz149_2,hcz149_3,hfz149_0,hfz149_1,hfz149_2,hfz149_3⟩ := cells4 BK239.out
      obtain ⟨Ao150,co150,eo150⟩ := Kd.R_slice HO_253003.out
      subst eo150
      try go_wp2
      refine bodyPost_ret (results_cell_row rfl _ _ gb239 28 #[.slice Ao8 t240.length co8,.string t243,.slice Ao143 x253002_2.length co143,.slice Ao150 x253003_2.length co150] (0,0) _ rfl (by refine bP ?_;refine blk_put (cs := #[.slice Ao8 t240.length co8,.string t243,.slice Ao143 x253002_2.length co143,.slice none 0 0]) ?_ 3 _ rfl;refine bP ?_;refine blk_put (cs := #[.slice Ao8 t240.length co8,.string t243,.slice none 0 0,.slice none 0 0]) ?_ 2 _ rfl;refine bP ?_;refine blk_put (cs := #[.slice Ao8 t240.length co8,.string (⟨#[]⟩ : ByteArray),.slice none 0 0,.slice none 0 0]) ?_ 1 _ rfl;refine bP ?_;refine blk_put (cs := #[.slice none 0 0,.string (⟨#[]⟩ : ByteArray),.slice none 0 0,.slice none 0 0]) ?_ 0 _ rfl;refine bP ?_;exact BK239.out) Try.underlying28 rfl Z256) rfl ?_
      exact ⟨_,_,_,Z212,by (with_reducible repeat (first | apply Kd.R_alloc | apply Kd.R_drewN | apply Kd.R_drew));exact Kd.R_mono (Kd.R_far (p := ⟨gb239,3,none⟩) (Kd.R_far (p := ⟨gb239,2,none⟩) (Kd.R_far (p := ⟨gb239,1,none⟩) (Kd.R_far (p := ⟨gb239,0,none⟩) (Kd.R_types HO_253000.out BK239.out Z330) (fun _ hk => hk.2) (.slice Ao8 t240.length co8)) (fun _ hk => hk.2) (.string t243)) (fun _ hk => hk.2) (.slice Ao143 x253002_2.length co143)) (fun _ hk => hk.2) (.slice Ao150 x253003_2.length co150)) (fun _ hk => trivial),by (with_reducible repeat (first | apply Kd.S_alloc | apply Kd.S_drewN | apply Kd.S_drew));exact Kd.S_mono (Kd.S_far (p := ⟨gb239,3,none⟩) (Kd.S_far (p := ⟨gb239,2,none⟩) (Kd.S_far (p := ⟨gb239,1,none⟩) (Kd.S_far (p := ⟨gb239,0,none⟩) (Kd.S_types HO_253002.out BK239.out Z330) (fun _ hk => hk.2) (.slice Ao8 t240.length co8)) (fun _ hk => hk.2) (.string t243)) (fun _ hk => hk.2) (.slice Ao143 x253002_2.length co143)) (fun _ hk => hk.2) (.slice Ao150 x253003_2.length co150)) (fun _ hk => hk.1),by (with_reducible repeat (first | apply Kd.R_alloc | apply Kd.R_drewN | apply Kd.R_drew));exact Kd.R_mono (Kd.R_far (p := ⟨gb239,3,none⟩) (Kd.R_far (p := ⟨gb239,2,none⟩) (Kd.R_far (p := ⟨gb239,1,none⟩) (Kd.R_far (p := ⟨gb239,0,none⟩) (Kd.R_types HO_253003.out BK239.out Z330) (fun _ hk => hk.2) (.slice Ao8 t240.length co8)) (fun _ hk => hk.2) (.string t243)) (fun _ hk => hk.2) (.slice Ao143 x253002_2.length co143)) (fun _ hk => hk.2) (.slice Ao150 x253003_2.length co150)) (fun _ hk => trivial),Z64,Z71,Z263⟩
     rw [if_pos c120] at H
     have c120b0 : decide ((x253002_2.length : Int) < (wrap64 (40 + t298))) = true := decide_eq_true c120
     clear c120
     obtain ⟨y301,hyy⟩ : ∃ y_ : List Int,y_ = (([] : List Int)) := ⟨_,rfl⟩
     replace H : (if 0 < (x253002_2.length : Int) then (if y301.length + (rd_L3 x253002_2 0).length < 17592186044416 then (if x253002_2.length < 5864062014805 then (if x253003_2.length < 17592186044416 then (spec_l9Bent.l0 k2 s0_0 t299 t300 t240 t243 (x253002_2 ++ [(y301 ++ (rd_L3 x253002_2 0))]) (x253003_2 ++ [0])) else (none)) else (none)) else (none)) else (none)) = some (r1,r2,r3,r4,r5,r6) := zR
     have Ny301 := Aside0.mk hyy
     clear hyy
     obtain ⟨c121,H⟩ := ifp H
     have c121b0 : decide (0 < (x253002_2.length : Int)) = true := decide_eq_true c121
     have c121b1 : decide (0 < x253002_2.length) = true := decide_eq_true Z331
     clear c121
     obtain ⟨c122,H⟩ := ifp H
     have LMc122 := Aside0.mk c122
     clear c122
     obtain ⟨y305,hyy⟩ : ∃ y_ : List Int,y_ = (y301 ++ (rd_L3 x253002_2 0)) := ⟨_,rfl⟩
     replace H : (if x253002_2.length < 5864062014805 then (if x253003_2.length < 17592186044416 then (spec_l9Bent.l0 k2 s0_0 t299 t300 t240 t243 (x253002_2 ++ [y305]) (x253003_2 ++ [0])) else (none)) else (none)) = some (r1,r2,r3,r4,r5,r6) := zR
     have Ny305 := Aside0.mk hyy
     clear hyy
     obtain ⟨c123,H⟩ := ifp H
     have LMc123 := Aside0.mk c123
     clear c123
     obtain ⟨y308,hyy⟩ : ∃ y_ : List (List Int),y_ = (x253002_2 ++ [y305]) := ⟨_,rfl⟩
     replace H : (if x253003_2.length < 17592186044416 then (spec_l9Bent.l0 k2 s0_0 t299 t300 t240 t243 y308 (x253003_2 ++ [0])) else (none)) = some (r1,r2,r3,r4,r5,r6) := zR
     have Ny308 := Aside0.mk hyy
     clear hyy
     obtain ⟨c124,H⟩ := ifp H
     have LMc124 := Aside0.mk c124
     clear c124
     obtain ⟨y311,hyy⟩ : ∃ y_ : List Int,y_ = (x253003_2 ++ [0]) := ⟨_,rfl⟩
     replace H : (spec_l9Bent.l0 k2 s0_0 t299 t300 t240 t243 y308 y311) = some (r1,r2,r3,r4,r5,r6) := zR
     have Ny311 := Aside0.mk hyy
     clear hyy
     have H' := Aside0.mk H
     clear H
     try go_wp2
     have n_ := jA (Kd.R_drew HO_253000.out) (jA (Kd.S_drew HO_253002.out) (jA (Kd.R_drew HO_253003.out) (jA (blk_drew BK239.out) (jA (blk_drew BK252.out) (jA (IsS53.drew HI0.out) (jA (keep_drew HK.out) (Aside0.mk (below_drew1 HB.out))))))))
     clear HO_253000 HO_253002 HO_253003 BK239 BK252 HI0 HK HB
     obtain ⟨HO_253000,HO_253002,HO_253003,BK239,BK252,HI0,HK,HB⟩ := n_
     obtain ⟨Ao126,co126,eo126⟩ := Kd.S_slice HO_253002.out
     (first | subst eo126 | (injection eo126 with f1_ f2_ f3_;have f4_ := f1_.symm;have f5_ := f3_.symm;clear f1_ f2_ f3_;subst f4_;subst f5_))
     refine start_ (n := 7) (S := fun w' => w'.cell? ⟨gb252,0,none⟩ = some (.slice Ao8 t240.length co8) ∧ w'.cell? ⟨gb252,1,none⟩ = some (.string t243) ∧ w'.cell? ⟨gb252,2,none⟩ = some (.slice Ao126 x253002_2.length co126) ∧ w'.cell? ⟨gb252,3,none⟩ = some (u253003)) (ds := []) (qM 7 0) Z256 rfl (by kernel_rfl) ⟨bc BK252 0,bc BK252 1,bc BK252 2,bc BK252 3⟩ (fun hHeld => ?_)
     generalize wr.drew = w125 at HO_253000 HO_253002 HO_253003 BK239 BK252 HI0 HK HB hHeld ⊢
     refine sP 0 76 7 1 (h := ?_)
     refine sP 3 79 7 9 (h := ?_)
     refine sT4 1 77 7 11 hHeld (h := ?_)
     refine sP 2 78 7 15 (h := ?_)
     refine sO 4 80 7 31 (h := fun K hK => ?_)
     refine goes_ Try.func37 Z256 rfl #[.pointer (some ⟨g,0,none⟩),.int .i64 2] Z257 rfl rfl Z159 ?_
     with_reducible refine (spec_l1Below.calls g s0_0 x1001_2 x1002_2 2 t298 t299 t300 w0 _ ?side1 ?side2 A119.out).mono ?_
     (case side1 => exact Z64)
     (case side2 => exact Z71)
     rintro e w127 ⟨rfl,hi,hb,hk⟩
     refine ⟨_,rfl,?_⟩
     have n_ := jA (Kd.R_mono (Kd.R_keep (IsS53.apart (show IsS53 w0 _ g s0_0 x1001_2 x1002_2 from Z64) Z173 Z330) hk (fun _ h => h.2)) (fun _ h => h.1)) (jA (Kd.S_mono (Kd.S_keep (IsS53.apartS (show IsS53 w0 _ g s0_0 x1001_2 x1002_2 from Z64) Z175 Z330) hk (fun _ h => h.2)) (fun _ h => h.1)) (jA (Kd.R_mono (Kd.R_keep (IsS53.apart (show IsS53 w0 _ g s0_0 x1001_2 x1002_2 from Z64) Z172 Z330) hk (fun _ h => h.2)) (fun _ h => h.1)) (jA (KeepBut.blk hk (g' := gb239) (o := .cells #[.slice none 0 0,.string (⟨#[]⟩ : ByteArray),.slice none 0 0,.slice none 0 0] 28 (0,0)) Z242 NB239_0.out Z332) (jA (KeepBut.blk hk (g' := gb252) (o := .cells #[.slice Ao8 t240.length co8,.string t243,.slice Ao126 x253002_2.length co126,u253003] 28 (0,0)) Z243 NB252_0.out Z332) (jA (KeepBut.trans Z263 hk (.inl rfl)) (jA (hb) (Aside0.mk (hi))))))))
     clear HO_253000 HO_253002 HO_253003 BK239 BK252 HK HB HI0
     obtain ⟨HO_253000,HO_253002,HO_253003,BK239,BK252,HK,HB,HI0⟩ := n_
     (try clear hb)
     (try clear hb2)
     (try clear hk)
     (try clear hi)
     refine hK.out _ _ ⟨bc BK252 0,bc BK252 1,bc BK252 2,bc BK252 3⟩ (fun hHeld => ?_)
     clear hK K
     refine rN (h := ?_)
     refine sP 5 81 7 63 (h := ?_)
     refine sP 6 82 7 127 (h := ?_)
     refine done_ Z256 ?_
     try go_wp2
     have n_ := jA (Kd.R_drew HO_253000.out) (jA (Kd.S_drew HO_253002.out) (jA (Kd.R_drew HO_253003.out) (jA (blk_drew BK239.out) (jA (blk_drew BK252.out) (jA (IsS53.drew HI0.out) (jA (keep_drew HK.out) (Aside0.mk (below_drew1 HB.out))))))))
     clear HO_253000 HO_253002 HO_253003 BK239 BK252 HI0 HK HB
     obtain ⟨HO_253000,HO_253002,HO_253003,BK239,BK252,HI0,HK,HB⟩ := n_
     have p304 : 0 ≤ (0 : Int) := Z331
     have q304 : 0 < (x253002_2.length : Int) := of_decide_eq_true Z229
     obtain ⟨ad304,A304_0,c304_0,e304,hx304_0,hl304_0,hi304_0⟩ := at_L3 (Kd.S_reads' HO_253002.out).2.2 0 p304 q304
     cases e304
     obtain ⟨ce304,hce304,hMe304,hcc304⟩ := Kd.S_get HO_253002.out [] 0 p304 (by first | exact q304 | exact of_decide_eq_true Z229 | (have e_ := (Kd.S_reads' HO_253002.out).1;omega))
     obtain ⟨ve304_0,rfl,ge304_0⟩ := hMe304
     have hv304_0 := hcc304 0 _ rfl
     rw [Nat.add_zero,show ((Kd.slice 3 (Kd.int .i64))).sz = 1 from rfl,Nat.mul_one] at hv304_0
     replace hv304_0 := Option.some.inj (hv304_0.symm.trans hx304_0)
     rw [hv304_0] at ge304_0
     have HL304_0 := Aside0.mk (show Kd.R (Kd.int .i64) 3 _ _ _ _ (rd_L3 x253002_2 0) from ge304_0)
     clear hv304_0 ge304_0
     have HX304_0 := Aside0.mk hx304_0
     clear hcc304 hce304
     have qi304 : (0 < x253002_2.length) = True := eq_true Z331
     (try rw [show ((0 : Int)).toNat = 0 from rfl] at hx304_0)
     (try rw [Addr.add_zero'] at hx304_0)
     have HR304_0 := Aside0.mk hi304_0
     have HC304_0 := Aside0.mk hl304_0
     clear hi304_0 hl304_0
     replace p304 := eq_true p304
     replace q304 := eq_true q304
     refine start_ (n := 12) (S := fun w' => w'.cell? ⟨gb252,0,none⟩ = some (.slice Ao8 t240.length co8) ∧ w'.cell? ⟨gb252,1,none⟩ = some (.string t243) ∧ w'.cell? ⟨gb252,2,none⟩ = some (.slice (some ad304) x253002_2.length co126) ∧ w'.cell? ⟨gb252,3,none⟩ = some (u253003) ∧ w'.cell? ad304 = some (.slice A304_0 (rd_L3 x253002_2 0).length c304_0)) (ds := [9,11]) (qM 12 0) Z256 rfl (by kernel_rfl) ⟨bc BK252 0,bc BK252 1,bc BK252 2,bc BK252 3,hx304_0⟩ (fun hHeld => ?_);refine with_tabW spec_l9Bent.tab20 spec_l9Bent.bits20 (fun HT_ HW_ => ?_)
     generalize w127.drew = w128 at HO_253000 HO_253002 HO_253003 BK239 BK252 HI0 HK HB HL304_0 HR304_0 HX304_0 hx304_0 hHeld ⊢
     refine rP 0 83 12 1 HT_ (h := ?_)
     refine rP 3 86 12 9 HT_ (h := ?_)
     refine rT5 1 84 12 11 HT_ HW_ hHeld (h := ?_)
     refine rT5 4 87 12 27 HT_ HW_ hHeld (h := ?_)
     refine rP 5 88 12 59 HT_ (h := ?_)
     refine rT5 6 89 12 123 HT_ HW_ hHeld (h := ?_)
     refine rO 2 85 12 127 HT_ (h := fun K hK => ?_)
     refine Kd.R_lit_step (Kd.int .i64) _ 3 ?hg (N := 85) ?hd (xs := ([] : List Int)) (inner := []) (ok := fun _ => True) (okp := fun _ => True) ?hr ?hp (fun _ hk => hk) trivial (Below.refl _ _) (Nat.le_refl _) Z332 ?_;(case hd => rfl);(case hg => rfl);(case hr => exact Z231);(case hp => exact Z252)
     intro v302 w129 ho130 hb hg_ hnew_
     have HS4_ := (hb.cell (World.block_lt_of_cell? _ _ (hHeld.2.2.2.2))).trans (hHeld.2.2.2.2)
     clear hg_ hnew_
     (first | rw [← Ny301.out] at ho130 | (simp only [Int.reduceToNat] at ho130;rw [← Ny301.out] at ho130))
     have n_ := jA (Kd.R_below Z173 hb) (jA (Kd.S_elder' Z175 (Kd.R_base ho130) hb) (jA (Kd.R_elder' Z172 (Kd.R_base ho130) hb) (jA (Kd.R_elder' Z178 (Kd.R_base ho130) hb) (jA (Kd.R_lower (Kd.R_new' (Kd.R_new' ho130 (Kd.R_lt Z172)) (Kd.R_lt Z178)) (keep_size (w := w) (g := g) (row := none) Z263)) (jA (blk_below (g := gb239) (o := .cells #[.slice none 0 0,.string (⟨#[]⟩ : ByteArray),.slice none 0 0,.slice none 0 0] 28 (0,0)) Z242 hb) (jA (blk_below (g := gb252) (o := .cells #[.slice Ao8 t240.length co8,.string t243,.slice (some ad304) x253002_2.length co126,u253003] 28 (0,0)) Z243 hb) (jA (IsS53.below Z64 hb) (jA (Kd.C_below Z93 hb) (jA (pw_cell_below hb HX304_0.out) (jA (KeepBut.trans Z263 (KeepBut.of_below hb g none) (.inl rfl)) (Aside0.mk (below_step Z71 hb))))))))))))
     clear HO_253000 HO_253002 HO_253003 HL304_0 BK239 BK252 HI0 HR304_0 HX304_0 HK HB
     obtain ⟨HO_253000,HO_253002,HO_253003,HL304_0,HO303,BK239,BK252,HI0,HR304_0,HX304_0,HK,HB⟩ := n_
     clear hb ho130
     refine hK.out _ _ ⟨bc BK252 0,bc BK252 1,bc BK252 2,bc BK252 3,HS4_⟩ (fun hHeld => ?_)
     clear hK K
     refine rN (h := ?_)
     refine rO 7 90 12 255 HT_ (h := fun K hK => ?_)
     refine Kd.R_append_rows_step (Kd.int .i64) w.heap.size Z257 (.tmp 85) (.tmp 89) 26 3 (.int .i64 0) 8 rfl Try.underlying26 info3 rfl Z330 Z331 v302 y301 (rd_L3 x253002_2 0) _ _ _ (fun k_ => some k_ ≠ (u253003 : Value).ownBlock ∧ some k_ ≠ (.slice A304_0 (rd_L3 x253002_2 0).length c304_0 : Value).ownBlock) (fun _ => False) rfl rfl ?aO ?aR (fun _ _ h => h) (fun _ h => h.elim) ?aF (Below.refl _ _) ?aS ?aL ?_
     (case aR => repeat (first | exact Z93 | (with_reducible refine Kd.C_alloc ?_ _) | (with_reducible refine Kd.C_drewN ?_ _) | (with_reducible refine Kd.C_drew ?_)))
     (case aF => exact (fun k_ hk => ⟨Kd.fresh' (Kd.R_lt Z172) k_ hk,Kd.fresh' (Kd.R_lt Z178) k_ hk⟩))
     (case aO => exact (by (with_reducible repeat (first | apply Kd.R_alloc | apply Kd.R_drewN | apply Kd.R_drew));exact Kd.R_mono HO303.out (fun _ hk => ⟨hk.1.2,hk.2⟩)))
     (case aS => exact Z53)
     (case aL => have := LMc122.out;omega)
     intro v306 w131 ho hb hg hat
     have HS4_ := cell_grown hg (hHeld.2.2.2.2) (by first | (rw [add_block];exact (Exists.elim (Kd.S_typed HO_253002.out _ rfl) fun _ hb_ => Kd.R_ne HO303.out hb_ Z330)) | (show some (Addr.add _ _).block ≠ _;rw [add_block];exact (Exists.elim (Kd.S_typed HO_253002.out _ rfl) fun _ hb_ => Kd.R_ne HO303.out hb_ Z330)) | exact (Exists.elim (Kd.S_typed HO_253002.out _ rfl) fun _ hb_ => Kd.R_ne HO303.out hb_ Z330))
     rw [← Ny305.out] at ho
     have n_ := jA (Kd.R_over' Z173 (Kd.R_typed (by (with_reducible repeat (first | apply Kd.R_alloc | apply Kd.R_drewN | apply Kd.R_drew));exact HO303.out)) Z330 hg) (jA (Kd.S_after (ok := (fun k_ => some k_ ≠ (u253003 : Value).ownBlock)) Z175 hg hat) (jA (Kd.R_after (ok := (fun _ => True)) Z172 hg hat) (jA (blk_grown (g := gb239) (o := .cells #[.slice none 0 0,.string (⟨#[]⟩ : ByteArray),.slice none 0 0,.slice none 0 0] 28 (0,0)) Z242 hg (Kd.R_ne HO303.out BK239.out Z330)) (jA (blk_grown (g := gb252) (o := .cells #[.slice Ao8 t240.length co8,.string t243,.slice (some ad304) x253002_2.length co126,u253003] 28 (0,0)) Z243 hg (Kd.R_ne HO303.out BK252.out Z330)) (jA (IsS53.grown Z45 hg (IsS53.own_ne HI0.out HO303.out Z330)) (jA (Kd.R_after (ok := (fun k_ => some k_ ≠ (.slice (some ad304) x253002_2.length co126 : Value).ownBlock ∧ some k_ ≠ (u253003 : Value).ownBlock)) (by (with_reducible repeat (first | apply Kd.R_alloc | apply Kd.R_drewN | apply Kd.R_drew));exact Kd.R_mono HL304_0.out (fun _ hk => ⟨⟨hk.1.2,hk.1.1⟩,hk.2⟩)) hg hat) (jA (below_weaken Z71 HL.out hb) (jA (KeepBut.trans Z263 (KeepBut.of_grown hg g) (Kd.R_base2 HO303.out)) (Aside0.mk (ho))))))))))
     clear HO_253000 HO_253002 HO_253003 BK239 BK252 HI0 HL304_0 HB HK HO303
     obtain ⟨HO_253000,HO_253002,HO_253003,BK239,BK252,HI0,HL304_0,HB,HK,HO307⟩ := n_
     clear ho hb hg hat
     obtain ⟨Ao133,co133,eo133⟩ := Kd.R_slice HO307.out
     (first | subst eo133 | (injection eo133 with f1_ f2_ f3_;have f4_ := f1_.symm;have f5_ := f3_.symm;clear f1_ f2_ f3_;subst f4_;subst f5_))
     refine hK.out _ _ ⟨bc BK252 0,bc BK252 1,bc BK252 2,bc BK252 3,HS4_⟩ (fun hHeld => ?_)
     clear hK K
     refine rN (h := ?_)
     refine rO 8 91 12 511 HT_ (h := fun K hK => ?_)
     refine value_ (w1 := ?_) (v := ?_) Z257 rfl ?_ ?_
     rotate_left 2
     ·go_simp
      constructor
      ·rfl
      rfl
     refine hK.out _ _ ⟨(blk_cell (blk_alloc BK252.out _) 0).trans rfl,(blk_cell (blk_alloc BK252.out _) 1).trans rfl,(blk_cell (blk_alloc BK252.out _) 2).trans rfl,(blk_cell (blk_alloc BK252.out _) 3).trans rfl,(World.cell?_alloc_lt _ _ _ (World.block_lt_of_cell? _ _ (hHeld.2.2.2.2))).trans (hHeld.2.2.2.2)⟩ (fun hHeld => ?_)
     clear hK K
     refine rN (h := ?_)
     refine last_ (i := 9) (N := some 92) (qM 12 1023) rfl rfl (one_of HT_.out Z256) Z330 (fun K hK => ?_)
     refine Kd.S_append_step (Kd.slice 3 (Kd.int .i64)) w.heap.size Z257 (.tmp 84) (.tmp 91) 25 26 (.slice none 0 0) 24 rfl Try.underlying25 info26 rfl Z330 Z331 (.slice (some ad304) x253002_2.length co126) x253002_2 y305 [.slice Ao133 y305.length co133] (fun k_ => some k_ ≠ (u253003 : Value).ownBlock) (fun k_ => some k_ = (.slice Ao133 y305.length co133 : Value).ownBlock) rfl rfl ?aP (fun k_ hk_ => ((Kd.R_mono (ok' := fun k_ => ((fun k_ => some k_ ≠ (u253003 : Value).ownBlock)) k_ ∧ some k_ ≠ (.slice (some ad304) x253002_2.length co126 : Value).ownBlock) (Kd.R_apart' (HO307.out) (Kd.S_typed HO_253002.out) Z330) (fun k_ hk => ⟨hk.1.1,hk.2⟩))).1 k_ hk_.symm) ?aF ?aO (Below.refl _ _) ?aS ?aL ?_
     (case aP => exact Kd.M_row (Kd.R_mono (Kd.R_tight rfl (Kd.R_mono (ok' := fun k_ => ((fun k_ => some k_ ≠ (u253003 : Value).ownBlock)) k_ ∧ some k_ ≠ (.slice (some ad304) x253002_2.length co126 : Value).ownBlock) (Kd.R_apart' (HO307.out) (Kd.S_typed HO_253002.out) Z330) (fun k_ hk => ⟨hk.1.1,hk.2⟩))) (fun _ h_ => h_)))
     (case aF => exact (fun k_ hk => Kd.fresh' (Kd.R_lt Z172) k_ hk))
     (case aO => exact Z126)
     (case aS => exact Z53)
     (case aL => have := LMc123.out;omega)
     intro v309 w132 ho hb hg hat
     rw [← Ny308.out] at ho
     have n_ := jA (Kd.R_over' Z173 (Kd.S_typed Z175) Z330 hg) (jA (Kd.R_over' Z172 (Kd.S_typed Z175) Z330 hg) (jA (blk_grown (g := gb239) (o := .cells #[.slice none 0 0,.string (⟨#[]⟩ : ByteArray),.slice none 0 0,.slice none 0 0] 28 (0,0)) Z242 hg (Kd.S_ne HO_253002.out BK239.out Z330)) (jA (blk_grown (g := gb252) (o := .cells #[.slice Ao8 t240.length co8,.string t243,.slice (some ad304) x253002_2.length co126,u253003] 28 (0,0)) Z243 hg (Kd.S_ne HO_253002.out BK252.out Z330)) (jA (IsS53.grown Z45 hg (IsS53.own_neS HI0.out HO_253002.out Z330)) (jA (Kd.R_after (ok := (fun k_ => some k_ ≠ (u253003 : Value).ownBlock ∧ some k_ ≠ (.slice Ao133 y305.length co133 : Value).ownBlock)) (by (with_reducible repeat (first | apply Kd.R_alloc | apply Kd.R_drewN | apply Kd.R_drew));exact Kd.R_mono HL304_0.out (fun _ hk => ⟨⟨hk.1.2,hk.2⟩,hk.1.1⟩)) hg hat) (jA (below_weaken Z71 HL.out hb) (jA (KeepBut.trans Z263 (KeepBut.of_grown hg g) (Kd.S_base2 HO_253002.out)) (Aside0.mk (ho)))))))))
     clear HO_253000 HO_253003 BK239 BK252 HI0 HL304_0 HB HK HO_253002 HO307
     obtain ⟨HO_253000,HO_253003,BK239,BK252,HI0,HL304_0,HB,HK,HO310⟩ := n_
     clear ho hb hg hat
     obtain ⟨Ao134,co134,eo134⟩ := Kd.S_slice HO310.out
     (first | subst eo134 | (injection eo134 with f1_ f2_ f3_;have f4_ := f1_.symm;have f5_ := f3_.symm;clear f1_ f2_ f3_;subst f4_;subst f5_))
     refine hK.out _ _ ?_
     clear hK K
     refine rN (h := ?_)
     refine rP 10 93 12 2047 HT_ (h := ?_)
     refine last_ (i := 11) (N := none) (qM 12 4095) rfl rfl (one_of HT_.out Z256) Z330 (fun K hK => ?_)
     have hs135 : w132.cell? ⟨gb252,2,none⟩ = some (.slice (some ad304) x253002_2.length co126) := bc BK252 2
     have hfs135 := blk_frozen BK252.out 2
     have hns135_0 := NB239_252.out
     have hms135_0 := NB252_239.out
     refine skip_ (w1 := ?_) Z257 rfl ?_ ?_
     rotate_left
     ·go_simp
      rfl
     refine hK.out _ _ ?_
     clear hK K
     refine done_ (done_of HT_.out Z256) ?_
     have hnb136 := NB252_239.out
     have hnc136 := NB239_252.out
     have hnb137 := NB252_0.out
     have hnc137 := NB0_252.out
     obtain ⟨hcz138_0,hcz138_1,hcz138_2,hcz138_3,hfz138_0,hfz138_1,hfz138_2,hfz138_3⟩ := cells4 BK252.out
     try go_wp2_with (first | ((with_reducible refine gate_builtin (b := .append) (xs := #[.tmp 95,.tmp 96]) rfl ?_);at_builtin;refine Kd.R_append (Kd.int .i64) w.heap.size rfl (.tmp 95) (.tmp 96) 26 3 (.int .i64 0) 8 rfl Try.underlying26 info3 rfl Z330 Z331 u253003 x253003_2 0 [.int .i64 0] (fun _ => True) (fun _ => False) rfl Z231 ?aP (fun _ hk => hk.elim) ?aF ?aO (Below.refl _ _) ?aS ?aL ?_;(case aP => exact rfl);(case aF => exact Z250);(case aO => exact (by (with_reducible repeat (first | apply Kd.R_alloc | apply Kd.R_drewN | apply Kd.R_drew));exact Kd.R_mono (Kd.R_far (p := ⟨gb252,2,none⟩) (Kd.R_types HO_253003.out BK252.out Z330) (fun _ hk => hk.2) (.slice Ao134 y308.length co134)) (fun _ hk => trivial)));(case aS => exact Z53);(case aL => have := LMc124.out;omega);intro v312 w139 ho hb hg hat;rw [← Ny311.out] at ho;have n_ := jA (Kd.R_over' (by (with_reducible repeat (first | apply Kd.R_alloc | apply Kd.R_drewN | apply Kd.R_drew));exact (Kd.R_mono (Kd.R_far (p := ⟨gb252,2,none⟩) (Kd.R_types HO_253000.out BK252.out Z330) (fun _ hk => hk.2) (.slice Ao134 y308.length co134)) (fun _ h_ => h_.1))) (Kd.R_typed (by (with_reducible repeat (first | apply Kd.R_alloc | apply Kd.R_drewN | apply Kd.R_drew));exact (Kd.R_mono (Kd.R_far (p := ⟨gb252,2,none⟩) (Kd.R_types HO_253003.out BK252.out Z330) (fun _ hk => hk.2) (.slice Ao134 y308.length co134)) (fun _ h_ => h_.1)))) Z330 hg) (jA (blk_grown (g := gb239) (o := .cells #[.slice none 0 0,.string (⟨#[]⟩ : ByteArray),.slice none 0 0,.slice none 0 0] 28 (0,0)) Z221 hg (Kd.R_ne HO_253003.out BK239.out Z330)) (jA (blk_grown (g := gb252) (o := .cells #[.slice Ao8 t240.length co8,.string t243,.slice Ao134 y308.length co134,u253003] 28 (0,0)) (by refine bP ?_;refine blk_put (cs := #[.slice Ao8 t240.length co8,.string t243,.slice (some ad304) x253002_2.length co126,u253003]) ?_ 2 _ rfl;refine bP ?_;exact BK252.out) hg (Kd.R_ne HO_253003.out BK252.out Z330)) (jA (IsS53.grown Z45 hg (IsS53.own_ne HI0.out HO_253003.out Z330)) (jA (Kd.R_after (ok := (fun k_ => some k_ ≠ (.slice Ao134 y308.length co134 : Value).ownBlock)) (by (with_reducible repeat (first | apply Kd.R_alloc | apply Kd.R_drewN | apply Kd.R_drew));exact Kd.R_mono (Kd.R_far (p := ⟨gb252,2,none⟩) (Kd.R_types HL304_0.out BK252.out Z330) (fun _ hk => hk.2) (.slice Ao134 y308.length co134)) (fun _ hk => ⟨hk.1.2,hk.1.1.1⟩)) hg hat) (jA (Kd.S_after (ok := (fun _ => True)) (by (with_reducible repeat (first | apply Kd.S_alloc | apply Kd.S_drewN | apply Kd.S_drew));exact Kd.S_mono (Kd.S_far (p := ⟨gb252,2,none⟩) (Kd.S_types HO310.out BK252.out Z330) (fun _ hk => hk.2) (.slice Ao134 y308.length co134)) (fun _ hk => ⟨trivial,hk.1⟩)) hg hat) (jA (below_weaken Z71 HL.out hb) (jA (KeepBut.trans Z263 (KeepBut.of_grown hg g) (Kd.R_base2 HO_253003.out)) (Aside0.mk (ho)))))))));clear HO_253000 BK239 BK252 HI0 HL304_0 HO310 HB HK HO_253003;obtain ⟨HO_253000,BK239,BK252,HI0,HL304_0,HO310,HB,HK,HO313⟩ := n_;clear ho hb hg hat;obtain ⟨Ao140,co140,eo140⟩ := Kd.R_slice HO313.out;subst eo140;obtain ⟨hcz141_0,hcz141_1,hcz141_2,hcz141_3,hfz141_0,hfz141_1,hfz141_2,hfz141_3⟩ := cells4 BK252.out))
     go_roundg k2
     case measure => have := HJ3.out;have := HK2.out;omega
     case rel => exact ⟨(t299),(t300),(y308),(y311),(.slice Ao134 y308.length co134),(.slice Ao140 y311.length co140),H',⟨by have := HJ3.out;have := HK2.out;omega⟩,⟨by (with_reducible repeat (first | apply Kd.R_alloc | apply Kd.R_drewN | apply Kd.R_drew));exact Kd.R_mono (Kd.R_far (p := ⟨gb252,3,none⟩) (Kd.R_types HO_253000.out BK252.out Z330) (fun _ hk => hk.2) (.slice Ao140 y311.length co140)) (fun _ hk => trivial)⟩,⟨by (with_reducible repeat (first | apply Kd.S_alloc | apply Kd.S_drewN | apply Kd.S_drew));exact Kd.S_mono (Kd.S_far (p := ⟨gb252,3,none⟩) (Kd.S_types HO310.out BK252.out Z330) (fun _ hk => hk.2) (.slice Ao140 y311.length co140)) (fun _ hk => hk.1.2)⟩,⟨by (with_reducible repeat (first | apply Kd.R_alloc | apply Kd.R_drewN | apply Kd.R_drew));exact Kd.R_mono (Kd.R_far (p := ⟨gb252,3,none⟩) (Kd.R_types HO313.out BK252.out Z330) (fun _ hk => hk.2) (.slice Ao140 y311.length co140)) (fun _ hk => trivial)⟩,⟨Z221⟩,⟨by refine bP ?_;refine blk_put (cs := #[.slice Ao8 t240.length co8,.string t243,.slice Ao134 y308.length co134,u253003]) ?_ 3 _ rfl;refine bP ?_;exact BK252.out⟩,⟨Z64⟩,⟨Z263⟩,⟨Z71⟩⟩

end Go.Proofs.Ytlflcgdcegohjab.QFnGrid
