/- The machine side of FnExactReadTable: what each Go function that it reaches comes to. Conditions: none. -/
import Derived.Test.YtepnbcdbagjmbaaDoorQFnExactReadTablex0
import Derived.Test.YtepnbcdbagjmbaaDoorQFnExactReadTablex3
import Derived.Test.YtepnbcdbagjmbaaDoorQFnExactReadTablex4
import Derived.Test.YtepnbcdbagjmbaaDoorQFnExactReadTablex6
namespace Go.Proofs.YtepnbcdbagjmbaaDoor.QFnExactReadTable
open Go.RowKit Go.Proofs.YtepnbcdbagjmbaaDoorW.PrintWords Go.Proofs.YtepnbcdbagjmbaaDoorW.PrintLast Go.Proofs.YtepnbcdbagjmbaaDoorW.PrintMore
attribute [local go_sem] max2_int min2_int max_two min_two max_three min_three max_four min_four   -- for this text's walks alone
set_option linter.unusedVariables false
set_option linter.unusedSimpArgs false

/-! ### spec_ReadTable: function 4 -/
mutual
def spec_ReadTable.l0 : Nat → List (List ByteArray) → Int → Int → List ByteArray → ByteArray → List (List Int) → List Int → Option (List ByteArray × ByteArray × (List (List Int)) × List Int × Int × Int × Int)
 | 0,_,_,_,_,_,_,_ => none
 | k + 1,x4,x7,x9,x213000,x213001,x213002,x213003 => if x9 < (x4.length : Int) then (if 0 ≤ x9 then (if ((rd_L2 x4 x9).length : Int) = (wrap64 (x7 + 1)) then (spec_ReadTable.l1 k x4 x7 x9 (([] : List Int)) 0 x213000 x213001 x213002 x213003) else (some (([] : List ByteArray),(⟨#[]⟩ : ByteArray),([] : List (List Int)),([] : List Int),4,x9,0))) else (none)) else (some (x213000,x213001,x213002,x213003,0,0,0))
def spec_ReadTable.l1 : Nat → List (List ByteArray) → Int → Int → List Int → Int → List ByteArray → ByteArray → List (List Int) → List Int → Option (List ByteArray × ByteArray × (List (List Int)) × List Int × Int × Int × Int)
 | 0,_,_,_,_,_,_,_,_,_ => none
 | k + 1,x4,x7,x9,x10,x11,x213000,x213001,x213002,x213003 => if x11 ≤ x7 then (if 0 ≤ x9 then (if x9 < (x4.length : Int) then (if 0 ≤ x11 then (if x11 < ((rd_L2 x4 x9).length : Int) then ((spec_ReadFix.f k (rdOf ByteArray.empty (rd_L2 x4 x9) x11)).bind fun bt219 => (if bt219.2 = true then (if x10.length < 17592186044416 then (spec_ReadTable.l1 k x4 x7 x9 (x10 ++ [bt219.1]) (wrap64 (x11 + 1)) x213000 x213001 x213002 x213003) else (none)) else (some (([] : List ByteArray),(⟨#[]⟩ : ByteArray),([] : List (List Int)),([] : List Int),9,x9,x11)))) else (none)) else (none)) else (none)) else (none)) else ((some (([] : List Int) : List Int)).bind fun y224 => (if 0 ≤ x7 then (if x7 ≤ (x10.length : Int) then ((some (x10.take (x7 : Int).toNat : List Int)).bind fun y227 => (if y224.length + y227.length < 17592186044416 then (if x213002.length < 5864062014805 then (if x7 < (x10.length : Int) then (if x213003.length < 17592186044416 then (spec_ReadTable.l0 k x4 x7 (wrap64 (x9 + 1)) x213000 x213001 (x213002 ++ [(y224 ++ y227)]) (x213003 ++ [rd x10 x7])) else (none)) else (none)) else (none)) else (none))) else (none)) else (none)))
end
def spec_ReadTable.f (k : Nat) (a0 : ByteArray) : Option (List ByteArray × ByteArray × (List (List Int)) × List Int × Int × Int × Int) := (spec_ReadCsv.f k a0).bind fun bt189 => (if bt189.2.1 = 0 then (if (bt189.1.length : Int) = 0 then (some (([] : List ByteArray),(⟨#[]⟩ : ByteArray),([] : List (List Int)),([] : List Int),3,0,0)) else (if 0 < (bt189.1.length : Int) then ((spec_l9Head.f k (rd_L2 bt189.1 0)).bind fun bt197 => (if bt197.1 = 0 then ((spec_l1In.f (wrap64 ((bt189.1.length : Int) - 1)) 1 40).bind fun t200 => (if t200 = true then ((some (([] : List ByteArray) : List ByteArray)).bind fun y201 => (if 0 ≤ (wrap64 (((rd_L2 bt189.1 0).length : Int) - 1)) then (if (wrap64 (((rd_L2 bt189.1 0).length : Int) - 1)) ≤ ((rd_L2 bt189.1 0).length : Int) then ((some ((rd_L2 bt189.1 0).take ((wrap64 (((rd_L2 bt189.1 0).length : Int) - 1)) : Int).toNat : List ByteArray)).bind fun y204 => (if y201.length + y204.length < 8796093022208 then (if (wrap64 (((rd_L2 bt189.1 0).length : Int) - 1)) < ((rd_L2 bt189.1 0).length : Int) then (spec_ReadTable.l0 k bt189.1 (wrap64 (((rd_L2 bt189.1 0).length : Int) - 1)) 1 (y201 ++ y204) (rdOf ByteArray.empty (rd_L2 bt189.1 0) (wrap64 (((rd_L2 bt189.1 0).length : Int) - 1))) ([] : List (List Int)) ([] : List Int)) else (none)) else (none))) else (none)) else (none))) else (some (([] : List ByteArray),(⟨#[]⟩ : ByteArray),([] : List (List Int)),([] : List Int),8,0,0)))) else (some (([] : List ByteArray),(⟨#[]⟩ : ByteArray),([] : List (List Int)),([] : List Int),bt197.1,bt197.2.1,bt197.2.2)))) else (none))) else (some (([] : List ByteArray),(⟨#[]⟩ : ByteArray),([] : List (List Int)),([] : List Int),bt189.2.1,bt189.2.2.1,bt189.2.2.2)))
theorem spec_ReadTable.mono_l : ∀ k,(∀ y0 y1 y2 y3 y4 y5 y6,LeO (spec_ReadTable.l0 k y0 y1 y2 y3 y4 y5 y6) (spec_ReadTable.l0 (k + 1) y0 y1 y2 y3 y4 y5 y6)) ∧ (∀ y0 y1 y2 y3 y4 y5 y6 y7 y8,LeO (spec_ReadTable.l1 k y0 y1 y2 y3 y4 y5 y6 y7 y8) (spec_ReadTable.l1 (k + 1) y0 y1 y2 y3 y4 y5 y6 y7 y8))
 | 0 => ⟨fun _ _ _ _ _ _ _ r h => by simp [spec_ReadTable.l0] at h,fun _ _ _ _ _ _ _ _ _ r h => by simp [spec_ReadTable.l1] at h⟩
 | k + 1 => by
  obtain ⟨ih0,ih1⟩ := spec_ReadTable.mono_l k
  refine ⟨?_,?_⟩
  ·intro y0 y1 y2 y3 y4 y5 y6
   unfold spec_ReadTable.l0
   repeat' first
   | (with_reducible exact ih0 _ _ _ _ _ _ _)
   | (with_reducible exact ih1 _ _ _ _ _ _ _ _ _)
   | (with_reducible exact spec_ReadCsv.mono _ _)
   | (with_reducible exact spec_ReadFix.mono _ _)
   | (with_reducible exact spec_l9Head.mono _ _)
   | (with_reducible exact LeO.refl _)
   | (with_reducible exact LeO.none _)
   | (with_reducible refine LeO.ite ?_ ?_)
   | (with_reducible refine LeO.bind ?_ (fun _ => ?_))
   | exact ih0 _ _ _ _ _ _ _
   | exact ih1 _ _ _ _ _ _ _ _ _
   | exact spec_ReadCsv.mono _ _
   | exact spec_ReadFix.mono _ _
   | exact spec_l9Head.mono _ _
   | exact LeO.none _
   | refine LeO.ite ?_ ?_
   | refine LeO.bind ?_ (fun _ => ?_)
  ·intro y0 y1 y2 y3 y4 y5 y6 y7 y8
   unfold spec_ReadTable.l1
   repeat' first
   | (with_reducible exact ih0 _ _ _ _ _ _ _)
   | (with_reducible exact ih1 _ _ _ _ _ _ _ _ _)
   | (with_reducible exact spec_ReadCsv.mono _ _)
   | (with_reducible exact spec_ReadFix.mono _ _)
   | (with_reducible exact spec_l9Head.mono _ _)
   | (with_reducible exact LeO.refl _)
   | (with_reducible exact LeO.none _)
   | (with_reducible refine LeO.ite ?_ ?_)
   | (with_reducible refine LeO.bind ?_ (fun _ => ?_))
   | exact ih0 _ _ _ _ _ _ _
   | exact ih1 _ _ _ _ _ _ _ _ _
   | exact spec_ReadCsv.mono _ _
   | exact spec_ReadFix.mono _ _
   | exact spec_l9Head.mono _ _
   | exact LeO.none _
   | refine LeO.ite ?_ ?_
   | refine LeO.bind ?_ (fun _ => ?_)
theorem spec_ReadTable.mono : ∀ a0 k,LeO (spec_ReadTable.f k a0) (spec_ReadTable.f (k + 1) a0) := by
 intro a0 k
 obtain ⟨ih0,ih1⟩ := spec_ReadTable.mono_l k
 unfold spec_ReadTable.f
 repeat' first
   | (with_reducible exact ih0 _ _ _ _ _ _ _)
   | (with_reducible exact ih1 _ _ _ _ _ _ _ _ _)
   | (with_reducible exact spec_ReadCsv.mono _ _)
   | (with_reducible exact spec_ReadFix.mono _ _)
   | (with_reducible exact spec_l9Head.mono _ _)
   | (with_reducible exact LeO.refl _)
   | (with_reducible exact LeO.none _)
   | (with_reducible refine LeO.ite ?_ ?_)
   | (with_reducible refine LeO.bind ?_ (fun _ => ?_))
   | exact ih0 _ _ _ _ _ _ _
   | exact ih1 _ _ _ _ _ _ _ _ _
   | exact spec_ReadCsv.mono _ _
   | exact spec_ReadFix.mono _ _
   | exact spec_l9Head.mono _ _
   | exact LeO.none _
   | refine LeO.ite ?_ ?_
   | refine LeO.bind ?_ (fun _ => ?_)
def spec_ReadTable.T13 : Bool × List (List Nat × List Nat) := (true,[([],[]),([],[]),([],[]),([1,2],[1,2]),([0,3],[0,3]),([],[]),([],[]),([5,6],[5,6]),([7],[7]),([4,8],[4,8]),([],[]),([10,9,4,0,1,2,3,4,5,6,7,8,9,10],[9,10])])
def spec_ReadTable.B13 : List Nat := [0,0,0,6,15,0,0,96,224,511,0,2047]
theorem spec_ReadTable.tab13 : rtab .any (opsOf Tryd.f4 13) = spec_ReadTable.T13 := by kernel_rfl
theorem spec_ReadTable.bits13 : waitsOk spec_ReadTable.T13.2 spec_ReadTable.B13 = true := by kernel_rfl
def spec_ReadTable.T27 : Bool × List (List Nat × List Nat) := (true,[([],[]),([0],[0]),([],[]),([],[]),([],[]),([3,4],[3,4]),([2,5],[2,5]),([6],[6]),([1,7,6],[1,7]),([0,1,2,3,4,5,6,7,8],[]),([9,8,8,0,1,2,3,4,5,6,7,8],[8,9])])
def spec_ReadTable.B27 : List Nat := [0,1,0,0,0,24,60,124,255,511,1023]
theorem spec_ReadTable.tab27 : rtab .any (opsOf Tryd.f4 27) = spec_ReadTable.T27 := by kernel_rfl
theorem spec_ReadTable.bits27 : waitsOk spec_ReadTable.T27.2 spec_ReadTable.B27 = true := by kernel_rfl
def spec_ReadTable.T28 : Bool × List (List Nat × List Nat) := (true,[([],[]),([0],[0]),([],[]),([],[]),([2,3],[2,3]),([4],[4]),([5],[5]),([1,6],[1,6]),([0,1,2,3,4,5,6,7],[]),([8,7,7,0,1,2,3,4,5,6,7],[7,8])])
def spec_ReadTable.B28 : List Nat := [0,1,0,0,12,28,60,127,255,511]
theorem spec_ReadTable.tab28 : rtab .any (opsOf Tryd.f4 28) = spec_ReadTable.T28 := by kernel_rfl
theorem spec_ReadTable.bits28 : waitsOk spec_ReadTable.T28.2 spec_ReadTable.B28 = true := by kernel_rfl
set_option maxHeartbeats 8000000 in
set_option maxRecDepth 100000 in
theorem spec_ReadTable.calls (k : Nat) (a0 : ByteArray) (r1 : List ByteArray) (r2 : ByteArray) (r3 : List (List Int)) (r4 : List Int) (r5 : Int) (r6 : Int) (r7 : Int) (w : World) (h : spec_ReadTable.f k a0 = some (r1,r2,r3,r4,r5,r6,r7)) :
  Calls Tryd.prog 4 #[.string a0] w fun e w' => ∃ v0_ v2_ v3_ : Value,e = .returned (.tuple #[.agg #[v0_,.string r2,v2_,v3_],.agg #[.int .i64 r5,.int .i64 r6,.int .i64 r7]]) ∧ Kd.R Kd.string 9 w' w.heap.size (fun _ => True) v0_ r1 ∧ Kd.S (Kd.slice 3 (Kd.int .i64)) 24 w' w.heap.size (fun k_ => some k_ ≠ (v3_ : Value).ownBlock) v2_ r3 ∧ Kd.R (Kd.int .i64) 3 w' w.heap.size (fun _ => True) v3_ r4 ∧ Below w.heap.size w w' := by
 have hu26 := Tryd.underlying26
 have hu28 := Tryd.underlying28
 have HB := Aside0.mk (Below.refl w.heap.size w)
 have H := h
 clear h
 unfold spec_ReadTable.f at H
 obtain ⟨⟨t189,t192,t193,t194⟩,A20,H⟩ := Option.bind_eq_some_iff.mp H
 try dsimp only at H
 have A2 := Aside0.mk A20
 clear A20
 by_cases c3 : t192 = 0
 rotate_left
 ·rw [if_neg c3] at H
  have c3b0 : (t192 == 0) = false := beq_eq_false_iff_ne.mpr c3
  have c3b1 : (t192 != 0) = true := bne_iff_ne.mpr c3
  simp only [Option.some.injEq,Prod.mk.injEq] at H
  obtain ⟨rfl,rfl,rfl,rfl,rfl,rfl,rfl⟩ := H
  go_enter Tryd.func4,Tryd.ntmps4
  try go_wp2_with (first | ((with_reducible refine gate_dst (N := 2) rfl ?_);refine bE 2 #[.slice none 0 0,.string (⟨#[]⟩ : ByteArray),.slice none 0 0,.slice none 0 0] 26 (h := ?_);intro gb187 hg w150 hbox hb;have n_ := Z45;clear HB;obtain ⟨HB,BK187,GW187,GE187⟩ := n_;clear hb hbox hg) | ((with_reducible refine gate_dst (N := 3) rfl ?_);refine bE 3 #[.int .i64 0,.int .i64 0,.int .i64 0] 28 (h := ?_);intro gb188 hg w151 hbox hb;have n_ := Z13;clear BK187 HB;obtain ⟨BK187,HB,BK188,GW188,GE188,NB187_188,NB188_187⟩ := n_;clear hb hbox hg) | ((with_reducible refine gate_callee (f := 10) rfl ?_);refine goesL_ (some 16) rfl rfl Tryd.func10 Z253 rfl #[.string a0] rfl Z173 ?_;(with_reducible refine (spec_ReadCsv.calls k a0 t189 t192 t193 t194 _ A2.out).mono ?_);rintro e w152 ⟨v190,rfl,ho0,hb⟩;refine ⟨_,rfl,?_⟩;have n_ := Z34;clear BK187 BK188 HB;obtain ⟨HO191,BK187,BK188,HB⟩ := n_;(try clear hb);(try clear hb2);(try clear hk);(try clear hi);(try clear ho0)) | ((with_reducible refine gate_dst (N := 5) rfl ?_);refine bE 5 #[.int .i64 0,.int .i64 0,.int .i64 0] 28 (h := ?_);intro gb195 hg w153 hbox hb;have n_ := Z4;clear HO191 BK187 BK188 HB;obtain ⟨HO191,BK187,BK188,HB,BK195,GW195,GE195,NB187_195,NB195_187,NB188_195,NB195_188⟩ := n_;clear hb hbox hg;have hnb154 := NB195_187.out;have hnc154 := NB187_195.out;have hnb155 := NB195_188.out;have hnc155 := NB188_195.out;obtain ⟨hcz156_0,hcz156_1,hcz156_2,hfz156_0,hfz156_1,hfz156_2⟩ := cells3 BK195.out))
  have n0_ : Aside0 (Kd.S (Kd.slice 9 Kd.string) 22 (((w153.setCell ⟨gb195,0,none⟩ (.int .i64 t192)).setCell ⟨gb195,1,none⟩ (.int .i64 t193)).setCell ⟨gb195,2,none⟩ (.int .i64 t194)) w.heap.size (fun _ => True) v190 t189) := ⟨Z258⟩
  have n1_ : Aside0 ((((w153.setCell ⟨gb195,0,none⟩ (.int .i64 t192)).setCell ⟨gb195,1,none⟩ (.int .i64 t193)).setCell ⟨gb195,2,none⟩ (.int .i64 t194)).heap[gb187]? = some (.cells #[.slice none 0 0,.string (⟨#[]⟩ : ByteArray),.slice none 0 0,.slice none 0 0] 26 (0,0))) := ⟨Z293⟩
  have n2_ : Aside0 ((((w153.setCell ⟨gb195,0,none⟩ (.int .i64 t192)).setCell ⟨gb195,1,none⟩ (.int .i64 t193)).setCell ⟨gb195,2,none⟩ (.int .i64 t194)).heap[gb188]? = some (.cells #[.int .i64 0,.int .i64 0,.int .i64 0] 28 (0,0))) := ⟨Z292⟩
  have n3_ : Aside0 ((((w153.setCell ⟨gb195,0,none⟩ (.int .i64 t192)).setCell ⟨gb195,1,none⟩ (.int .i64 t193)).setCell ⟨gb195,2,none⟩ (.int .i64 t194)).heap[gb195]? = some (.cells #[.int .i64 t192,.int .i64 t193,.int .i64 t194] 28 (0,0))) := ⟨Z260⟩
  have n4_ : Aside0 (Below w.heap.size w (((w153.setCell ⟨gb195,0,none⟩ (.int .i64 t192)).setCell ⟨gb195,1,none⟩ (.int .i64 t193)).setCell ⟨gb195,2,none⟩ (.int .i64 t194))) := ⟨Z269⟩
  (try clear HO191)
  (try clear BK187)
  (try clear BK188)
  (try clear BK195)
  (try clear HB)
  generalize (((w153.setCell ⟨gb195,0,none⟩ (.int .i64 t192)).setCell ⟨gb195,1,none⟩ (.int .i64 t193)).setCell ⟨gb195,2,none⟩ (.int .i64 t194)) = w157 at n0_ n1_ n2_ n3_ n4_ ⊢
  have HO191 := n0_
  have BK187 := n1_
  have BK188 := n2_
  have BK195 := n3_
  have HB := n4_
  clear n0_ n1_ n2_ n3_ n4_
  have n_ := jA (Kd.S_drew HO191.out) (jA (blk_drew BK187.out) (jA (blk_drew BK188.out) (jA (blk_drew BK195.out) (Aside0.mk (below_drew1 HB.out)))))
  clear HO191 BK187 BK188 BK195 HB
  obtain ⟨HO191,BK187,BK188,BK195,HB⟩ := n_
  refine start_ (n := 4) (S := fun w' => w'.cell? ⟨gb195,0,none⟩ = some (.int .i64 t192) ∧ w'.cell? ⟨gb195,1,none⟩ = some (.int .i64 t193) ∧ w'.cell? ⟨gb195,2,none⟩ = some (.int .i64 t194)) (ds := []) (qM 4 0) Z253 rfl (by kernel_rfl) ⟨bc BK195 0,bc BK195 1,bc BK195 2⟩ (fun hHeld => ?_)
  generalize w157.drew = w158 at HO191 BK187 BK188 BK195 HB hHeld ⊢
  refine sP 0 22 4 1 (h := ?_)
  refine sT3 1 23 4 3 hHeld (h := ?_)
  refine one_ (i := 2) (N := none) #[true,true,true,false] rfl rfl Z253 Z355 (fun K hK => ?_)
  have hs159 : w158.cell? ⟨gb187,0,none⟩ = some (.slice none 0 0) := bc BK187 0
  have hfs159 := blk_frozen BK187.out 0
  have hns159_1 := NB188_187.out
  have hns159_2 := NB195_187.out
  have hms159_1 := NB187_188.out
  have hms159_2 := NB187_195.out
  have hs160 : w158.cell? ⟨gb187,1,none⟩ = some (.string (⟨#[]⟩ : ByteArray)) := bc BK187 1
  have hfs160 := blk_frozen BK187.out 1
  have hns160_1 := NB188_187.out
  have hns160_2 := NB195_187.out
  have hms160_1 := NB187_188.out
  have hms160_2 := NB187_195.out
  have hs161 : w158.cell? ⟨gb187,2,none⟩ = some (.slice none 0 0) := bc BK187 2
  have hfs161 := blk_frozen BK187.out 2
  have hns161_1 := NB188_187.out
  have hns161_2 := NB195_187.out
  have hms161_1 := NB187_188.out
  have hms161_2 := NB187_195.out
  have hs162 : w158.cell? ⟨gb187,3,none⟩ = some (.slice none 0 0) := bc BK187 3
  have hfs162 := blk_frozen BK187.out 3
  have hns162_1 := NB188_187.out
  have hns162_2 := NB195_187.out
  have hms162_1 := NB187_188.out
  have hms162_2 := NB187_195.out
  refine skip_ (w1 := ?_) Z255 rfl ?_ ?_
  rotate_left
  ·go_simp
   rfl
  refine hK.out _ _ ⟨((cell_far (p := ⟨gb187,_,none⟩) NB195_187.out _).trans (((cell_far (p := ⟨gb187,_,none⟩) NB195_187.out _).trans (((cell_far (p := ⟨gb187,_,none⟩) NB195_187.out _).trans (((cell_far (p := ⟨gb187,_,none⟩) NB195_187.out _).trans (hHeld.1)))))))),((cell_far (p := ⟨gb187,_,none⟩) NB195_187.out _).trans (((cell_far (p := ⟨gb187,_,none⟩) NB195_187.out _).trans (((cell_far (p := ⟨gb187,_,none⟩) NB195_187.out _).trans (((cell_far (p := ⟨gb187,_,none⟩) NB195_187.out _).trans (hHeld.2.1)))))))),((cell_far (p := ⟨gb187,_,none⟩) NB195_187.out _).trans (((cell_far (p := ⟨gb187,_,none⟩) NB195_187.out _).trans (((cell_far (p := ⟨gb187,_,none⟩) NB195_187.out _).trans (((cell_far (p := ⟨gb187,_,none⟩) NB195_187.out _).trans (hHeld.2.2))))))))⟩ (fun hHeld => ?_)
  clear hK K
  refine one_ (i := 3) (N := none) #[true,true,true,true] rfl rfl Z253 Z355 (fun K hK => ?_)
  have hs163 : w158.cell? ⟨gb188,0,none⟩ = some (.int .i64 0) := bc BK188 0
  have hfs163 := blk_frozen BK188.out 0
  have hns163_0 := NB187_188.out
  have hns163_2 := NB195_188.out
  have hms163_0 := NB188_187.out
  have hms163_2 := NB188_195.out
  have hs164 : w158.cell? ⟨gb188,1,none⟩ = some (.int .i64 0) := bc BK188 1
  have hfs164 := blk_frozen BK188.out 1
  have hns164_0 := NB187_188.out
  have hns164_2 := NB195_188.out
  have hms164_0 := NB188_187.out
  have hms164_2 := NB188_195.out
  have hs165 : w158.cell? ⟨gb188,2,none⟩ = some (.int .i64 0) := bc BK188 2
  have hfs165 := blk_frozen BK188.out 2
  have hns165_0 := NB187_188.out
  have hns165_2 := NB195_188.out
  have hms165_0 := NB188_187.out
  have hms165_2 := NB188_195.out
  refine skip_ (w1 := ?_) Z255 rfl ?_ ?_
  rotate_left
  ·go_simp
   rfl
  refine hK.out _ _ ⟨((cell_far (p := ⟨gb188,_,none⟩) NB195_188.out _).trans (((cell_far (p := ⟨gb188,_,none⟩) NB195_188.out _).trans (((cell_far (p := ⟨gb188,_,none⟩) NB195_188.out _).trans (hHeld.1)))))),((cell_far (p := ⟨gb188,_,none⟩) NB195_188.out _).trans (((cell_far (p := ⟨gb188,_,none⟩) NB195_188.out _).trans (((cell_far (p := ⟨gb188,_,none⟩) NB195_188.out _).trans (hHeld.2.1)))))),((cell_far (p := ⟨gb188,_,none⟩) NB195_188.out _).trans (((cell_far (p := ⟨gb188,_,none⟩) NB195_188.out _).trans (((cell_far (p := ⟨gb188,_,none⟩) NB195_188.out _).trans (hHeld.2.2))))))⟩ (fun hHeld => ?_)
  clear hK K
  refine done_ Z253 ?_
  try go_wp2
  refine bodyPost_ret (results_cc rfl _ _ gb187 gb188 26 28 #[.slice none 0 0,.string (⟨#[]⟩ : ByteArray),.slice none 0 0,.slice none 0 0] #[.int .i64 t192,.int .i64 t193,.int .i64 t194] (0,0) (0,0) _ _ rfl Z39 Tryd.underlying26 rfl Z253 rfl (by refine bP ?_;refine blk_put (cs := #[.int .i64 t192,.int .i64 t193,.int .i64 0]) ?_ 2 _ rfl;refine bP ?_;refine blk_put (cs := #[.int .i64 t192,.int .i64 0,.int .i64 0]) ?_ 1 _ rfl;refine bP ?_;refine blk_put (cs := #[.int .i64 0,.int .i64 0,.int .i64 0]) ?_ 0 _ rfl;refine bP ?_;refine blk_far ?_ NB188_187.out _;refine bP ?_;refine blk_far ?_ NB188_187.out _;refine bP ?_;refine blk_far ?_ NB188_187.out _;refine bP ?_;refine blk_far ?_ NB188_187.out _;refine bP ?_;exact BK188.out) Tryd.underlying28 rfl Z253) rfl ?_
  exact ⟨_,_,_,Z218,Z169,Z170,Z169,Z269⟩
 rw [if_pos c3] at H
 have c3b0 : (t192 == 0) = true := beq_iff_eq.mpr c3
 have c3b1 : (t192 != 0) = false := bne_eq_false_iff_eq.mpr c3
 clear c3
 by_cases c4 : (t189.length : Int) = 0
 ·rw [if_pos c4] at H
  have c4b0 : ((t189.length : Int) == 0) = true := beq_iff_eq.mpr c4
  have c4b1 : ((t189.length : Int) != 0) = false := bne_eq_false_iff_eq.mpr c4
  clear c4
  simp only [Option.some.injEq,Prod.mk.injEq] at H
  obtain ⟨rfl,rfl,rfl,rfl,rfl,rfl,rfl⟩ := H
  go_enter Tryd.func4,Tryd.ntmps4
  go_wp2_with (first | ((with_reducible refine gate_dst (N := 2) rfl ?_);refine bE 2 #[.slice none 0 0,.string (⟨#[]⟩ : ByteArray),.slice none 0 0,.slice none 0 0] 26 (h := ?_);intro gb187 hg wq1 hbox hb;have n_ := Z45;clear HB;obtain ⟨HB,BK187,GW187,GE187⟩ := n_;clear hb hbox hg) | ((with_reducible refine gate_dst (N := 3) rfl ?_);refine bE 3 #[.int .i64 0,.int .i64 0,.int .i64 0] 28 (h := ?_);intro gb188 hg wq2 hbox hb;have n_ := Z13;clear BK187 HB;obtain ⟨BK187,HB,BK188,GW188,GE188,NB187_188,NB188_187⟩ := n_;clear hb hbox hg) | ((with_reducible refine gate_callee (f := 10) rfl ?_);refine goesL_ (some 16) rfl rfl Tryd.func10 Z253 rfl #[.string a0] rfl Z173 ?_;(with_reducible refine (spec_ReadCsv.calls k a0 t189 t192 t193 t194 _ A2.out).mono ?_);rintro e wq3 ⟨vq4,rfl,hoq5,hb⟩;refine ⟨_,rfl,?_⟩;have n_ := Z33;clear BK187 BK188 HB;obtain ⟨HO191,BK187,BK188,HB⟩ := n_;(try clear hb);(try clear hb2);(try clear hk);(try clear hi);(try clear hoq5)) | ((with_reducible refine gate_dst (N := 5) rfl ?_);refine bE 5 #[.int .i64 0,.int .i64 0,.int .i64 0] 28 (h := ?_);intro gb195 hg wq6 hbox hb;have n_ := Z4;clear HO191 BK187 BK188 HB;obtain ⟨HO191,BK187,BK188,HB,BK195,GW195,GE195,NB187_195,NB195_187,NB188_195,NB195_188⟩ := n_;clear hb hbox hg;have hnbq7 := NB195_187.out;have hncq7 := NB187_195.out;have hnbq8 := NB195_188.out;have hncq8 := NB188_195.out;obtain ⟨hczq9_0,hczq9_1,hczq9_2,hfzq9_0,hfzq9_1,hfzq9_2⟩ := cells3 BK195.out;obtain ⟨Aoq10,coq10,eoq10⟩ := Kd.S_slice HO191.out;subst eoq10;have hnbq11 := NB187_188.out;have hncq11 := NB188_187.out;obtain ⟨hczq12_0,hczq12_1,hczq12_2,hczq12_3,hfzq12_0,hfzq12_1,hfzq12_2,hfzq12_3⟩ := cells4 BK187.out;obtain ⟨hczq13_0,hczq13_1,hczq13_2,hfzq13_0,hfzq13_1,hfzq13_2⟩ := cells3 BK188.out))
  refine bodyPost_ret (results_cc rfl _ _ gb187 gb188 26 28 #[.slice none 0 0,.string (⟨#[]⟩ : ByteArray),.slice none 0 0,.slice none 0 0] #[.int .i64 3,.int .i64 0,.int .i64 0] (0,0) (0,0) _ _ rfl Z19 Tryd.underlying26 rfl Z253 rfl (by refine bP ?_;refine blk_put (cs := #[.int .i64 3,.int .i64 0,.int .i64 0]) ?_ 2 _ rfl;refine bP ?_;refine blk_put (cs := #[.int .i64 3,.int .i64 0,.int .i64 0]) ?_ 1 _ rfl;refine bP ?_;refine blk_put (cs := #[.int .i64 0,.int .i64 0,.int .i64 0]) ?_ 0 _ rfl;refine bP ?_;refine blk_far ?_ NB188_187.out _;refine bP ?_;refine blk_far ?_ NB188_187.out _;refine bP ?_;refine blk_far ?_ NB188_187.out _;refine bP ?_;refine blk_far ?_ NB188_187.out _;refine bP ?_;refine blk_far ?_ NB188_195.out _;refine bP ?_;refine blk_far ?_ NB188_195.out _;refine bP ?_;refine blk_far ?_ NB188_195.out _;refine bP ?_;exact BK188.out) Tryd.underlying28 rfl Z253) rfl ?_
  exact ⟨_,_,_,Z218,Z169,Z170,Z169,Z269⟩
 rw [if_neg c4] at H
 have c4b0 : ((t189.length : Int) == 0) = false := beq_eq_false_iff_ne.mpr c4
 have c4b1 : ((t189.length : Int) != 0) = true := bne_iff_ne.mpr c4
 have c4b2 : ¬ (t189 = []) := fun h_ => c4 (by rw [h_];rfl)
 obtain ⟨c16,H⟩ := ifp H
 have c16b0 : decide (0 < (t189.length : Int)) = true := decide_eq_true c16
 have c16b1 : decide (0 < t189.length) = true := decide_eq_true Z254
 clear c16
 obtain ⟨⟨t197,t198,t199⟩,A170,H⟩ := Option.bind_eq_some_iff.mp H
 try dsimp only at H
 have A17 := Aside0.mk A170
 clear A170
 by_cases c18 : t197 = 0
 rotate_left
 ·rw [if_neg c18] at H
  have c18b0 : (t197 == 0) = false := beq_eq_false_iff_ne.mpr c18
  have c18b1 : (t197 != 0) = true := bne_iff_ne.mpr c18
  simp only [Option.some.injEq,Prod.mk.injEq] at H
  obtain ⟨rfl,rfl,rfl,rfl,rfl,rfl,rfl⟩ := H
  go_enter Tryd.func4,Tryd.ntmps4
  try go_wp2_with (first | ((with_reducible refine gate_dst (N := 2) rfl ?_);refine bE 2 #[.slice none 0 0,.string (⟨#[]⟩ : ByteArray),.slice none 0 0,.slice none 0 0] 26 (h := ?_);intro gb187 hg w129 hbox hb;have n_ := Z45;clear HB;obtain ⟨HB,BK187,GW187,GE187⟩ := n_;clear hb hbox hg) | ((with_reducible refine gate_dst (N := 3) rfl ?_);refine bE 3 #[.int .i64 0,.int .i64 0,.int .i64 0] 28 (h := ?_);intro gb188 hg w130 hbox hb;have n_ := Z13;clear BK187 HB;obtain ⟨BK187,HB,BK188,GW188,GE188,NB187_188,NB188_187⟩ := n_;clear hb hbox hg) | ((with_reducible refine gate_callee (f := 10) rfl ?_);refine goesL_ (some 16) rfl rfl Tryd.func10 Z253 rfl #[.string a0] rfl Z173 ?_;(with_reducible refine (spec_ReadCsv.calls k a0 t189 t192 t193 t194 _ A2.out).mono ?_);rintro e w131 ⟨v190,rfl,ho0,hb⟩;refine ⟨_,rfl,?_⟩;have n_ := Z34;clear BK187 BK188 HB;obtain ⟨HO191,BK187,BK188,HB⟩ := n_;(try clear hb);(try clear hb2);(try clear hk);(try clear hi);(try clear ho0)) | ((with_reducible refine gate_dst (N := 5) rfl ?_);refine bE 5 #[.int .i64 0,.int .i64 0,.int .i64 0] 28 (h := ?_);intro gb195 hg w132 hbox hb;have n_ := Z4;clear HO191 BK187 BK188 HB;obtain ⟨HO191,BK187,BK188,HB,BK195,GW195,GE195,NB187_195,NB195_187,NB188_195,NB195_188⟩ := n_;clear hb hbox hg;have hnb133 := NB195_187.out;have hnc133 := NB187_195.out;have hnb134 := NB195_188.out;have hnc134 := NB188_195.out;obtain ⟨hcz135_0,hcz135_1,hcz135_2,hfz135_0,hfz135_1,hfz135_2⟩ := cells3 BK195.out) | ((with_reducible refine gate_store (t := 28) (p := 5) rfl ?_);refine store_event (t := 28) (p := 5) (v := ?vo_w136) (w1 := (((w132.setCell ⟨gb195,0,none⟩ (.int .i64 t192)).setCell ⟨gb195,1,none⟩ (.int .i64 t193)).setCell ⟨gb195,2,none⟩ (.int .i64 t194))) ?hg ?ho ?hn ?hr ?_;(case ho => rfl);(case hg => rfl);(case hn => rfl);(case hr => exact Z239);intro w136 hw;have n0_ : Aside0 (Kd.S (Kd.slice 9 Kd.string) 22 w136 w.heap.size (fun _ => True) v190 t189) := ⟨Z57⟩;have n1_ : Aside0 (w136.heap[gb187]? = some (.cells #[.slice none 0 0,.string (⟨#[]⟩ : ByteArray),.slice none 0 0,.slice none 0 0] 26 (0,0))) := ⟨Z126⟩;have n2_ : Aside0 (w136.heap[gb188]? = some (.cells #[.int .i64 0,.int .i64 0,.int .i64 0] 28 (0,0))) := ⟨Z125⟩;have n3_ : Aside0 (w136.heap[gb195]? = some (.cells #[.int .i64 t192,.int .i64 t193,.int .i64 t194] 28 (0,0))) := ⟨Z81⟩;have n4_ : Aside0 (Below w.heap.size w w136) := ⟨Z106⟩;clear hw;clear HO191;clear BK187;clear BK188;clear BK195;clear HB;have HO191 := n0_;have BK187 := n1_;have BK188 := n2_;have BK195 := n3_;have HB := n4_;clear n0_ n1_ n2_ n3_ n4_;obtain ⟨hcz137_0,hcz137_1,hcz137_2,hfz137_0,hfz137_1,hfz137_2⟩ := cells3 BK195.out;obtain ⟨Ao138,co138,eo138⟩ := Kd.S_slice HO191.out;subst eo138;have p196 : 0 ≤ (0 : Int) := Z254;have q196 : 0 < (t189.length : Int) := of_decide_eq_true Z330;obtain ⟨ad196,A196_0,c196_0,e196,hx196_0,hl196_0,hi196_0⟩ := at_L2 (Kd.S_reads' HO191.out).2.2 0 p196 q196;cases e196;obtain ⟨ce196,hce196,hMe196,hcc196⟩ := Kd.S_get HO191.out [] 0 p196 Z162;obtain ⟨ve196_0,rfl,ge196_0⟩ := hMe196;have hv196_0 := hcc196 0 _ rfl;rw [Nat.add_zero,show ((Kd.slice 9 Kd.string)).sz = 1 from rfl,Nat.mul_one] at hv196_0;replace hv196_0 := Option.some.inj (hv196_0.symm.trans hx196_0);rw [hv196_0] at ge196_0;have HL196_0 := Aside0.mk (show Kd.R Kd.string 9 _ _ _ _ (rd_L2 t189 0) from ge196_0);clear hv196_0 ge196_0;clear hcc196 hce196;have qi196 : (0 < t189.length) = True := eq_true Z254;(try rw [show ((0 : Int)).toNat = 0 from rfl] at hx196_0);(try rw [Addr.add_zero'] at hx196_0);have HR196_0 := Aside0.mk hi196_0;have HC196_0 := Aside0.mk hl196_0;clear hi196_0 hl196_0;replace p196 := eq_true p196;replace q196 := eq_true q196) | ((with_reducible refine gate_callee (f := 11) rfl ?_);refine goesL_ (some 33) rfl rfl Tryd.func11 Z253 rfl #[.slice A196_0 (rd_L2 t189 0).length c196_0] rfl Z173 ?_;(with_reducible refine (spec_l9Head.calls k _ _ (rd_L2 t189 0) t197 t198 t199 _ ?side1 ?side2 A17.out).mono ?_);(case side1 => exact Z72);(case side2 => exact HC196_0.out);rintro e w139 ⟨rfl,hb⟩;refine ⟨_,rfl,?_⟩;have n_ := Z15;clear HO191 HL196_0 BK187 BK188 BK195 HR196_0 HB;obtain ⟨HO191,HL196_0,BK187,BK188,BK195,HR196_0,HB⟩ := n_;(try clear hb);(try clear hb2);(try clear hk);(try clear hi);obtain ⟨hcz140_0,hcz140_1,hcz140_2,hfz140_0,hfz140_1,hfz140_2⟩ := cells3 BK195.out))
  have n0_ : Aside0 (Kd.S (Kd.slice 9 Kd.string) 22 (((w139.setCell ⟨gb195,0,none⟩ (.int .i64 t197)).setCell ⟨gb195,1,none⟩ (.int .i64 t198)).setCell ⟨gb195,2,none⟩ (.int .i64 t199)) w.heap.size (fun _ => True) (.slice (some ad196) t189.length co138) t189) := ⟨Z61⟩
  have n1_ : Aside0 (Kd.R Kd.string 9 (((w139.setCell ⟨gb195,0,none⟩ (.int .i64 t197)).setCell ⟨gb195,1,none⟩ (.int .i64 t198)).setCell ⟨gb195,2,none⟩ (.int .i64 t199)) w.heap.size (fun k_ => some k_ ≠ (.slice (some ad196) t189.length co138 : Value).ownBlock) (.slice A196_0 (rd_L2 t189 0).length c196_0) (rd_L2 t189 0)) := ⟨Z60⟩
  have n2_ : Aside0 ((((w139.setCell ⟨gb195,0,none⟩ (.int .i64 t197)).setCell ⟨gb195,1,none⟩ (.int .i64 t198)).setCell ⟨gb195,2,none⟩ (.int .i64 t199)).heap[gb187]? = some (.cells #[.slice none 0 0,.string (⟨#[]⟩ : ByteArray),.slice none 0 0,.slice none 0 0] 26 (0,0))) := ⟨Z293⟩
  have n3_ : Aside0 ((((w139.setCell ⟨gb195,0,none⟩ (.int .i64 t197)).setCell ⟨gb195,1,none⟩ (.int .i64 t198)).setCell ⟨gb195,2,none⟩ (.int .i64 t199)).heap[gb188]? = some (.cells #[.int .i64 0,.int .i64 0,.int .i64 0] 28 (0,0))) := ⟨Z292⟩
  have n4_ : Aside0 ((((w139.setCell ⟨gb195,0,none⟩ (.int .i64 t197)).setCell ⟨gb195,1,none⟩ (.int .i64 t198)).setCell ⟨gb195,2,none⟩ (.int .i64 t199)).heap[gb195]? = some (.cells #[.int .i64 t197,.int .i64 t198,.int .i64 t199] 28 (0,0))) := ⟨Z84⟩
  have n5_ : Aside0 (Below w.heap.size w (((w139.setCell ⟨gb195,0,none⟩ (.int .i64 t197)).setCell ⟨gb195,1,none⟩ (.int .i64 t198)).setCell ⟨gb195,2,none⟩ (.int .i64 t199))) := ⟨Z269⟩
  (try clear HO191)
  (try clear HL196_0)
  (try clear BK187)
  (try clear BK188)
  (try clear BK195)
  (try clear HB)
  generalize (((w139.setCell ⟨gb195,0,none⟩ (.int .i64 t197)).setCell ⟨gb195,1,none⟩ (.int .i64 t198)).setCell ⟨gb195,2,none⟩ (.int .i64 t199)) = w141 at n0_ n1_ n2_ n3_ n4_ n5_ ⊢
  have HO191 := n0_
  have HL196_0 := n1_
  have BK187 := n2_
  have BK188 := n3_
  have BK195 := n4_
  have HB := n5_
  clear n0_ n1_ n2_ n3_ n4_ n5_
  have n_ := jA (Kd.S_drew HO191.out) (jA (Kd.R_drew HL196_0.out) (jA (blk_drew BK187.out) (jA (blk_drew BK188.out) (jA (blk_drew BK195.out) (Aside0.mk (below_drew1 HB.out))))))
  clear HO191 HL196_0 BK187 BK188 BK195 HB
  obtain ⟨HO191,HL196_0,BK187,BK188,BK195,HB⟩ := n_
  refine start_ (n := 4) (S := fun w' => w'.cell? ⟨gb195,0,none⟩ = some (.int .i64 t197) ∧ w'.cell? ⟨gb195,1,none⟩ = some (.int .i64 t198) ∧ w'.cell? ⟨gb195,2,none⟩ = some (.int .i64 t199)) (ds := []) (qM 4 0) Z253 rfl (by kernel_rfl) ⟨bc BK195 0,bc BK195 1,bc BK195 2⟩ (fun hHeld => ?_)
  generalize w141.drew = w142 at HO191 HL196_0 BK187 BK188 BK195 HB hHeld ⊢
  refine sP 0 37 4 1 (h := ?_)
  refine sT3 1 38 4 3 hHeld (h := ?_)
  refine one_ (i := 2) (N := none) #[true,true,true,false] rfl rfl Z253 Z355 (fun K hK => ?_)
  have hs143 : w142.cell? ⟨gb187,0,none⟩ = some (.slice none 0 0) := bc BK187 0
  have hfs143 := blk_frozen BK187.out 0
  have hns143_1 := NB188_187.out
  have hns143_2 := NB195_187.out
  have hms143_1 := NB187_188.out
  have hms143_2 := NB187_195.out
  have hs144 : w142.cell? ⟨gb187,1,none⟩ = some (.string (⟨#[]⟩ : ByteArray)) := bc BK187 1
  have hfs144 := blk_frozen BK187.out 1
  have hns144_1 := NB188_187.out
  have hns144_2 := NB195_187.out
  have hms144_1 := NB187_188.out
  have hms144_2 := NB187_195.out
  have hs145 : w142.cell? ⟨gb187,2,none⟩ = some (.slice none 0 0) := bc BK187 2
  have hfs145 := blk_frozen BK187.out 2
  have hns145_1 := NB188_187.out
  have hns145_2 := NB195_187.out
  have hms145_1 := NB187_188.out
  have hms145_2 := NB187_195.out
  have hs146 : w142.cell? ⟨gb187,3,none⟩ = some (.slice none 0 0) := bc BK187 3
  have hfs146 := blk_frozen BK187.out 3
  have hns146_1 := NB188_187.out
  have hns146_2 := NB195_187.out
  have hms146_1 := NB187_188.out
  have hms146_2 := NB187_195.out
  refine skip_ (w1 := ?_) Z255 rfl ?_ ?_
  rotate_left
  ·go_simp
   rfl
  refine hK.out _ _ ⟨((cell_far (p := ⟨gb187,_,none⟩) NB195_187.out _).trans (((cell_far (p := ⟨gb187,_,none⟩) NB195_187.out _).trans (((cell_far (p := ⟨gb187,_,none⟩) NB195_187.out _).trans (((cell_far (p := ⟨gb187,_,none⟩) NB195_187.out _).trans (hHeld.1)))))))),((cell_far (p := ⟨gb187,_,none⟩) NB195_187.out _).trans (((cell_far (p := ⟨gb187,_,none⟩) NB195_187.out _).trans (((cell_far (p := ⟨gb187,_,none⟩) NB195_187.out _).trans (((cell_far (p := ⟨gb187,_,none⟩) NB195_187.out _).trans (hHeld.2.1)))))))),((cell_far (p := ⟨gb187,_,none⟩) NB195_187.out _).trans (((cell_far (p := ⟨gb187,_,none⟩) NB195_187.out _).trans (((cell_far (p := ⟨gb187,_,none⟩) NB195_187.out _).trans (((cell_far (p := ⟨gb187,_,none⟩) NB195_187.out _).trans (hHeld.2.2))))))))⟩ (fun hHeld => ?_)
  clear hK K
  refine one_ (i := 3) (N := none) #[true,true,true,true] rfl rfl Z253 Z355 (fun K hK => ?_)
  have hs147 : w142.cell? ⟨gb188,0,none⟩ = some (.int .i64 0) := bc BK188 0
  have hfs147 := blk_frozen BK188.out 0
  have hns147_0 := NB187_188.out
  have hns147_2 := NB195_188.out
  have hms147_0 := NB188_187.out
  have hms147_2 := NB188_195.out
  have hs148 : w142.cell? ⟨gb188,1,none⟩ = some (.int .i64 0) := bc BK188 1
  have hfs148 := blk_frozen BK188.out 1
  have hns148_0 := NB187_188.out
  have hns148_2 := NB195_188.out
  have hms148_0 := NB188_187.out
  have hms148_2 := NB188_195.out
  have hs149 : w142.cell? ⟨gb188,2,none⟩ = some (.int .i64 0) := bc BK188 2
  have hfs149 := blk_frozen BK188.out 2
  have hns149_0 := NB187_188.out
  have hns149_2 := NB195_188.out
  have hms149_0 := NB188_187.out
  have hms149_2 := NB188_195.out
  refine skip_ (w1 := ?_) Z255 rfl ?_ ?_
  rotate_left
  ·go_simp
   rfl
  refine hK.out _ _ ⟨((cell_far (p := ⟨gb188,_,none⟩) NB195_188.out _).trans (((cell_far (p := ⟨gb188,_,none⟩) NB195_188.out _).trans (((cell_far (p := ⟨gb188,_,none⟩) NB195_188.out _).trans (hHeld.1)))))),((cell_far (p := ⟨gb188,_,none⟩) NB195_188.out _).trans (((cell_far (p := ⟨gb188,_,none⟩) NB195_188.out _).trans (((cell_far (p := ⟨gb188,_,none⟩) NB195_188.out _).trans (hHeld.2.1)))))),((cell_far (p := ⟨gb188,_,none⟩) NB195_188.out _).trans (((cell_far (p := ⟨gb188,_,none⟩) NB195_188.out _).trans (((cell_far (p := ⟨gb188,_,none⟩) NB195_188.out _).trans (hHeld.2.2))))))⟩ (fun hHeld => ?_)
  clear hK K
  refine done_ Z253 ?_
  try go_wp2
  refine bodyPost_ret (results_cc rfl _ _ gb187 gb188 26 28 #[.slice none 0 0,.string (⟨#[]⟩ : ByteArray),.slice none 0 0,.slice none 0 0] #[.int .i64 t197,.int .i64 t198,.int .i64 t199] (0,0) (0,0) _ _ rfl Z39 Tryd.underlying26 rfl Z253 rfl (by refine bP ?_;refine blk_put (cs := #[.int .i64 t197,.int .i64 t198,.int .i64 0]) ?_ 2 _ rfl;refine bP ?_;refine blk_put (cs := #[.int .i64 t197,.int .i64 0,.int .i64 0]) ?_ 1 _ rfl;refine bP ?_;refine blk_put (cs := #[.int .i64 0,.int .i64 0,.int .i64 0]) ?_ 0 _ rfl;refine bP ?_;refine blk_far ?_ NB188_187.out _;refine bP ?_;refine blk_far ?_ NB188_187.out _;refine bP ?_;refine blk_far ?_ NB188_187.out _;refine bP ?_;refine blk_far ?_ NB188_187.out _;refine bP ?_;exact BK188.out) Tryd.underlying28 rfl Z253) rfl ?_
  exact ⟨_,_,_,Z218,Z169,Z170,Z169,Z269⟩
 rw [if_pos c18] at H
 have c18b0 : (t197 == 0) = true := beq_iff_eq.mpr c18
 have c18b1 : (t197 != 0) = false := bne_eq_false_iff_eq.mpr c18
 clear c18
 obtain ⟨t200,A190,H⟩ := Option.bind_eq_some_iff.mp H
 have A19 := Aside0.mk A190
 clear A190
 by_cases c20 : t200 = true
 rotate_left
 ·replace c20 := Bool.eq_false_iff.mpr c20
  subst c20
  rw [if_neg Bool.false_ne_true] at H
  simp only [Option.some.injEq,Prod.mk.injEq] at H
  obtain ⟨rfl,rfl,rfl,rfl,rfl,rfl,rfl⟩ := H
  go_enter Tryd.func4,Tryd.ntmps4
  go_wp2_with (first | ((with_reducible refine gate_dst (N := 2) rfl ?_);refine bE 2 #[.slice none 0 0,.string (⟨#[]⟩ : ByteArray),.slice none 0 0,.slice none 0 0] 26 (h := ?_);intro gb187 hg wq1 hbox hb;have n_ := Z45;clear HB;obtain ⟨HB,BK187,GW187,GE187⟩ := n_;clear hb hbox hg) | ((with_reducible refine gate_dst (N := 3) rfl ?_);refine bE 3 #[.int .i64 0,.int .i64 0,.int .i64 0] 28 (h := ?_);intro gb188 hg wq2 hbox hb;have n_ := Z13;clear BK187 HB;obtain ⟨BK187,HB,BK188,GW188,GE188,NB187_188,NB188_187⟩ := n_;clear hb hbox hg) | ((with_reducible refine gate_callee (f := 10) rfl ?_);refine goesL_ (some 16) rfl rfl Tryd.func10 Z253 rfl #[.string a0] rfl Z173 ?_;(with_reducible refine (spec_ReadCsv.calls k a0 t189 t192 t193 t194 _ A2.out).mono ?_);rintro e wq3 ⟨vq4,rfl,hoq5,hb⟩;refine ⟨_,rfl,?_⟩;have n_ := Z33;clear BK187 BK188 HB;obtain ⟨HO191,BK187,BK188,HB⟩ := n_;(try clear hb);(try clear hb2);(try clear hk);(try clear hi);(try clear hoq5)) | ((with_reducible refine gate_dst (N := 5) rfl ?_);refine bE 5 #[.int .i64 0,.int .i64 0,.int .i64 0] 28 (h := ?_);intro gb195 hg wq6 hbox hb;have n_ := Z4;clear HO191 BK187 BK188 HB;obtain ⟨HO191,BK187,BK188,HB,BK195,GW195,GE195,NB187_195,NB195_187,NB188_195,NB195_188⟩ := n_;clear hb hbox hg;have hnbq7 := NB195_187.out;have hncq7 := NB187_195.out;have hnbq8 := NB195_188.out;have hncq8 := NB188_195.out;obtain ⟨hczq9_0,hczq9_1,hczq9_2,hfzq9_0,hfzq9_1,hfzq9_2⟩ := cells3 BK195.out) | ((with_reducible refine gate_store (t := 28) (p := 5) rfl ?_);refine store_event (t := 28) (p := 5) (v := ?vo_w121) (w1 := (((wq6.setCell ⟨gb195,0,none⟩ (.int .i64 t192)).setCell ⟨gb195,1,none⟩ (.int .i64 t193)).setCell ⟨gb195,2,none⟩ (.int .i64 t194))) ?hg ?ho ?hn ?hr ?_;(case ho => rfl);(case hg => rfl);(case hn => rfl);(case hr => exact Z239);intro wq10 hw;have n0_ : Aside0 (Kd.S (Kd.slice 9 Kd.string) 22 wq10 w.heap.size (fun _ => True) vq4 t189) := ⟨Z57⟩;have n1_ : Aside0 (wq10.heap[gb187]? = some (.cells #[.slice none 0 0,.string (⟨#[]⟩ : ByteArray),.slice none 0 0,.slice none 0 0] 26 (0,0))) := ⟨Z126⟩;have n2_ : Aside0 (wq10.heap[gb188]? = some (.cells #[.int .i64 0,.int .i64 0,.int .i64 0] 28 (0,0))) := ⟨Z125⟩;have n3_ : Aside0 (wq10.heap[gb195]? = some (.cells #[.int .i64 t192,.int .i64 t193,.int .i64 t194] 28 (0,0))) := ⟨Z81⟩;have n4_ : Aside0 (Below w.heap.size w wq10) := ⟨Z106⟩;clear hw;clear HO191;clear BK187;clear BK188;clear BK195;clear HB;have HO191 := n0_;have BK187 := n1_;have BK188 := n2_;have BK195 := n3_;have HB := n4_;clear n0_ n1_ n2_ n3_ n4_;obtain ⟨hczq11_0,hczq11_1,hczq11_2,hfzq11_0,hfzq11_1,hfzq11_2⟩ := cells3 BK195.out;obtain ⟨Aoq12,coq12,eoq12⟩ := Kd.S_slice HO191.out;subst eoq12;have pq13 : 0 ≤ (0 : Int) := Z254;have qq13 : 0 < (t189.length : Int) := of_decide_eq_true Z330;obtain ⟨adq13,A196_0,c196_0,eq13,hxq13_0,hlq13_0,hiq13_0⟩ := at_L2 (Kd.S_reads' HO191.out).2.2 0 pq13 qq13;cases eq13;obtain ⟨ceq13,hceq13,hMeq13,hccq13⟩ := Kd.S_get HO191.out [] 0 pq13 (by first | exact qq13 | exact of_decide_eq_true Z330 | (have e_ := (Kd.S_reads' HO191.out).1;omega));obtain ⟨veq13_0,rfl,geq13_0⟩ := hMeq13;have hvq13_0 := hccq13 0 _ rfl;rw [Nat.add_zero,show ((Kd.slice 9 Kd.string)).sz = 1 from rfl,Nat.mul_one] at hvq13_0;replace hvq13_0 := Option.some.inj (hvq13_0.symm.trans hxq13_0);rw [hvq13_0] at geq13_0;have HL196_0 := Aside0.mk (show Kd.R Kd.string 9 _ _ _ _ (rd_L2 t189 0) from geq13_0);clear hvq13_0 geq13_0;clear hccq13 hceq13;have qiq13 : (0 < t189.length) = True := eq_true Z254;(try rw [show ((0 : Int)).toNat = 0 from rfl] at hxq13_0);(try rw [Addr.add_zero'] at hxq13_0);have HR196_0 := Aside0.mk hiq13_0;have HC196_0 := Aside0.mk hlq13_0;clear hiq13_0 hlq13_0;replace pq13 := eq_true pq13;replace qq13 := eq_true qq13) | ((with_reducible refine gate_callee (f := 11) rfl ?_);refine goesL_ (some 33) rfl rfl Tryd.func11 Z253 rfl #[.slice A196_0 (rd_L2 t189 0).length c196_0] rfl Z173 ?_;(with_reducible refine (spec_l9Head.calls k _ _ (rd_L2 t189 0) t197 t198 t199 _ ?side1 ?side2 A17.out).mono ?_);(case side1 => exact Z72);(case side2 => exact HC196_0.out);rintro e wq14 ⟨rfl,hb⟩;refine ⟨_,rfl,?_⟩;have n_ := Z15;clear HO191 HL196_0 BK187 BK188 BK195 HR196_0 HB;obtain ⟨HO191,HL196_0,BK187,BK188,BK195,HR196_0,HB⟩ := n_;(try clear hb);(try clear hb2);(try clear hk);(try clear hi);obtain ⟨hczq15_0,hczq15_1,hczq15_2,hfzq15_0,hfzq15_1,hfzq15_2⟩ := cells3 BK195.out) | ((with_reducible refine gate_callee (f := 12) rfl ?_);refine goesL_ (some 42) rfl rfl Tryd.func12 Z253 rfl #[.int .i64 (wrap64 ((t189.length : Int) - 1)),.int .i64 1,.int .i64 40] rfl Z173 ?_;(with_reducible refine (spec_l1In.calls (wrap64 ((t189.length : Int) - 1)) 1 40 false _ A19.out).mono ?_);rintro e w' ⟨rfl,⟨nd,rfl⟩⟩;refine ⟨_,rfl,?_⟩;have hnbq16 := NB187_188.out;have hncq16 := NB188_187.out;obtain ⟨hczq17_0,hczq17_1,hczq17_2,hczq17_3,hfzq17_0,hfzq17_1,hfzq17_2,hfzq17_3⟩ := cells4 BK187.out;obtain ⟨hczq18_0,hczq18_1,hczq18_2,hfzq18_0,hfzq18_1,hfzq18_2⟩ := cells3 BK188.out))
  refine bodyPost_ret (results_cc rfl _ _ gb187 gb188 26 28 #[.slice none 0 0,.string (⟨#[]⟩ : ByteArray),.slice none 0 0,.slice none 0 0] #[.int .i64 8,.int .i64 0,.int .i64 0] (0,0) (0,0) _ _ rfl Z19 Tryd.underlying26 rfl Z253 rfl (by refine bP ?_;refine blk_put (cs := #[.int .i64 8,.int .i64 0,.int .i64 0]) ?_ 2 _ rfl;refine bP ?_;refine blk_put (cs := #[.int .i64 8,.int .i64 0,.int .i64 0]) ?_ 1 _ rfl;refine bP ?_;refine blk_put (cs := #[.int .i64 0,.int .i64 0,.int .i64 0]) ?_ 0 _ rfl;refine bP ?_;refine blk_far ?_ NB188_187.out _;refine bP ?_;refine blk_far ?_ NB188_187.out _;refine bP ?_;refine blk_far ?_ NB188_187.out _;refine bP ?_;refine blk_far ?_ NB188_187.out _;refine bP ?_;refine blk_far ?_ NB188_195.out _;refine bP ?_;refine blk_far ?_ NB188_195.out _;refine bP ?_;refine blk_far ?_ NB188_195.out _;refine bP ?_;exact BK188.out) Tryd.underlying28 rfl Z253) rfl ?_
  exact ⟨_,_,_,Z218,Z169,Z170,Z169,Z269⟩
 subst c20
 rw [if_pos rfl] at H
 obtain ⟨y201,hyy⟩ : ∃ y_ : List ByteArray,y_ = (([] : List ByteArray)) := ⟨_,rfl⟩
 replace H : (if 0 ≤ (wrap64 (((rd_L2 t189 0).length : Int) - 1)) then (if (wrap64 (((rd_L2 t189 0).length : Int) - 1)) ≤ ((rd_L2 t189 0).length : Int) then ((some ((rd_L2 t189 0).take ((wrap64 (((rd_L2 t189 0).length : Int) - 1)) : Int).toNat : List ByteArray)).bind fun y204 => (if y201.length + y204.length < 8796093022208 then (if (wrap64 (((rd_L2 t189 0).length : Int) - 1)) < ((rd_L2 t189 0).length : Int) then (spec_ReadTable.l0 k t189 (wrap64 (((rd_L2 t189 0).length : Int) - 1)) 1 (y201 ++ y204) (rdOf ByteArray.empty (rd_L2 t189 0) (wrap64 (((rd_L2 t189 0).length : Int) - 1))) ([] : List (List Int)) ([] : List Int)) else (none)) else (none))) else (none)) else (none)) = some (r1,r2,r3,r4,r5,r6,r7) := zR
 have Ny201 := Aside0.mk hyy
 clear hyy
 obtain ⟨ji21,hji21⟩ : ∃ j_ : Int,(wrap64 (((rd_L2 t189 0).length : Int) - 1)) = j_ := ⟨_,rfl⟩
 replace H : (if 0 ≤ (ji21) then (if (ji21) ≤ ((rd_L2 t189 0).length : Int) then ((some ((rd_L2 t189 0).take ((ji21) : Int).toNat : List ByteArray)).bind fun y204 => (if y201.length + y204.length < 8796093022208 then (if (ji21) < ((rd_L2 t189 0).length : Int) then (spec_ReadTable.l0 k t189 ji21 1 (y201 ++ y204) (rdOf ByteArray.empty (rd_L2 t189 0) (ji21)) ([] : List (List Int)) ([] : List Int)) else (none)) else (none))) else (none)) else (none)) = some (r1,r2,r3,r4,r5,r6,r7) := by first | (rw [hji21] at H;exact H) | (simp only [hji21] at H ⊢;exact H)
 (try rw [hji21] at A2)
 (try rw [hji21] at A17)
 (try rw [hji21] at A19)
 have hji21w : (IntKind.i64.wrap (((rd_L2 t189 0).length : Int) - 1)) = ji21 := (i64_w _).trans hji21
 obtain ⟨c22,H⟩ := ifp H
 have c22b0 := eq_true c22
 have c22b1 : decide (0 ≤ (ji21)) = true := decide_eq_true c22
 clear c22
 obtain ⟨c23,H⟩ := ifp H
 have c23b0 := eq_true c23
 have c23b1 : decide ((ji21) ≤ ((rd_L2 t189 0).length : Int)) = true := decide_eq_true c23
 clear c23
 obtain ⟨y204,hyy⟩ : ∃ y_ : List ByteArray,y_ = ((rd_L2 t189 0).take ((ji21) : Int).toNat) := ⟨_,rfl⟩
 replace H : (if y201.length + y204.length < 8796093022208 then (if (ji21) < ((rd_L2 t189 0).length : Int) then (spec_ReadTable.l0 k t189 ji21 1 (y201 ++ y204) (rdOf ByteArray.empty (rd_L2 t189 0) (ji21)) ([] : List (List Int)) ([] : List Int)) else (none)) else (none)) = some (r1,r2,r3,r4,r5,r6,r7) := zR
 have Ny204 := Aside0.mk hyy
 clear hyy
 obtain ⟨c24,H⟩ := ifp H
 have LMc24 := Aside0.mk c24
 clear c24
 obtain ⟨y208,hyy⟩ : ∃ y_ : List ByteArray,y_ = (y201 ++ y204) := ⟨_,rfl⟩
 replace H : (if (ji21) < ((rd_L2 t189 0).length : Int) then (spec_ReadTable.l0 k t189 ji21 1 y208 (rdOf ByteArray.empty (rd_L2 t189 0) (ji21)) ([] : List (List Int)) ([] : List Int)) else (none)) = some (r1,r2,r3,r4,r5,r6,r7) := zR
 have Ny208 := Aside0.mk hyy
 clear hyy
 obtain ⟨c25,H⟩ := ifp H
 have c25b0 : decide ((ji21) < ((rd_L2 t189 0).length : Int)) = true := decide_eq_true c25
 clear c25
 have H' := Aside0.mk H
 clear H
 go_enter Tryd.func4,Tryd.ntmps4
 try go_wp2_with (first | ((with_reducible refine gate_dst (N := 2) rfl ?_);refine bE 2 #[.slice none 0 0,.string (⟨#[]⟩ : ByteArray),.slice none 0 0,.slice none 0 0] 26 (h := ?_);intro gb187 hg w26 hbox hb;have n_ := Z45;clear HB;obtain ⟨HB,BK187,GW187,GE187⟩ := n_;clear hb hbox hg) | ((with_reducible refine gate_dst (N := 3) rfl ?_);refine bE 3 #[.int .i64 0,.int .i64 0,.int .i64 0] 28 (h := ?_);intro gb188 hg w27 hbox hb;have n_ := Z13;clear BK187 HB;obtain ⟨BK187,HB,BK188,GW188,GE188,NB187_188,NB188_187⟩ := n_;clear hb hbox hg) | ((with_reducible refine gate_callee (f := 10) rfl ?_);refine goesL_ (some 16) rfl rfl Tryd.func10 Z253 rfl #[.string a0] rfl Z173 ?_;(with_reducible refine (spec_ReadCsv.calls k a0 t189 t192 t193 t194 _ A2.out).mono ?_);rintro e w28 ⟨v190,rfl,ho0,hb⟩;refine ⟨_,rfl,?_⟩;have n_ := Z34;clear BK187 BK188 HB;obtain ⟨HO191,BK187,BK188,HB⟩ := n_;(try clear hb);(try clear hb2);(try clear hk);(try clear hi);(try clear ho0)) | ((with_reducible refine gate_dst (N := 5) rfl ?_);refine bE 5 #[.int .i64 0,.int .i64 0,.int .i64 0] 28 (h := ?_);intro gb195 hg w29 hbox hb;have n_ := Z4;clear HO191 BK187 BK188 HB;obtain ⟨HO191,BK187,BK188,HB,BK195,GW195,GE195,NB187_195,NB195_187,NB188_195,NB195_188⟩ := n_;clear hb hbox hg;have hnb30 := NB195_187.out;have hnc30 := NB187_195.out;have hnb31 := NB195_188.out;have hnc31 := NB188_195.out;obtain ⟨hcz32_0,hcz32_1,hcz32_2,hfz32_0,hfz32_1,hfz32_2⟩ := cells3 BK195.out) | ((with_reducible refine gate_store (t := 28) (p := 5) rfl ?_);refine store_event (t := 28) (p := 5) (v := ?vo_w33) (w1 := (((w29.setCell ⟨gb195,0,none⟩ (.int .i64 t192)).setCell ⟨gb195,1,none⟩ (.int .i64 t193)).setCell ⟨gb195,2,none⟩ (.int .i64 t194))) ?hg ?ho ?hn ?hr ?_;(case ho => rfl);(case hg => rfl);(case hn => rfl);(case hr => exact Z239);intro w33 hw;have n0_ : Aside0 (Kd.S (Kd.slice 9 Kd.string) 22 w33 w.heap.size (fun _ => True) v190 t189) := ⟨Z57⟩;have n1_ : Aside0 (w33.heap[gb187]? = some (.cells #[.slice none 0 0,.string (⟨#[]⟩ : ByteArray),.slice none 0 0,.slice none 0 0] 26 (0,0))) := ⟨Z126⟩;have n2_ : Aside0 (w33.heap[gb188]? = some (.cells #[.int .i64 0,.int .i64 0,.int .i64 0] 28 (0,0))) := ⟨Z125⟩;have n3_ : Aside0 (w33.heap[gb195]? = some (.cells #[.int .i64 t192,.int .i64 t193,.int .i64 t194] 28 (0,0))) := ⟨Z81⟩;have n4_ : Aside0 (Below w.heap.size w w33) := ⟨Z106⟩;clear hw;clear HO191;clear BK187;clear BK188;clear BK195;clear HB;have HO191 := n0_;have BK187 := n1_;have BK188 := n2_;have BK195 := n3_;have HB := n4_;clear n0_ n1_ n2_ n3_ n4_;obtain ⟨hcz34_0,hcz34_1,hcz34_2,hfz34_0,hfz34_1,hfz34_2⟩ := cells3 BK195.out;obtain ⟨Ao35,co35,eo35⟩ := Kd.S_slice HO191.out;subst eo35;have p196 : 0 ≤ (0 : Int) := Z254;have q196 : 0 < (t189.length : Int) := of_decide_eq_true Z330;obtain ⟨ad196,A196_0,c196_0,e196,hx196_0,hl196_0,hi196_0⟩ := at_L2 (Kd.S_reads' HO191.out).2.2 0 p196 q196;cases e196;obtain ⟨ce196,hce196,hMe196,hcc196⟩ := Kd.S_get HO191.out [] 0 p196 Z162;obtain ⟨ve196_0,rfl,ge196_0⟩ := hMe196;have hv196_0 := hcc196 0 _ rfl;rw [Nat.add_zero,show ((Kd.slice 9 Kd.string)).sz = 1 from rfl,Nat.mul_one] at hv196_0;replace hv196_0 := Option.some.inj (hv196_0.symm.trans hx196_0);rw [hv196_0] at ge196_0;have HL196_0 := Aside0.mk (show Kd.R Kd.string 9 _ _ _ _ (rd_L2 t189 0) from ge196_0);clear hv196_0 ge196_0;clear hcc196 hce196;have qi196 : (0 < t189.length) = True := eq_true Z254;(try rw [show ((0 : Int)).toNat = 0 from rfl] at hx196_0);(try rw [Addr.add_zero'] at hx196_0);have HR196_0 := Aside0.mk hi196_0;have HC196_0 := Aside0.mk hl196_0;clear hi196_0 hl196_0;replace p196 := eq_true p196;replace q196 := eq_true q196) | ((with_reducible refine gate_callee (f := 11) rfl ?_);refine goesL_ (some 33) rfl rfl Tryd.func11 Z253 rfl #[.slice A196_0 (rd_L2 t189 0).length c196_0] rfl Z173 ?_;(with_reducible refine (spec_l9Head.calls k _ _ (rd_L2 t189 0) t197 t198 t199 _ ?side1 ?side2 A17.out).mono ?_);(case side1 => exact Z72);(case side2 => exact HC196_0.out);rintro e w36 ⟨rfl,hb⟩;refine ⟨_,rfl,?_⟩;have n_ := Z15;clear HO191 HL196_0 BK187 BK188 BK195 HR196_0 HB;obtain ⟨HO191,HL196_0,BK187,BK188,BK195,HR196_0,HB⟩ := n_;(try clear hb);(try clear hb2);(try clear hk);(try clear hi);obtain ⟨hcz37_0,hcz37_1,hcz37_2,hfz37_0,hfz37_1,hfz37_2⟩ := cells3 BK195.out) | ((with_reducible refine gate_callee (f := 12) rfl ?_);refine goesL_ (some 42) rfl rfl Tryd.func12 Z253 rfl #[.int .i64 (wrap64 ((t189.length : Int) - 1)),.int .i64 1,.int .i64 40] rfl Z173 ?_;(with_reducible refine (spec_l1In.calls (wrap64 ((t189.length : Int) - 1)) 1 40 true _ A19.out).mono ?_);rintro e w' ⟨rfl,⟨nd,rfl⟩⟩;refine ⟨_,rfl,?_⟩))
 have n0_ : Aside0 (Kd.S (Kd.slice 9 Kd.string) 22 (((w36.setCell ⟨gb195,0,none⟩ (.int .i64 t197)).setCell ⟨gb195,1,none⟩ (.int .i64 t198)).setCell ⟨gb195,2,none⟩ (.int .i64 t199)) w.heap.size (fun _ => True) (.slice (some ad196) t189.length co35) t189) := ⟨Z61⟩
 have n1_ : Aside0 (Kd.R Kd.string 9 (((w36.setCell ⟨gb195,0,none⟩ (.int .i64 t197)).setCell ⟨gb195,1,none⟩ (.int .i64 t198)).setCell ⟨gb195,2,none⟩ (.int .i64 t199)) w.heap.size (fun k_ => some k_ ≠ (.slice (some ad196) t189.length co35 : Value).ownBlock) (.slice A196_0 (rd_L2 t189 0).length c196_0) (rd_L2 t189 0)) := ⟨Z60⟩
 have n2_ : Aside0 ((((w36.setCell ⟨gb195,0,none⟩ (.int .i64 t197)).setCell ⟨gb195,1,none⟩ (.int .i64 t198)).setCell ⟨gb195,2,none⟩ (.int .i64 t199)).heap[gb187]? = some (.cells #[.slice none 0 0,.string (⟨#[]⟩ : ByteArray),.slice none 0 0,.slice none 0 0] 26 (0,0))) := ⟨Z293⟩
 have n3_ : Aside0 ((((w36.setCell ⟨gb195,0,none⟩ (.int .i64 t197)).setCell ⟨gb195,1,none⟩ (.int .i64 t198)).setCell ⟨gb195,2,none⟩ (.int .i64 t199)).heap[gb188]? = some (.cells #[.int .i64 0,.int .i64 0,.int .i64 0] 28 (0,0))) := ⟨Z292⟩
 have n4_ : Aside0 ((((w36.setCell ⟨gb195,0,none⟩ (.int .i64 t197)).setCell ⟨gb195,1,none⟩ (.int .i64 t198)).setCell ⟨gb195,2,none⟩ (.int .i64 t199)).heap[gb195]? = some (.cells #[.int .i64 t197,.int .i64 t198,.int .i64 t199] 28 (0,0))) := ⟨Z84⟩
 have n5_ : Aside0 (Below w.heap.size w (((w36.setCell ⟨gb195,0,none⟩ (.int .i64 t197)).setCell ⟨gb195,1,none⟩ (.int .i64 t198)).setCell ⟨gb195,2,none⟩ (.int .i64 t199))) := ⟨Z269⟩
 (try clear HO191)
 (try clear HL196_0)
 (try clear BK187)
 (try clear BK188)
 (try clear BK195)
 (try clear HB)
 generalize (((w36.setCell ⟨gb195,0,none⟩ (.int .i64 t197)).setCell ⟨gb195,1,none⟩ (.int .i64 t198)).setCell ⟨gb195,2,none⟩ (.int .i64 t199)) = w38 at n0_ n1_ n2_ n3_ n4_ n5_ ⊢
 have HO191 := n0_
 have HL196_0 := n1_
 have BK187 := n2_
 have BK188 := n3_
 have BK195 := n4_
 have HB := n5_
 clear n0_ n1_ n2_ n3_ n4_ n5_
 (iterate 4 (try (rw [drewN_self w38];generalize hq_ : World.drewN w38 _ = w38;have n0_ : Aside0 (Kd.R Kd.string 9 w38 w.heap.size (fun k_ => some k_ ≠ (.slice (some ad196) t189.length co35 : Value).ownBlock) (.slice A196_0 (rd_L2 t189 0).length c196_0) (rd_L2 t189 0)) := ⟨by rw [← hq_];exact Z312⟩;have n1_ : Aside0 (Kd.S (Kd.slice 9 Kd.string) 22 w38 w.heap.size (fun _ => True) (.slice (some ad196) t189.length co35) t189) := ⟨by rw [← hq_];exact Z318⟩;have n2_ : Aside0 (w38.heap[gb187]? = some (.cells #[.slice none 0 0,.string (⟨#[]⟩ : ByteArray),.slice none 0 0,.slice none 0 0] 26 (0,0))) := ⟨by rw [← hq_];exact Z353⟩;have n3_ : Aside0 (w38.heap[gb188]? = some (.cells #[.int .i64 0,.int .i64 0,.int .i64 0] 28 (0,0))) := ⟨by rw [← hq_];exact Z354⟩;have n4_ : Aside0 (w38.heap[gb195]? = some (.cells #[.int .i64 t197,.int .i64 t198,.int .i64 t199] 28 (0,0))) := ⟨by rw [← hq_];exact Z334⟩;have n5_ : Aside0 (Below w.heap.size w w38) := ⟨by rw [← hq_];exact Z269⟩;clear HL196_0 HO191 BK187 BK188 BK195 HB hq_;have HL196_0 := n0_;have HO191 := n1_;have BK187 := n2_;have BK188 := n3_;have BK195 := n4_;have HB := n5_;clear n0_ n1_ n2_ n3_ n4_ n5_)))
 have n_ := jA (Kd.S_drew HO191.out) (jA (Kd.R_drew HL196_0.out) (jA (blk_drew BK187.out) (jA (blk_drew BK188.out) (jA (blk_drew BK195.out) (Aside0.mk (below_drew1 HB.out))))))
 clear HO191 HL196_0 BK187 BK188 BK195 HB
 obtain ⟨HO191,HL196_0,BK187,BK188,BK195,HB⟩ := n_
 have q40 : ((ji21) : Int) ≤ (((rd_L2 t189 0).length : Int) : Int) := of_decide_eq_true Z330
 obtain ⟨i040,hi040,_,hsz40,_⟩ := info_parts info9
 have hroom40 : (rd_L2 t189 0).length ≤ c196_0 := HC196_0.out
 have hC40 : Kd.C Kd.string _ A196_0 (rd_L2 t189 0).length (rd_L2 t189 0) := ((Kd.R_reads' HL196_0.out).2.2)
 have hcut40 := cut_to (P := Tryd.prog) 22 9 .i64 Tryd.underlying22 hi040 A196_0 (rd_L2 t189 0).length c196_0 (ji21) (of_decide_eq_true Z330) q40 hroom40
 have hr40 := Kd.C_take (m := ((ji21) : Int).toNat) hC40 Z254
 have hy40 : y204.length = ((ji21) : Int).toNat := (by rw [Ny204.out,List.length_take];omega)
 rw [← Ny204.out] at hr40
 rw [← hy40] at hcut40
 have HR207 := Aside0.mk hr40
 have HC207 := Aside0.mk (show y204.length ≤ c196_0 from Z254)
 clear hr40 hC40 hroom40 hi040 hsz40
 have KY40 := Aside0.mk hy40
 clear hy40
 replace q40 := eq_true q40
 have p211 : 0 ≤ ((ji21) : Int) := of_decide_eq_true Z330
 have q211 : (ji21) < ((rd_L2 t189 0).length : Int) := of_decide_eq_true Z330
 obtain ⟨ad211,e211,hx211_0⟩ := Kd.at_string ((Kd.R_reads' HL196_0.out).2.2) (ji21) p211 q211
 cases e211
 replace p211 := eq_true p211
 replace q211 := eq_true q211
 refine start_ (n := 12) (S := fun w' => w'.cell? (ad211.add ((ji21)).toNat) = some (.string (rdOf ByteArray.empty (rd_L2 t189 0) (ji21)))) (ds := []) (qM 12 0) Z253 rfl (by kernel_rfl) (hx211_0) (fun hHeld => ?_);refine with_tabW spec_ReadTable.tab13 spec_ReadTable.bits13 (fun HT_ HW_ => ?_)
 generalize w38.drew = w39 at HO191 HL196_0 BK187 BK188 BK195 HB HR207 hx211_0 hHeld ⊢
 refine rP 1 50 12 2 HT_ (h := ?_)
 refine rP 2 51 12 6 HT_ (h := ?_)
 refine rP 3 52 12 14 HT_ (h := ?_)
 refine rP 5 54 12 46 HT_ (h := ?_)
 refine rP 6 55 12 110 HT_ (h := ?_)
 refine rP 7 56 12 238 HT_ (h := ?_)
 refine take_ (i := 8) (N := some 57) (v := ?_) (a' := ?_) (qM 12 494) rfl rfl (take_ofW HT_.out HW_.out Z253) (fun _ _ _ h => h) (Or.inl ⟨Z255,?_⟩) hHeld ?_ ?_
 rotate_left
 ·intro w' s0
  go_simp
  with_reducible rfl
 rotate_left
 ·simp only [Act.put,List.setIfInBounds_toArray,List.set_cons_zero,List.set_cons_succ,i64_w,i32_w]
  rfl
 refine join_ (σ := Value × Value × Nat) 1 (qM 12 2047) (fun s_ => [(49,s_.1),(53,s_.2.1),(8,.pointer (some ⟨s_.2.2,0,none⟩)),(58,.agg #[s_.2.1,.string (rdOf ByteArray.empty (rd_L2 t189 0) (ji21)),.slice none 0 0,.slice none 0 0])]) (fun s_ w' => (w'.cell? (ad211.add ((ji21)).toNat) = some (.string (rdOf ByteArray.empty (rd_L2 t189 0) (ji21)))) ∧ (Kd.R Kd.string 9 w' w.heap.size (fun k_ => some k_ ≠ (.slice (some ad196) t189.length co35 : Value).ownBlock ∧ some k_ ≠ (s_.2.1 : Value).ownBlock) (.slice (some ad211) (rd_L2 t189 0).length c196_0) (rd_L2 t189 0)) ∧ (Kd.S (Kd.slice 9 Kd.string) 22 w' w.heap.size (fun k_ => some k_ ≠ (s_.2.1 : Value).ownBlock) (.slice (some ad196) t189.length co35) t189) ∧ (Kd.R Kd.string 9 w' w.heap.size (fun k_ => some k_ ≠ (.slice (some ad211) (rd_L2 t189 0).length c196_0 : Value).ownBlock) s_.2.1 y208) ∧ (w'.heap[gb187]? = some (.cells #[.slice none 0 0,.string (⟨#[]⟩ : ByteArray),.slice none 0 0,.slice none 0 0] 26 (0,0))) ∧ (w'.heap[gb188]? = some (.cells #[.int .i64 0,.int .i64 0,.int .i64 0] 28 (0,0))) ∧ (w'.heap[gb195]? = some (.cells #[.int .i64 t197,.int .i64 t198,.int .i64 t199] 28 (0,0))) ∧ (w'.heap[s_.2.2]? = some (.cells #[.slice none 0 0,.string (⟨#[]⟩ : ByteArray),.slice none 0 0,.slice none 0 0] 26 (0,0))) ∧ (w.heap.size ≤ s_.2.2) ∧ (w.heap.size ≤ s_.2.2) ∧ (gb187 ≠ s_.2.2) ∧ (s_.2.2 ≠ gb187) ∧ (gb188 ≠ s_.2.2) ∧ (s_.2.2 ≠ gb188) ∧ (gb195 ≠ s_.2.2) ∧ (s_.2.2 ≠ gb195) ∧ (Below w.heap.size w w')) ?_ ?_
 rotate_left
 ·intro hCont
  refine two_ (i := 0) (j := 10) (Ni := some 49) (Nj := some 8) (qM 12 495) (qM 12 1518) rfl rfl rfl rfl (two_of HT_.out Z253) Z355 Z355 (fun K hK => ?_) (fun K hK => ?_)
  ·skip
   refine Kd.R_lit_step Kd.string _ 9 ?hg (N := 49) ?hd (xs := ([] : List ByteArray)) (inner := []) (ok := fun _ => True) (okp := fun _ => True) ?hr ?hp (fun _ hk => hk) trivial (Below.refl _ _) (Nat.le_refl _) Z342 ?_;(case hd => rfl);(case hg => rfl);(case hr => exact Z239);(case hp => exact Z249)
   intro v202 w41 ho42 hb hg_ hnew_
   have HS0_ := (hb.cell (World.block_lt_of_cell? _ _ (hHeld))).trans (hHeld)
   clear hg_ hnew_
   (first | rw [← Ny201.out] at ho42 | (simp only [Int.reduceToNat] at ho42;rw [← Ny201.out] at ho42))
   have n_ := jA (Kd.S_elder' Z318 (Kd.R_base ho42) hb) (jA (Kd.R_elder' Z312 (Kd.R_base ho42) hb) (jA (Kd.R_lower (Kd.R_new' ho42 (Kd.R_lt Z312)) (below_size Z269)) (jA (blk_below (g := gb187) (o := .cells #[.slice none 0 0,.string (⟨#[]⟩ : ByteArray),.slice none 0 0,.slice none 0 0] 26 (0,0)) Z353 hb) (jA (blk_below (g := gb188) (o := .cells #[.int .i64 0,.int .i64 0,.int .i64 0] 28 (0,0)) Z354 hb) (jA (blk_below (g := gb195) (o := .cells #[.int .i64 t197,.int .i64 t198,.int .i64 t199] 28 (0,0)) Z334 hb) (jA (Kd.C_below Z285 hb) (Aside0.mk (below_step Z269 hb))))))))
   clear HO191 HL196_0 BK187 BK188 BK195 HR207 HB
   obtain ⟨HO191,HL196_0,HO203,BK187,BK188,BK195,HR207,HB⟩ := n_
   clear hb ho42
   refine hK.out _ _ (HS0_) (fun hHeld => ?_)
   clear hK K
   refine rN (h := ?_)
   refine two_ (i := 4) (j := 10) (Ni := some 53) (Nj := some 8) (qM 12 511) (qM 12 1519) rfl rfl rfl rfl (two_of HT_.out Z253) Z355 Z355 (fun K hK => ?_) (fun K hK => ?_)
   ·skip
    refine Kd.R_append_rows_step Kd.string (w0 := w) w.heap.size Z255 (.tmp 49) (.tmp 52) 22 9 (.string ⟨#[]⟩) 16 rfl Tryd.underlying22 info9 rfl Z355 Z254 v202 y201 y204 _ _ _ (fun k_ => some k_ ≠ (.slice (some ad211) (rd_L2 t189 0).length c196_0 : Value).ownBlock) (fun _ => False) rfl rfl ?aO ?aR (fun _ _ h => h) (fun _ h => h.elim) ?aF ?aB ?aS ?aL ?_
    (case aR => exact Z73)
    (case aB => exact Z269)
    (case aF => exact Z150)
    (case aO => exact Z168)
    (case aS => exact (below_size Z269))
    (case aL => have := LMc24.out;omega)
    intro v209 w43 ho hb hg hat
    have HS0_ := cell_grown hg (hHeld) Z113
    rw [← Ny208.out] at ho
    have n_ := jA (blk_grown (g := gb187) (o := .cells #[.slice none 0 0,.string (⟨#[]⟩ : ByteArray),.slice none 0 0,.slice none 0 0] 26 (0,0)) Z353 hg (Kd.R_ne HO203.out BK187.out Z355)) (jA (blk_grown (g := gb188) (o := .cells #[.int .i64 0,.int .i64 0,.int .i64 0] 28 (0,0)) Z354 hg (Kd.R_ne HO203.out BK188.out Z355)) (jA (Kd.S_after (ok := (fun _ => True)) Z318 hg hat) (jA (blk_grown (g := gb195) (o := .cells #[.int .i64 t197,.int .i64 t198,.int .i64 t199] 28 (0,0)) Z334 hg (Kd.R_ne HO203.out BK195.out Z355)) (jA (Kd.R_after (ok := (fun k_ => some k_ ≠ (.slice (some ad196) t189.length co35 : Value).ownBlock)) Z312 hg hat) (jA (hb) (Aside0.mk (ho)))))))
    clear BK187 BK188 HO191 BK195 HL196_0 HB HO203
    obtain ⟨BK187,BK188,HO191,BK195,HL196_0,HB,HO210⟩ := n_
    clear ho hb hg hat
    obtain ⟨Ao44,co44,eo44⟩ := Kd.R_slice HO210.out
    (first | subst eo44 | (injection eo44 with f1_ f2_ f3_;have f4_ := f1_.symm;have f5_ := f3_.symm;clear f1_ f2_ f3_;subst f4_;subst f5_))
    refine hK.out _ _ (HS0_) (fun hHeld => ?_)
    clear hK K
    refine rN (h := ?_)
    refine rP 9 58 12 1023 HT_ (h := ?_)
    refine rO 10 8 12 2047 HT_ (h := fun K hK => ?_)
    refine box_step ?hg (N := 8) ?hd (cs := #[.slice none 0 0,.string (⟨#[]⟩ : ByteArray),.slice none 0 0,.slice none 0 0]) (t := 26) ?hr ?_;(case hd => rfl);(case hg => rfl);(case hr => exact Z239)
    intro gb212 hg w45 hbox hb
    have HS0_ := (hb.cell (World.block_lt_of_cell? _ _ (hHeld))).trans (hHeld)
    have n_ := jA (Kd.S_below Z318 hb) (jA (Kd.R_below Z312 hb) (jA (Kd.R_below Z199 hb) (jA (blk_below (g := gb187) (o := .cells #[.slice none 0 0,.string (⟨#[]⟩ : ByteArray),.slice none 0 0,.slice none 0 0] 26 (0,0)) Z353 hb) (jA (blk_below (g := gb188) (o := .cells #[.int .i64 0,.int .i64 0,.int .i64 0] 28 (0,0)) Z354 hb) (jA (blk_below (g := gb195) (o := .cells #[.int .i64 t197,.int .i64 t198,.int .i64 t199] 28 (0,0)) Z334 hb) (jA (below_step Z269 hb) (jA (hbox) (jA ((Z100 : w.heap.size ≤ gb212)) (jA ((Z100 : w.heap.size ≤ gb212)) (jA ((Z286 : gb187 ≠ gb212)) (jA ((Z287 : gb212 ≠ gb187)) (jA ((Z301 : gb188 ≠ gb212)) (jA ((Z302 : gb212 ≠ gb188)) (jA ((Z155 : gb195 ≠ gb212)) (Aside0.mk ((Z156 : gb212 ≠ gb195)))))))))))))))))
    clear HO191 HL196_0 HO210 BK187 BK188 BK195 HB
    obtain ⟨HO191,HL196_0,HO210,BK187,BK188,BK195,HB,BK212,GW212,GE212,NB187_212,NB212_187,NB188_212,NB212_188,NB195_212,NB212_195⟩ := n_
    clear hb hbox hg
    refine hK.out _ _ (HS0_) (fun hHeld => ?_)
    clear hK K
    refine rN (h := ?_)
    exact norm_ Z219 (hCont (v202,.slice Ao44 y208.length co44,gb212) _ ⟨hHeld,Z312,Z174,Z199,Z353,Z354,Z334,Z337,GW212.out,GE212.out,NB187_212.out,NB212_187.out,NB188_212.out,NB212_188.out,NB195_212.out,NB212_195.out,Z263⟩)
   skip
   refine box_step ?hg (N := 8) ?hd (cs := #[.slice none 0 0,.string (⟨#[]⟩ : ByteArray),.slice none 0 0,.slice none 0 0]) (t := 26) ?hr ?_;(case hd => rfl);(case hg => rfl);(case hr => exact Z239)
   intro gb212 hg w43 hbox hb
   have HS0_ := (hb.cell (World.block_lt_of_cell? _ _ (hHeld))).trans (hHeld)
   have n_ := jA (Kd.S_below Z318 hb) (jA (Kd.R_below Z312 hb) (jA (Kd.R_below (by (with_reducible repeat (first | apply Kd.R_alloc | apply Kd.R_drewN | apply Kd.R_drew));exact HO203.out) hb) (jA (blk_below (g := gb187) (o := .cells #[.slice none 0 0,.string (⟨#[]⟩ : ByteArray),.slice none 0 0,.slice none 0 0] 26 (0,0)) Z353 hb) (jA (blk_below (g := gb188) (o := .cells #[.int .i64 0,.int .i64 0,.int .i64 0] 28 (0,0)) Z354 hb) (jA (blk_below (g := gb195) (o := .cells #[.int .i64 t197,.int .i64 t198,.int .i64 t199] 28 (0,0)) Z334 hb) (jA (Kd.C_below Z285 hb) (jA (below_step Z269 hb) (jA (hbox) (jA ((Z100 : w.heap.size ≤ gb212)) (jA ((Z100 : w.heap.size ≤ gb212)) (jA ((Z286 : gb187 ≠ gb212)) (jA ((Z287 : gb212 ≠ gb187)) (jA ((Z301 : gb188 ≠ gb212)) (jA ((Z302 : gb212 ≠ gb188)) (jA ((Z155 : gb195 ≠ gb212)) (Aside0.mk ((Z156 : gb212 ≠ gb195))))))))))))))))))
   clear HO191 HL196_0 HO203 BK187 BK188 BK195 HR207 HB
   obtain ⟨HO191,HL196_0,HO203,BK187,BK188,BK195,HR207,HB,BK212,GW212,GE212,NB187_212,NB212_187,NB188_212,NB212_188,NB195_212,NB212_195⟩ := n_
   clear hb hbox hg
   refine hK.out _ _ (HS0_) (fun hHeld => ?_)
   clear hK K
   refine rN (h := ?_)
   refine rO 4 53 12 1535 HT_ (h := fun K hK => ?_)
   refine Kd.R_append_rows_step Kd.string (w0 := w) w.heap.size Z255 (.tmp 49) (.tmp 52) 22 9 (.string ⟨#[]⟩) 16 rfl Tryd.underlying22 info9 rfl Z355 Z254 v202 y201 y204 _ _ _ (fun k_ => some k_ ≠ (.slice (some ad211) (rd_L2 t189 0).length c196_0 : Value).ownBlock) (fun _ => False) rfl rfl ?aO ?aR (fun _ _ h => h) (fun _ h => h.elim) ?aF ?aB ?aS ?aL ?_
   (case aR => exact Z73)
   (case aB => exact Z97)
   (case aF => exact Z150)
   (case aO => exact Z168)
   (case aS => exact Z94)
   (case aL => have := LMc24.out;omega)
   intro v209 w44 ho hb hg hat
   have HS0_ := cell_grown hg (hHeld) Z113
   rw [← Ny208.out] at ho
   have n_ := jA (blk_grown (g := gb187) (o := .cells #[.slice none 0 0,.string (⟨#[]⟩ : ByteArray),.slice none 0 0,.slice none 0 0] 26 (0,0)) Z353 hg (Kd.R_ne HO203.out BK187.out Z355)) (jA (blk_grown (g := gb188) (o := .cells #[.int .i64 0,.int .i64 0,.int .i64 0] 28 (0,0)) Z354 hg (Kd.R_ne HO203.out BK188.out Z355)) (jA (Kd.S_after (ok := (fun _ => True)) Z318 hg hat) (jA (blk_grown (g := gb195) (o := .cells #[.int .i64 t197,.int .i64 t198,.int .i64 t199] 28 (0,0)) Z334 hg (Kd.R_ne HO203.out BK195.out Z355)) (jA (Kd.R_after (ok := (fun k_ => some k_ ≠ (.slice (some ad196) t189.length co35 : Value).ownBlock)) Z312 hg hat) (jA (blk_grown (g := gb212) (o := .cells #[.slice none 0 0,.string (⟨#[]⟩ : ByteArray),.slice none 0 0,.slice none 0 0] 26 (0,0)) Z337 hg (Kd.R_ne HO203.out BK212.out Z355)) (jA (hb) (Aside0.mk (ho))))))))
   clear BK187 BK188 HO191 BK195 HL196_0 BK212 HB HO203
   obtain ⟨BK187,BK188,HO191,BK195,HL196_0,BK212,HB,HO210⟩ := n_
   clear ho hb hg hat
   obtain ⟨Ao45,co45,eo45⟩ := Kd.R_slice HO210.out
   (first | subst eo45 | (injection eo45 with f1_ f2_ f3_;have f4_ := f1_.symm;have f5_ := f3_.symm;clear f1_ f2_ f3_;subst f4_;subst f5_))
   refine hK.out _ _ (HS0_) (fun hHeld => ?_)
   clear hK K
   refine rN (h := ?_)
   refine rP 9 58 12 2047 HT_ (h := ?_)
   exact norm_ Z219 (hCont (v202,.slice Ao45 y208.length co45,gb212) _ ⟨hHeld,Z312,Z174,Z199,Z353,Z354,Z334,Z337,GW212.out,GE212.out,NB187_212.out,NB212_187.out,NB188_212.out,NB212_188.out,NB195_212.out,NB212_195.out,Z263⟩)
  skip
  refine box_step ?hg (N := 8) ?hd (cs := #[.slice none 0 0,.string (⟨#[]⟩ : ByteArray),.slice none 0 0,.slice none 0 0]) (t := 26) ?hr ?_;(case hd => rfl);(case hg => rfl);(case hr => exact Z239)
  intro gb212 hg w41 hbox hb
  have HS0_ := (hb.cell (World.block_lt_of_cell? _ _ (hHeld))).trans (hHeld)
  have n_ := jA (Kd.S_below Z318 hb) (jA (Kd.R_below Z312 hb) (jA (blk_below (g := gb187) (o := .cells #[.slice none 0 0,.string (⟨#[]⟩ : ByteArray),.slice none 0 0,.slice none 0 0] 26 (0,0)) Z353 hb) (jA (blk_below (g := gb188) (o := .cells #[.int .i64 0,.int .i64 0,.int .i64 0] 28 (0,0)) Z354 hb) (jA (blk_below (g := gb195) (o := .cells #[.int .i64 t197,.int .i64 t198,.int .i64 t199] 28 (0,0)) Z334 hb) (jA (Kd.C_below Z285 hb) (jA (below_step Z269 hb) (jA (hbox) (jA ((Z100 : w.heap.size ≤ gb212)) (jA ((Z100 : w.heap.size ≤ gb212)) (jA ((Z286 : gb187 ≠ gb212)) (jA ((Z287 : gb212 ≠ gb187)) (jA ((Z301 : gb188 ≠ gb212)) (jA ((Z302 : gb212 ≠ gb188)) (jA ((Z155 : gb195 ≠ gb212)) (Aside0.mk ((Z156 : gb212 ≠ gb195)))))))))))))))))
  clear HO191 HL196_0 BK187 BK188 BK195 HR207 HB
  obtain ⟨HO191,HL196_0,BK187,BK188,BK195,HR207,HB,BK212,GW212,GE212,NB187_212,NB212_187,NB188_212,NB212_188,NB195_212,NB212_195⟩ := n_
  clear hb hbox hg
  refine hK.out _ _ (HS0_) (fun hHeld => ?_)
  clear hK K
  refine rN (h := ?_)
  refine rO 0 49 12 1519 HT_ (h := fun K hK => ?_)
  refine Kd.R_lit_step Kd.string _ 9 ?hg (N := 49) ?hd (xs := ([] : List ByteArray)) (inner := []) (ok := fun _ => True) (okp := fun _ => True) ?hr ?hp (fun _ hk => hk) trivial (Below.refl _ _) (Nat.le_refl _) Z342 ?_;(case hd => rfl);(case hg => rfl);(case hr => exact Z239);(case hp => exact Z249)
  intro v202 w42 ho43 hb hg_ hnew_
  have HS0_ := (hb.cell (World.block_lt_of_cell? _ _ (hHeld))).trans (hHeld)
  clear hg_ hnew_
  (first | rw [← Ny201.out] at ho43 | (simp only [Int.reduceToNat] at ho43;rw [← Ny201.out] at ho43))
  have n_ := jA (Kd.S_elder' Z318 (Kd.R_base ho43) hb) (jA (Kd.R_elder' Z312 (Kd.R_base ho43) hb) (jA (Kd.R_lower (Kd.R_new' ho43 (Kd.R_lt Z312)) (below_size Z263)) (jA (blk_below (g := gb187) (o := .cells #[.slice none 0 0,.string (⟨#[]⟩ : ByteArray),.slice none 0 0,.slice none 0 0] 26 (0,0)) Z353 hb) (jA (blk_below (g := gb188) (o := .cells #[.int .i64 0,.int .i64 0,.int .i64 0] 28 (0,0)) Z354 hb) (jA (blk_below (g := gb195) (o := .cells #[.int .i64 t197,.int .i64 t198,.int .i64 t199] 28 (0,0)) Z334 hb) (jA (Kd.C_below Z285 hb) (jA (blk_below (g := gb212) (o := .cells #[.slice none 0 0,.string (⟨#[]⟩ : ByteArray),.slice none 0 0,.slice none 0 0] 26 (0,0)) Z337 hb) (Aside0.mk (below_step Z263 hb)))))))))
  clear HO191 HL196_0 BK187 BK188 BK195 HR207 BK212 HB
  obtain ⟨HO191,HL196_0,HO203,BK187,BK188,BK195,HR207,BK212,HB⟩ := n_
  clear hb ho43
  refine hK.out _ _ (HS0_) (fun hHeld => ?_)
  clear hK K
  refine rN (h := ?_)
  refine rO 4 53 12 1535 HT_ (h := fun K hK => ?_)
  refine Kd.R_append_rows_step Kd.string (w0 := w) w.heap.size Z255 (.tmp 49) (.tmp 52) 22 9 (.string ⟨#[]⟩) 16 rfl Tryd.underlying22 info9 rfl Z355 Z254 v202 y201 y204 _ _ _ (fun k_ => some k_ ≠ (.slice (some ad211) (rd_L2 t189 0).length c196_0 : Value).ownBlock) (fun _ => False) rfl rfl ?aO ?aR (fun _ _ h => h) (fun _ h => h.elim) ?aF ?aB ?aS ?aL ?_
  (case aR => exact Z73)
  (case aB => exact Z97)
  (case aF => exact Z150)
  (case aO => exact Z168)
  (case aS => exact Z94)
  (case aL => have := LMc24.out;omega)
  intro v209 w44 ho hb hg hat
  have HS0_ := cell_grown hg (hHeld) Z113
  rw [← Ny208.out] at ho
  have n_ := jA (blk_grown (g := gb187) (o := .cells #[.slice none 0 0,.string (⟨#[]⟩ : ByteArray),.slice none 0 0,.slice none 0 0] 26 (0,0)) Z353 hg (Kd.R_ne HO203.out BK187.out Z355)) (jA (blk_grown (g := gb188) (o := .cells #[.int .i64 0,.int .i64 0,.int .i64 0] 28 (0,0)) Z354 hg (Kd.R_ne HO203.out BK188.out Z355)) (jA (Kd.S_after (ok := (fun _ => True)) Z318 hg hat) (jA (blk_grown (g := gb195) (o := .cells #[.int .i64 t197,.int .i64 t198,.int .i64 t199] 28 (0,0)) Z334 hg (Kd.R_ne HO203.out BK195.out Z355)) (jA (Kd.R_after (ok := (fun k_ => some k_ ≠ (.slice (some ad196) t189.length co35 : Value).ownBlock)) Z312 hg hat) (jA (blk_grown (g := gb212) (o := .cells #[.slice none 0 0,.string (⟨#[]⟩ : ByteArray),.slice none 0 0,.slice none 0 0] 26 (0,0)) Z337 hg (Kd.R_ne HO203.out BK212.out Z355)) (jA (hb) (Aside0.mk (ho))))))))
  clear BK187 BK188 HO191 BK195 HL196_0 BK212 HB HO203
  obtain ⟨BK187,BK188,HO191,BK195,HL196_0,BK212,HB,HO210⟩ := n_
  clear ho hb hg hat
  obtain ⟨Ao45,co45,eo45⟩ := Kd.R_slice HO210.out
  (first | subst eo45 | (injection eo45 with f1_ f2_ f3_;have f4_ := f1_.symm;have f5_ := f3_.symm;clear f1_ f2_ f3_;subst f4_;subst f5_))
  refine hK.out _ _ (HS0_) (fun hHeld => ?_)
  clear hK K
  refine rN (h := ?_)
  refine rP 9 58 12 2047 HT_ (h := ?_)
  exact norm_ Z219 (hCont (v202,.slice Ao45 y208.length co45,gb212) _ ⟨hHeld,Z312,Z174,Z199,Z353,Z354,Z334,Z337,GW212.out,GE212.out,NB187_212.out,NB212_187.out,NB188_212.out,NB212_188.out,NB195_212.out,NB212_195.out,Z263⟩)
 rintro ⟨v202,v209,gb212⟩ w46 ⟨hS_,h0_,h1_,h2_,h3_,h4_,h5_,h6_,h7_,h8_,h9_,h10_,h11_,h12_,h13_,h14_,h15_⟩
 have n0_ : Aside0 (Kd.R Kd.string 9 w46 w.heap.size (fun k_ => some k_ ≠ (.slice (some ad196) t189.length co35 : Value).ownBlock ∧ some k_ ≠ (v209 : Value).ownBlock) (.slice (some ad211) (rd_L2 t189 0).length c196_0) (rd_L2 t189 0)) := ⟨h0_⟩
 have n1_ : Aside0 (Kd.S (Kd.slice 9 Kd.string) 22 w46 w.heap.size (fun k_ => some k_ ≠ (v209 : Value).ownBlock) (.slice (some ad196) t189.length co35) t189) := ⟨h1_⟩
 have n2_ : Aside0 (Kd.R Kd.string 9 w46 w.heap.size (fun k_ => some k_ ≠ (.slice (some ad211) (rd_L2 t189 0).length c196_0 : Value).ownBlock) v209 y208) := ⟨h2_⟩
 have n3_ : Aside0 (w46.heap[gb187]? = some (.cells #[.slice none 0 0,.string (⟨#[]⟩ : ByteArray),.slice none 0 0,.slice none 0 0] 26 (0,0))) := ⟨h3_⟩
 have n4_ : Aside0 (w46.heap[gb188]? = some (.cells #[.int .i64 0,.int .i64 0,.int .i64 0] 28 (0,0))) := ⟨h4_⟩
 have n5_ : Aside0 (w46.heap[gb195]? = some (.cells #[.int .i64 t197,.int .i64 t198,.int .i64 t199] 28 (0,0))) := ⟨h5_⟩
 have n6_ : Aside0 (w46.heap[gb212]? = some (.cells #[.slice none 0 0,.string (⟨#[]⟩ : ByteArray),.slice none 0 0,.slice none 0 0] 26 (0,0))) := ⟨h6_⟩
 have n7_ : Aside0 (w.heap.size ≤ gb212) := ⟨h7_⟩
 have n8_ : Aside0 (w.heap.size ≤ gb212) := ⟨h8_⟩
 have n9_ : Aside0 (gb187 ≠ gb212) := ⟨h9_⟩
 have n10_ : Aside0 (gb212 ≠ gb187) := ⟨h10_⟩
 have n11_ : Aside0 (gb188 ≠ gb212) := ⟨h11_⟩
 have n12_ : Aside0 (gb212 ≠ gb188) := ⟨h12_⟩
 have n13_ : Aside0 (gb195 ≠ gb212) := ⟨h13_⟩
 have n14_ : Aside0 (gb212 ≠ gb195) := ⟨h14_⟩
 have n15_ : Aside0 (Below w.heap.size w w46) := ⟨h15_⟩
 clear HO191
 clear HL196_0
 clear BK187
 clear BK188
 clear BK195
 clear HB
 clear h0_ h1_ h2_ h3_ h4_ h5_ h6_ h7_ h8_ h9_ h10_ h11_ h12_ h13_ h14_ h15_
 have HL196_0 := n0_
 have HO191 := n1_
 have HO210 := n2_
 have BK187 := n3_
 have BK188 := n4_
 have BK195 := n5_
 have BK212 := n6_
 have GW212 := n7_
 have GE212 := n8_
 have NB187_212 := n9_
 have NB212_187 := n10_
 have NB188_212 := n11_
 have NB212_188 := n12_
 have NB195_212 := n13_
 have NB212_195 := n14_
 have HB := n15_
 clear n0_ n1_ n2_ n3_ n4_ n5_ n6_ n7_ n8_ n9_ n10_ n11_ n12_ n13_ n14_ n15_
 have hHeld : w46.cell? (ad211.add ((ji21)).toNat) = some (.string (rdOf ByteArray.empty (rd_L2 t189 0) (ji21))) := hS_
 obtain ⟨Ao47,co47,eo47⟩ := Kd.R_slice HO210.out
 (first | subst eo47 | (injection eo47 with f1_ f2_ f3_;have f4_ := f1_.symm;have f5_ := f3_.symm;clear f1_ f2_ f3_;subst f4_;subst f5_))
 refine norm_ (a' := ?_) ?_ ?_
 rotate_left
 ·simp only [putAll,Act.put,List.setIfInBounds_toArray,List.set_cons_zero,List.set_cons_succ]
  rfl
 refine one_ (i := 11) (N := none) (qM 12 4095) rfl rfl (one_of HT_.out Z253) Z355 (fun K hK => ?_)
 have hs48 : w46.cell? ⟨gb212,0,none⟩ = some (.slice none 0 0) := bc BK212 0
 have hfs48 := blk_frozen BK212.out 0
 have hns48_0 := NB187_212.out
 have hns48_1 := NB188_212.out
 have hns48_2 := NB195_212.out
 have hms48_0 := NB212_187.out
 have hms48_1 := NB212_188.out
 have hms48_2 := NB212_195.out
 have hs49 : w46.cell? ⟨gb212,1,none⟩ = some (.string (⟨#[]⟩ : ByteArray)) := bc BK212 1
 have hfs49 := blk_frozen BK212.out 1
 have hns49_0 := NB187_212.out
 have hns49_1 := NB188_212.out
 have hns49_2 := NB195_212.out
 have hms49_0 := NB212_187.out
 have hms49_1 := NB212_188.out
 have hms49_2 := NB212_195.out
 have hs50 : w46.cell? ⟨gb212,2,none⟩ = some (.slice none 0 0) := bc BK212 2
 have hfs50 := blk_frozen BK212.out 2
 have hns50_0 := NB187_212.out
 have hns50_1 := NB188_212.out
 have hns50_2 := NB195_212.out
 have hms50_0 := NB212_187.out
 have hms50_1 := NB212_188.out
 have hms50_2 := NB212_195.out
 have hs51 : w46.cell? ⟨gb212,3,none⟩ = some (.slice none 0 0) := bc BK212 3
 have hfs51 := blk_frozen BK212.out 3
 have hns51_0 := NB187_212.out
 have hns51_1 := NB188_212.out
 have hns51_2 := NB195_212.out
 have hms51_0 := NB212_187.out
 have hms51_1 := NB212_188.out
 have hms51_2 := NB212_195.out
 refine skip_ (w1 := ?_) Z255 rfl ?_ ?_
 rotate_left
 ·go_simp
  rfl
 refine hK.out _ _ (((cell_far (p := ⟨gb212,_,none⟩) Z76 _).trans (((cell_far (p := ⟨gb212,_,none⟩) Z76 _).trans (((cell_far (p := ⟨gb212,_,none⟩) Z76 _).trans (((cell_far (p := ⟨gb212,_,none⟩) Z76 _).trans (hHeld))))))))) (fun hHeld => ?_)
 clear hK K
 refine done_ (done_of HT_.out Z253) ?_
 try go_wp2
 go_loopg [9] k (fun kq v9 w' => ∃ (x9_1 : Int) (x188001_1 : ByteArray) (x189000_1 : Int) (x189001_1 : Int) (x189002_1 : Int) (x213002_1 : List (List Int)) (x213003_1 : List Int) (u213002 : Value) (u213003 : Value),v9 = .int .i64 x9_1 ∧ Aside0 (spec_ReadTable.l0 kq t189 ji21 x9_1 y208 (rdOf ByteArray.empty (rd_L2 t189 0) (ji21)) x213002_1 x213003_1 = some (r1,r2,r3,r4,r5,r6,r7)) ∧ Aside0 (kq ≤ k) ∧ Aside0 (Kd.S (Kd.slice 9 Kd.string) 22 w' w.heap.size (fun k_ => some k_ ≠ ((.slice Ao47 y208.length co47) : Value).ownBlock) (.slice (some ad196) t189.length co35) t189) ∧ Aside0 (Kd.R Kd.string 9 w' w.heap.size (fun _ => True) (.slice Ao47 y208.length co47) y208) ∧ Aside0 (Kd.S (Kd.slice 3 (Kd.int .i64)) 24 w' w.heap.size (fun k_ => some k_ ≠ (u213003 : Value).ownBlock) u213002 x213002_1) ∧ Aside0 (Kd.R (Kd.int .i64) 3 w' w.heap.size (fun _ => True) u213003 x213003_1) ∧ Aside0 (w'.heap[gb187]? = some (.cells #[(.slice none 0 0),.string x188001_1,(.slice none 0 0),(.slice none 0 0)] 26 (0,0))) ∧ Aside0 (w'.heap[gb188]? = some (.cells #[.int .i64 x189000_1,.int .i64 x189001_1,.int .i64 x189002_1] 28 (0,0))) ∧ Aside0 (w'.heap[gb195]? = some (.cells #[.int .i64 t197,.int .i64 t198,.int .i64 t199] 28 (0,0))) ∧ Aside0 (w'.heap[gb212]? = some (.cells #[(.slice Ao47 y208.length co47),.string (rdOf ByteArray.empty (rd_L2 t189 0) (ji21)),u213002,u213003] 26 (0,0))) ∧ Aside0 (Below w.heap.size w w'))
 case atStart => exact ⟨(1),((⟨#[]⟩ : ByteArray)),(0),(0),(0),(([] : List (List Int))),(([] : List Int)),(.slice none 0 0),(.slice none 0 0),Z238,H',⟨Nat.le_refl _⟩,⟨by (with_reducible repeat (first | apply Kd.S_alloc | apply Kd.S_drewN | apply Kd.S_drew));exact Kd.S_mono (Kd.S_far (p := ⟨gb212,3,none⟩) (Kd.S_far (p := ⟨gb212,2,none⟩) (Kd.S_far (p := ⟨gb212,1,none⟩) (Kd.S_far (p := ⟨gb212,0,none⟩) (Kd.S_types HO191.out BK212.out Z355) (fun _ hk => hk.2) (.slice Ao47 y208.length co47)) (fun _ hk => hk.2) (.string (rdOf ByteArray.empty (rd_L2 t189 0) (ji21)))) (fun _ hk => hk.2) (.slice none 0 0)) (fun _ hk => hk.2) (.slice none 0 0)) (fun _ hk => hk.1)⟩,⟨by (with_reducible repeat (first | apply Kd.R_alloc | apply Kd.R_drewN | apply Kd.R_drew));exact Kd.R_mono (Kd.R_far (p := ⟨gb212,3,none⟩) (Kd.R_far (p := ⟨gb212,2,none⟩) (Kd.R_far (p := ⟨gb212,1,none⟩) (Kd.R_far (p := ⟨gb212,0,none⟩) (Kd.R_types HO210.out BK212.out Z355) (fun _ hk => hk.2) (.slice Ao47 y208.length co47)) (fun _ hk => hk.2) (.string (rdOf ByteArray.empty (rd_L2 t189 0) (ji21)))) (fun _ hk => hk.2) (.slice none 0 0)) (fun _ hk => hk.2) (.slice none 0 0)) (fun _ hk => trivial)⟩,⟨Z170⟩,⟨Z169⟩,⟨by refine bP ?_;refine blk_far ?_ NB187_212.out _;refine bP ?_;refine blk_far ?_ NB187_212.out _;refine bP ?_;refine blk_far ?_ NB187_212.out _;refine bP ?_;refine blk_far ?_ NB187_212.out _;refine bP ?_;exact BK187.out⟩,⟨by refine bP ?_;refine blk_far ?_ NB188_212.out _;refine bP ?_;refine blk_far ?_ NB188_212.out _;refine bP ?_;refine blk_far ?_ NB188_212.out _;refine bP ?_;refine blk_far ?_ NB188_212.out _;refine bP ?_;exact BK188.out⟩,⟨by refine bP ?_;refine blk_far ?_ NB195_212.out _;refine bP ?_;refine blk_far ?_ NB195_212.out _;refine bP ?_;refine blk_far ?_ NB195_212.out _;refine bP ?_;refine blk_far ?_ NB195_212.out _;refine bP ?_;exact BK195.out⟩,⟨by refine bP ?_;refine blk_put (cs := #[.slice Ao47 y208.length co47,.string (rdOf ByteArray.empty (rd_L2 t189 0) (ji21)),.slice none 0 0,.slice none 0 0]) ?_ 3 _ rfl;refine bP ?_;refine blk_put (cs := #[.slice Ao47 y208.length co47,.string (rdOf ByteArray.empty (rd_L2 t189 0) (ji21)),.slice none 0 0,.slice none 0 0]) ?_ 2 _ rfl;refine bP ?_;refine blk_put (cs := #[.slice Ao47 y208.length co47,.string (⟨#[]⟩ : ByteArray),.slice none 0 0,.slice none 0 0]) ?_ 1 _ rfl;refine bP ?_;refine blk_put (cs := #[.slice none 0 0,.string (⟨#[]⟩ : ByteArray),.slice none 0 0,.slice none 0 0]) ?_ 0 _ rfl;refine bP ?_;exact BK212.out⟩,⟨Z263⟩⟩
 case round =>
  clear H'
  try clear c1
  try clear c2
  try clear p2
  try clear q2
  try clear hx2
  try clear q4
  try clear c19
  try clear p21
  try clear q21
  try clear hx21
  try clear c24
  try clear q40
  try clear hx211_0
  try clear p211
  try clear q211
  try clear q40
  obtain ⟨x9_1,x188001_1,x189000_1,x189001_1,x189002_1,x213002_1,x213003_1,u213002,u213003,rfl,HA,HK1,HO_4,HO_213000,HO_213002,HO_213003,BK187,BK188,BK195,BK212,HB⟩ := hrel
  cases gk with
  | zero => exact absurd HA.out (by simp [spec_ReadTable.l0])
  | succ k1 =>
   have H := HA.out
   clear HA
   simp only [spec_ReadTable.l0] at H
   by_cases c52 : x9_1 < (t189.length : Int)
   rotate_left
   ·rw [if_neg c52] at H
    have c52b0 : decide (x9_1 < (t189.length : Int)) = false := decide_eq_false c52
    clear c52
    simp only [Option.some.injEq,Prod.mk.injEq] at H
    obtain ⟨rfl,rfl,rfl,rfl,rfl,rfl,rfl⟩ := H
    have hnb103 := NB212_187.out
    have hnc103 := NB187_212.out
    have hnb104 := NB212_188.out
    have hnc104 := NB188_212.out
    have hnb105 := NB212_195.out
    have hnc105 := NB195_212.out
    obtain ⟨hcz106_0,hcz106_1,hcz106_2,hcz106_3,hfz106_0,hfz106_1,hfz106_2,hfz106_3⟩ := cells4 BK212.out
    have hnb107 := NB187_188.out
    have hnc107 := NB188_187.out
    have hnb108 := NB187_195.out
    have hnc108 := NB195_187.out
    obtain ⟨hcz109_0,hcz109_1,hcz109_2,hcz109_3,hfz109_0,hfz109_1,hfz109_2,hfz109_3⟩ := cells4 BK187.out
    obtain ⟨Ao110,co110,eo110⟩ := Kd.S_slice HO_213002.out
    subst eo110
    obtain ⟨Ao111,co111,eo111⟩ := Kd.R_slice HO_213003.out
    subst eo111
    have hnb112 := NB188_195.out
    have hnc112 := NB195_188.out
    obtain ⟨hcz113_0,hcz113_1,hcz113_2,hfz113_0,hfz113_1,hfz113_2⟩ := cells3 BK188.out
    go_wp2
    refine bodyPost_ret (results_cc rfl _ _ gb187 gb188 26 28 #[.slice Ao47 y208.length co47,.string (rdOf ByteArray.empty (rd_L2 t189 0) (ji21)),.slice Ao110 x213002_1.length co110,.slice Ao111 x213003_1.length co111] #[.int .i64 0,.int .i64 0,.int .i64 0] (0,0) (0,0) _ _ rfl (by refine bP ?_;refine blk_far ?_ NB187_188.out _;refine bP ?_;refine blk_far ?_ NB187_188.out _;refine bP ?_;refine blk_far ?_ NB187_188.out _;refine bP ?_;refine blk_put (cs := #[.slice Ao47 y208.length co47,.string (rdOf ByteArray.empty (rd_L2 t189 0) (ji21)),.slice Ao110 x213002_1.length co110,.slice none 0 0]) ?_ 3 _ rfl;refine bP ?_;refine blk_put (cs := #[.slice Ao47 y208.length co47,.string (rdOf ByteArray.empty (rd_L2 t189 0) (ji21)),.slice none 0 0,.slice none 0 0]) ?_ 2 _ rfl;refine bP ?_;refine blk_put (cs := #[.slice Ao47 y208.length co47,.string x188001_1,.slice none 0 0,.slice none 0 0]) ?_ 1 _ rfl;refine bP ?_;refine blk_put (cs := #[.slice none 0 0,.string x188001_1,.slice none 0 0,.slice none 0 0]) ?_ 0 _ rfl;refine bP ?_;exact BK187.out) Tryd.underlying26 rfl Z253 rfl (by refine bP ?_;refine blk_put (cs := #[.int .i64 0,.int .i64 0,.int .i64 x189002_1]) ?_ 2 _ rfl;refine bP ?_;refine blk_put (cs := #[.int .i64 0,.int .i64 x189001_1,.int .i64 x189002_1]) ?_ 1 _ rfl;refine bP ?_;refine blk_put (cs := #[.int .i64 x189000_1,.int .i64 x189001_1,.int .i64 x189002_1]) ?_ 0 _ rfl;refine bP ?_;refine blk_far ?_ NB188_187.out _;refine bP ?_;refine blk_far ?_ NB188_187.out _;refine bP ?_;refine blk_far ?_ NB188_187.out _;refine bP ?_;refine blk_far ?_ NB188_187.out _;refine bP ?_;exact BK188.out) Tryd.underlying28 rfl Z253) rfl ?_
    exact ⟨_,_,_,Z145,by (with_reducible repeat (first | apply Kd.R_alloc | apply Kd.R_drewN | apply Kd.R_drew));exact Kd.R_mono (Kd.R_far (p := ⟨gb188,2,none⟩) (Kd.R_far (p := ⟨gb188,1,none⟩) (Kd.R_far (p := ⟨gb188,0,none⟩) (Kd.R_far (p := ⟨gb187,3,none⟩) (Kd.R_far (p := ⟨gb187,2,none⟩) (Kd.R_far (p := ⟨gb187,1,none⟩) (Kd.R_far (p := ⟨gb187,0,none⟩) (Kd.R_types (Kd.R_types HO_213000.out BK187.out Z355) BK188.out Z355) (fun _ hk => hk.1.2) (.slice Ao47 y208.length co47)) (fun _ hk => hk.1.2) (.string (rdOf ByteArray.empty (rd_L2 t189 0) (ji21)))) (fun _ hk => hk.1.2) (.slice Ao110 x213002_1.length co110)) (fun _ hk => hk.1.2) (.slice Ao111 x213003_1.length co111)) (fun _ hk => hk.2) (.int .i64 0)) (fun _ hk => hk.2) (.int .i64 0)) (fun _ hk => hk.2) (.int .i64 0)) (fun _ hk => trivial),by (with_reducible repeat (first | apply Kd.S_alloc | apply Kd.S_drewN | apply Kd.S_drew));exact Kd.S_mono (Kd.S_far (p := ⟨gb188,2,none⟩) (Kd.S_far (p := ⟨gb188,1,none⟩) (Kd.S_far (p := ⟨gb188,0,none⟩) (Kd.S_far (p := ⟨gb187,3,none⟩) (Kd.S_far (p := ⟨gb187,2,none⟩) (Kd.S_far (p := ⟨gb187,1,none⟩) (Kd.S_far (p := ⟨gb187,0,none⟩) (Kd.S_types (Kd.S_types HO_213002.out BK187.out Z355) BK188.out Z355) (fun _ hk => hk.1.2) (.slice Ao47 y208.length co47)) (fun _ hk => hk.1.2) (.string (rdOf ByteArray.empty (rd_L2 t189 0) (ji21)))) (fun _ hk => hk.1.2) (.slice Ao110 x213002_1.length co110)) (fun _ hk => hk.1.2) (.slice Ao111 x213003_1.length co111)) (fun _ hk => hk.2) (.int .i64 0)) (fun _ hk => hk.2) (.int .i64 0)) (fun _ hk => hk.2) (.int .i64 0)) (fun _ hk => hk.1.1),by (with_reducible repeat (first | apply Kd.R_alloc | apply Kd.R_drewN | apply Kd.R_drew));exact Kd.R_mono (Kd.R_far (p := ⟨gb188,2,none⟩) (Kd.R_far (p := ⟨gb188,1,none⟩) (Kd.R_far (p := ⟨gb188,0,none⟩) (Kd.R_far (p := ⟨gb187,3,none⟩) (Kd.R_far (p := ⟨gb187,2,none⟩) (Kd.R_far (p := ⟨gb187,1,none⟩) (Kd.R_far (p := ⟨gb187,0,none⟩) (Kd.R_types (Kd.R_types HO_213003.out BK187.out Z355) BK188.out Z355) (fun _ hk => hk.1.2) (.slice Ao47 y208.length co47)) (fun _ hk => hk.1.2) (.string (rdOf ByteArray.empty (rd_L2 t189 0) (ji21)))) (fun _ hk => hk.1.2) (.slice Ao110 x213002_1.length co110)) (fun _ hk => hk.1.2) (.slice Ao111 x213003_1.length co111)) (fun _ hk => hk.2) (.int .i64 0)) (fun _ hk => hk.2) (.int .i64 0)) (fun _ hk => hk.2) (.int .i64 0)) (fun _ hk => trivial),Z263⟩
   rw [if_pos c52] at H
   have c52b0 : decide (x9_1 < (t189.length : Int)) = true := decide_eq_true c52
   clear c52
   obtain ⟨c53,H⟩ := ifp H
   have c53b0 : decide (0 ≤ x9_1) = true := decide_eq_true c53
   clear c53
   by_cases c54 : ((rd_L2 t189 x9_1).length : Int) = (wrap64 (ji21 + 1))
   rotate_left
   ·rw [if_neg c54] at H
    have c54b0 : (((rd_L2 t189 x9_1).length : Int) == (wrap64 (ji21 + 1))) = false := beq_eq_false_iff_ne.mpr c54
    have c54b1 : (((rd_L2 t189 x9_1).length : Int) != (wrap64 (ji21 + 1))) = true := bne_iff_ne.mpr c54
    simp only [Option.some.injEq,Prod.mk.injEq] at H
    obtain ⟨rfl,rfl,rfl,rfl,rfl,rfl,rfl⟩ := H
    have p213 : 0 ≤ (x9_1 : Int) := of_decide_eq_true Z330
    have q213 : x9_1 < (t189.length : Int) := of_decide_eq_true Z330
    obtain ⟨ad213,A213_0,c213_0,e213,hx213_0,hl213_0,hi213_0⟩ := at_L2 (Kd.S_reads' HO_4.out).2.2 x9_1 p213 q213
    obtain rfl : ad196 = ad213 := (by injection e213)
    obtain ⟨ce213,hce213,hMe213,hcc213⟩ := Kd.S_get HO_4.out [] x9_1 p213 Z165
    obtain ⟨ve213_0,rfl,ge213_0⟩ := hMe213
    have hv213_0 := hcc213 0 _ rfl
    rw [Nat.add_zero,show ((Kd.slice 9 Kd.string)).sz = 1 from rfl,Nat.mul_one] at hv213_0
    replace hv213_0 := Option.some.inj (hv213_0.symm.trans hx213_0)
    rw [hv213_0] at ge213_0
    have HL213_0 := Aside0.mk (show Kd.R Kd.string 9 _ _ _ _ (rd_L2 t189 x9_1) from ge213_0)
    clear hv213_0 ge213_0
    clear hcc213 hce213
    have HR213_0 := Aside0.mk hi213_0
    have HC213_0 := Aside0.mk hl213_0
    clear hi213_0 hl213_0
    replace p213 := eq_true p213
    replace q213 := eq_true q213
    have hnb96 := NB187_188.out
    have hnc96 := NB188_187.out
    have hnb97 := NB187_195.out
    have hnc97 := NB195_187.out
    have hnb98 := NB187_212.out
    have hnc98 := NB212_187.out
    obtain ⟨hcz99_0,hcz99_1,hcz99_2,hcz99_3,hfz99_0,hfz99_1,hfz99_2,hfz99_3⟩ := cells4 BK187.out
    have hnb100 := NB188_195.out
    have hnc100 := NB195_188.out
    have hnb101 := NB188_212.out
    have hnc101 := NB212_188.out
    obtain ⟨hcz102_0,hcz102_1,hcz102_2,hfz102_0,hfz102_1,hfz102_2⟩ := cells3 BK188.out
    go_wp2
    refine bodyPost_ret (results_cc rfl _ _ gb187 gb188 26 28 #[.slice none 0 0,.string (⟨#[]⟩ : ByteArray),.slice none 0 0,.slice none 0 0] #[.int .i64 4,.int .i64 x9_1,.int .i64 0] (0,0) (0,0) _ _ rfl (by refine bP ?_;refine blk_far ?_ NB187_188.out _;refine bP ?_;refine blk_far ?_ NB187_188.out _;refine bP ?_;refine blk_far ?_ NB187_188.out _;refine bP ?_;refine blk_put (cs := #[.slice none 0 0,.string (⟨#[]⟩ : ByteArray),.slice none 0 0,.slice none 0 0]) ?_ 3 _ rfl;refine bP ?_;refine blk_put (cs := #[.slice none 0 0,.string (⟨#[]⟩ : ByteArray),.slice none 0 0,.slice none 0 0]) ?_ 2 _ rfl;refine bP ?_;refine blk_put (cs := #[.slice none 0 0,.string x188001_1,.slice none 0 0,.slice none 0 0]) ?_ 1 _ rfl;refine bP ?_;refine blk_put (cs := #[.slice none 0 0,.string x188001_1,.slice none 0 0,.slice none 0 0]) ?_ 0 _ rfl;refine bP ?_;exact BK187.out) Tryd.underlying26 rfl Z253 rfl (by refine bP ?_;refine blk_put (cs := #[.int .i64 4,.int .i64 x9_1,.int .i64 x189002_1]) ?_ 2 _ rfl;refine bP ?_;refine blk_put (cs := #[.int .i64 4,.int .i64 x189001_1,.int .i64 x189002_1]) ?_ 1 _ rfl;refine bP ?_;refine blk_put (cs := #[.int .i64 x189000_1,.int .i64 x189001_1,.int .i64 x189002_1]) ?_ 0 _ rfl;refine bP ?_;refine blk_far ?_ NB188_187.out _;refine bP ?_;refine blk_far ?_ NB188_187.out _;refine bP ?_;refine blk_far ?_ NB188_187.out _;refine bP ?_;refine blk_far ?_ NB188_187.out _;refine bP ?_;exact BK188.out) Tryd.underlying28 rfl Z253) rfl ?_
    exact ⟨_,_,_,Z145,Z169,Z170,Z169,Z263⟩
   rw [if_pos c54] at H
   have c54b0 : (((rd_L2 t189 x9_1).length : Int) == (wrap64 (ji21 + 1))) = true := beq_iff_eq.mpr c54
   have c54b1 : (((rd_L2 t189 x9_1).length : Int) != (wrap64 (ji21 + 1))) = false := bne_eq_false_iff_eq.mpr c54
   clear c54
   obtain ⟨y214,hyy⟩ : ∃ y_ : List Int,y_ = (([] : List Int)) := ⟨_,rfl⟩
   replace H : (spec_ReadTable.l1 k1 t189 ji21 x9_1 y214 0 y208 (rdOf ByteArray.empty (rd_L2 t189 0) (ji21)) x213002_1 x213003_1) = some (r1,r2,r3,r4,r5,r6,r7) := zR
   have Ny214 := Aside0.mk hyy
   clear hyy
   have H' := Aside0.mk H
   clear H
   have p213 : 0 ≤ (x9_1 : Int) := of_decide_eq_true Z330
   have q213 : x9_1 < (t189.length : Int) := of_decide_eq_true Z330
   obtain ⟨ad213,A213_0,c213_0,e213,hx213_0,hl213_0,hi213_0⟩ := at_L2 (Kd.S_reads' HO_4.out).2.2 x9_1 p213 q213
   obtain rfl : ad196 = ad213 := (by injection e213)
   obtain ⟨ce213,hce213,hMe213,hcc213⟩ := Kd.S_get HO_4.out [] x9_1 p213 Z165
   obtain ⟨ve213_0,rfl,ge213_0⟩ := hMe213
   have hv213_0 := hcc213 0 _ rfl
   rw [Nat.add_zero,show ((Kd.slice 9 Kd.string)).sz = 1 from rfl,Nat.mul_one] at hv213_0
   replace hv213_0 := Option.some.inj (hv213_0.symm.trans hx213_0)
   rw [hv213_0] at ge213_0
   have HL213_0 := Aside0.mk (show Kd.R Kd.string 9 _ _ _ _ (rd_L2 t189 x9_1) from ge213_0)
   clear hv213_0 ge213_0
   clear hcc213 hce213
   have HR213_0 := Aside0.mk hi213_0
   have HC213_0 := Aside0.mk hl213_0
   clear hi213_0 hl213_0
   replace p213 := eq_true p213
   replace q213 := eq_true q213
   go_wp2_with (first | ((with_reducible refine gate_dst (N := 76) rfl ?_);refine Kd.R_lit (Kd.int .i64) _ 3 ?hg (N := 76) ?hd (xs := ([] : List Int)) (inner := []) (ok := fun _ => True) (okp := fun _ => True) ?hr ?hp (fun _ hk => hk) trivial (Below.refl _ _) (Nat.le_refl _) Z342 ?_;(case hd => rfl);(case hg => rfl);(case hr => exact Z239);(case hp => exact Z249);intro v215 w55 ho56 hb hg_ hnew_;clear hg_ hnew_;(first | rw [← Ny214.out] at ho56 | (simp only [Int.reduceToNat] at ho56;rw [← Ny214.out] at ho56));have n_ := jA (Kd.S_below Z321 hb) (jA (Kd.R_below Z311 hb) (jA (Kd.S_elder' Z310 (Kd.R_base ho56) hb) (jA (Kd.R_elder' Z309 (Kd.R_base ho56) hb) (jA (Kd.R_below (by (with_reducible repeat (first | apply Kd.R_alloc | apply Kd.R_drewN | apply Kd.R_drew));exact HL213_0.out) hb) (jA (Kd.R_lower (Kd.R_new' ho56 (Kd.R_lt Z309)) (below_size Z263)) (jA (blk_below (g := gb187) (o := .cells #[.slice none 0 0,.string x188001_1,.slice none 0 0,.slice none 0 0] 26 (0,0)) Z353 hb) (jA (blk_below (g := gb188) (o := .cells #[.int .i64 x189000_1,.int .i64 x189001_1,.int .i64 x189002_1] 28 (0,0)) Z354 hb) (jA (blk_below (g := gb195) (o := .cells #[.int .i64 t197,.int .i64 t198,.int .i64 t199] 28 (0,0)) Z334 hb) (jA (blk_below (g := gb212) (o := .cells #[.slice Ao47 y208.length co47,.string (rdOf ByteArray.empty (rd_L2 t189 0) (ji21)),u213002,u213003] 26 (0,0)) Z337 hb) (jA (Kd.C_below (by repeat (first | (with_reducible exact HR213_0.out) | (with_reducible refine Kd.C_alloc ?_ _) | (with_reducible refine Kd.C_drewN ?_ _) | (with_reducible refine Kd.C_drew ?_) | exact HR213_0.out)) hb) (Aside0.mk (below_step Z263 hb))))))))))));clear HO_4 HO_213000 HO_213002 HO_213003 HL213_0 BK187 BK188 BK195 BK212 HR213_0 HB;obtain ⟨HO_4,HO_213000,HO_213002,HO_213003,HL213_0,HO216,BK187,BK188,BK195,BK212,HR213_0,HB⟩ := n_;clear hb ho56))
   go_loopg [10,11] k1 (fun kq v10 v11 w' => ∃ (x10_2 : List Int) (x11_2 : Int) (x188001_2 : ByteArray) (x189000_2 : Int) (x189001_2 : Int) (x189002_2 : Int),v11 = .int .i64 x11_2 ∧ Aside0 (spec_ReadTable.l1 kq t189 ji21 x9_1 x10_2 x11_2 y208 (rdOf ByteArray.empty (rd_L2 t189 0) (ji21)) x213002_1 x213003_1 = some (r1,r2,r3,r4,r5,r6,r7)) ∧ Aside0 (kq ≤ k1) ∧ Aside0 (Kd.S (Kd.slice 9 Kd.string) 22 w' w.heap.size (fun k_ => some k_ ≠ ((.slice Ao47 y208.length co47) : Value).ownBlock) (.slice (some ad196) t189.length co35) t189) ∧ Aside0 (Kd.R (Kd.int .i64) 3 w' w.heap.size (fun k_ => some k_ ≠ (u213003 : Value).ownBlock) v10 x10_2) ∧ Aside0 (Kd.R Kd.string 9 w' w.heap.size (fun _ => True) (.slice Ao47 y208.length co47) y208) ∧ Aside0 (Kd.S (Kd.slice 3 (Kd.int .i64)) 24 w' w.heap.size (fun k_ => some k_ ≠ (v10 : Value).ownBlock ∧ some k_ ≠ (u213003 : Value).ownBlock) u213002 x213002_1) ∧ Aside0 (Kd.R (Kd.int .i64) 3 w' w.heap.size (fun k_ => some k_ ≠ (v10 : Value).ownBlock) u213003 x213003_1) ∧ Aside0 (w'.heap[gb187]? = some (.cells #[(.slice none 0 0),.string x188001_2,(.slice none 0 0),(.slice none 0 0)] 26 (0,0))) ∧ Aside0 (w'.heap[gb188]? = some (.cells #[.int .i64 x189000_2,.int .i64 x189001_2,.int .i64 x189002_2] 28 (0,0))) ∧ Aside0 (w'.heap[gb195]? = some (.cells #[.int .i64 t197,.int .i64 t198,.int .i64 t199] 28 (0,0))) ∧ Aside0 (w'.heap[gb212]? = some (.cells #[(.slice Ao47 y208.length co47),.string (rdOf ByteArray.empty (rd_L2 t189 0) (ji21)),u213002,u213003] 26 (0,0))) ∧ Aside0 (Below w.heap.size w w'))
   case atStart => exact ⟨(y214),(0),(x188001_1),(x189000_1),(x189001_1),(x189002_1),Z238,H',⟨Nat.le_refl _⟩,⟨Z321⟩,⟨by (with_reducible repeat (first | apply Kd.R_alloc | apply Kd.R_drewN | apply Kd.R_drew));exact Kd.R_mono HO216.out (fun _ hk => hk.2)⟩,⟨Z311⟩,⟨Z161⟩,⟨Z172⟩,⟨Z353⟩,⟨Z354⟩,⟨Z334⟩,⟨Z337⟩,⟨Z263⟩⟩
   case round =>
    clear H'
    try clear c1
    try clear c2
    try clear p2
    try clear q2
    try clear hx2
    try clear q4
    try clear c5
    try clear p6
    try clear c19
    try clear c21
    try clear p21
    try clear q21
    try clear hx21
    try clear c24
    try clear q40
    try clear c52
    try clear c52b0
    try clear c53
    try clear c53b0
    try clear c54
    try clear c54b0
    try clear c54b1
    try clear hx211_0
    try clear hx213_0
    try clear p2
    try clear p21
    try clear p211
    try clear p213
    try clear q2
    try clear q21
    try clear q211
    try clear q213
    try clear q4
    try clear q40
    obtain ⟨x10_2,x11_2,x188001_2,x189000_2,x189001_2,x189002_2,rfl,HA,HK2,HO_4,HO_10,HO_213000,HO_213002,HO_213003,BK187,BK188,BK195,BK212,HB⟩ := hrel
    cases gk with
    | zero => exact absurd HA.out (by simp [spec_ReadTable.l1])
    | succ k2 =>
     have H := HA.out
     clear HA
     simp only [spec_ReadTable.l1] at H
     by_cases c57 : x11_2 ≤ ji21
     ·rw [if_pos c57] at H
      have c57b0 : decide (x11_2 ≤ ji21) = true := decide_eq_true c57
      clear c57
      obtain ⟨c58,H⟩ := ifp H
      have c58b0 : decide (0 ≤ x9_1) = true := decide_eq_true c58
      clear c58
      obtain ⟨c59,H⟩ := ifp H
      have c59b0 : decide (x9_1 < (t189.length : Int)) = true := decide_eq_true c59
      clear c59
      obtain ⟨c60,H⟩ := ifp H
      have c60b0 : decide (0 ≤ x11_2) = true := decide_eq_true c60
      clear c60
      obtain ⟨c61,H⟩ := ifp H
      have c61b0 : decide (x11_2 < ((rd_L2 t189 x9_1).length : Int)) = true := decide_eq_true c61
      clear c61
      obtain ⟨⟨t219,t220⟩,A620,H⟩ := Option.bind_eq_some_iff.mp H
      try dsimp only at H
      have A62 := Aside0.mk A620
      clear A620
      by_cases c63 : t220 = true
      rotate_left
      ·replace c63 := Bool.eq_false_iff.mpr c63
       subst c63
       rw [if_neg Bool.false_ne_true] at H
       simp only [Option.some.injEq,Prod.mk.injEq] at H
       obtain ⟨rfl,rfl,rfl,rfl,rfl,rfl,rfl⟩ := H
       have p217 : 0 ≤ (x9_1 : Int) := of_decide_eq_true Z330
       have q217 : x9_1 < (t189.length : Int) := of_decide_eq_true Z330
       obtain ⟨ad217,A217_0,c217_0,e217,hx217_0,hl217_0,hi217_0⟩ := at_L2 (Kd.S_reads' HO_4.out).2.2 x9_1 p217 q217
       obtain rfl : ad196 = ad217 := (by injection e217)
       obtain ⟨ce217,hce217,hMe217,hcc217⟩ := Kd.S_get HO_4.out [] x9_1 p217 Z164
       obtain ⟨ve217_0,rfl,ge217_0⟩ := hMe217
       have hv217_0 := hcc217 0 _ rfl
       rw [Nat.add_zero,show ((Kd.slice 9 Kd.string)).sz = 1 from rfl,Nat.mul_one] at hv217_0
       replace hv217_0 := Option.some.inj (hv217_0.symm.trans hx217_0)
       rw [hv217_0] at ge217_0
       have HL217_0 := Aside0.mk (show Kd.R Kd.string 9 _ _ _ _ (rd_L2 t189 x9_1) from ge217_0)
       clear hv217_0 ge217_0
       clear hcc217 hce217
       have HR217_0 := Aside0.mk hi217_0
       have HC217_0 := Aside0.mk hl217_0
       clear hi217_0 hl217_0
       replace p217 := eq_true p217
       replace q217 := eq_true q217
       have p218 : 0 ≤ (x11_2 : Int) := of_decide_eq_true Z330
       have q218 : x11_2 < ((rd_L2 t189 x9_1).length : Int) := of_decide_eq_true Z330
       obtain ⟨ad218,e218,hx218_0⟩ := Kd.at_string Z283 x11_2 p218 q218
       cases e218
       replace p218 := eq_true p218
       replace q218 := eq_true q218
       go_wp2_with (first | ((with_reducible refine gate_callee (f := 13) rfl ?_);refine goesL_ (some 90) rfl rfl Tryd.func13 Z253 rfl #[.string (rdOf ByteArray.empty (rd_L2 t189 x9_1) x11_2)] rfl Z173 ?_;(with_reducible refine (spec_ReadFix.calls k2 (rdOf ByteArray.empty (rd_L2 t189 x9_1) x11_2) t219 false _ A62.out).mono ?_);rintro e wq1 ⟨rfl,hb⟩;refine ⟨_,rfl,?_⟩;have n_ := Z5;clear HO_4 HO_10 HO_213000 HO_213002 HO_213003 HL217_0 BK187 BK188 BK195 BK212 HR217_0 HB;obtain ⟨HO_4,HO_10,HO_213000,HO_213002,HO_213003,HL217_0,BK187,BK188,BK195,BK212,HR217_0,HB⟩ := n_;(try clear hb);(try clear hb2);(try clear hk);(try clear hi);have hnbq2 := NB187_188.out;have hncq2 := NB188_187.out;have hnbq3 := NB187_195.out;have hncq3 := NB195_187.out;have hnbq4 := NB187_212.out;have hncq4 := NB212_187.out;obtain ⟨hczq5_0,hczq5_1,hczq5_2,hczq5_3,hfzq5_0,hfzq5_1,hfzq5_2,hfzq5_3⟩ := cells4 BK187.out;have hnbq6 := NB188_195.out;have hncq6 := NB195_188.out;have hnbq7 := NB188_212.out;have hncq7 := NB212_188.out;obtain ⟨hczq8_0,hczq8_1,hczq8_2,hfzq8_0,hfzq8_1,hfzq8_2⟩ := cells3 BK188.out))
       refine bodyPost_ret (results_cc rfl _ _ gb187 gb188 26 28 #[.slice none 0 0,.string (⟨#[]⟩ : ByteArray),.slice none 0 0,.slice none 0 0] #[.int .i64 9,.int .i64 x9_1,.int .i64 x11_2] (0,0) (0,0) _ _ rfl (by refine bP ?_;refine blk_far ?_ NB187_188.out _;refine bP ?_;refine blk_far ?_ NB187_188.out _;refine bP ?_;refine blk_far ?_ NB187_188.out _;refine bP ?_;refine blk_put (cs := #[.slice none 0 0,.string (⟨#[]⟩ : ByteArray),.slice none 0 0,.slice none 0 0]) ?_ 3 _ rfl;refine bP ?_;refine blk_put (cs := #[.slice none 0 0,.string (⟨#[]⟩ : ByteArray),.slice none 0 0,.slice none 0 0]) ?_ 2 _ rfl;refine bP ?_;refine blk_put (cs := #[.slice none 0 0,.string x188001_2,.slice none 0 0,.slice none 0 0]) ?_ 1 _ rfl;refine bP ?_;refine blk_put (cs := #[.slice none 0 0,.string x188001_2,.slice none 0 0,.slice none 0 0]) ?_ 0 _ rfl;refine bP ?_;exact BK187.out) Tryd.underlying26 rfl Z253 rfl (by refine bP ?_;refine blk_put (cs := #[.int .i64 9,.int .i64 x9_1,.int .i64 x189002_2]) ?_ 2 _ rfl;refine bP ?_;refine blk_put (cs := #[.int .i64 9,.int .i64 x189001_2,.int .i64 x189002_2]) ?_ 1 _ rfl;refine bP ?_;refine blk_put (cs := #[.int .i64 x189000_2,.int .i64 x189001_2,.int .i64 x189002_2]) ?_ 0 _ rfl;refine bP ?_;refine blk_far ?_ NB188_187.out _;refine bP ?_;refine blk_far ?_ NB188_187.out _;refine bP ?_;refine blk_far ?_ NB188_187.out _;refine bP ?_;refine blk_far ?_ NB188_187.out _;refine bP ?_;exact BK188.out) Tryd.underlying28 rfl Z253) rfl ?_
       exact ⟨_,_,_,Z145,Z169,Z170,Z169,Z263⟩
      subst c63
      rw [if_pos rfl] at H
      obtain ⟨c64,H⟩ := ifp H
      have LMc64 := Aside0.mk c64
      clear c64
      obtain ⟨y221,hyy⟩ : ∃ y_ : List Int,y_ = (x10_2 ++ [t219]) := ⟨_,rfl⟩
      replace H : (spec_ReadTable.l1 k2 t189 ji21 x9_1 y221 (wrap64 (x11_2 + 1)) y208 (rdOf ByteArray.empty (rd_L2 t189 0) (ji21)) x213002_1 x213003_1) = some (r1,r2,r3,r4,r5,r6,r7) := zR
      have Ny221 := Aside0.mk hyy
      clear hyy
      have H' := Aside0.mk H
      clear H
      have p217 : 0 ≤ (x9_1 : Int) := of_decide_eq_true Z330
      have q217 : x9_1 < (t189.length : Int) := of_decide_eq_true Z330
      obtain ⟨ad217,A217_0,c217_0,e217,hx217_0,hl217_0,hi217_0⟩ := at_L2 (Kd.S_reads' HO_4.out).2.2 x9_1 p217 q217
      obtain rfl : ad196 = ad217 := (by injection e217)
      obtain ⟨ce217,hce217,hMe217,hcc217⟩ := Kd.S_get HO_4.out [] x9_1 p217 Z164
      obtain ⟨ve217_0,rfl,ge217_0⟩ := hMe217
      have hv217_0 := hcc217 0 _ rfl
      rw [Nat.add_zero,show ((Kd.slice 9 Kd.string)).sz = 1 from rfl,Nat.mul_one] at hv217_0
      replace hv217_0 := Option.some.inj (hv217_0.symm.trans hx217_0)
      rw [hv217_0] at ge217_0
      have HL217_0 := Aside0.mk (show Kd.R Kd.string 9 _ _ _ _ (rd_L2 t189 x9_1) from ge217_0)
      clear hv217_0 ge217_0
      clear hcc217 hce217
      have HR217_0 := Aside0.mk hi217_0
      have HC217_0 := Aside0.mk hl217_0
      clear hi217_0 hl217_0
      replace p217 := eq_true p217
      replace q217 := eq_true q217
      have p218 : 0 ≤ (x11_2 : Int) := of_decide_eq_true Z330
      have q218 : x11_2 < ((rd_L2 t189 x9_1).length : Int) := of_decide_eq_true Z330
      obtain ⟨ad218,e218,hx218_0⟩ := Kd.at_string Z283 x11_2 p218 q218
      cases e218
      replace p218 := eq_true p218
      replace q218 := eq_true q218
      go_wp2_with (first | ((with_reducible refine gate_callee (f := 13) rfl ?_);refine goesL_ (some 90) rfl rfl Tryd.func13 Z253 rfl #[.string (rdOf ByteArray.empty (rd_L2 t189 x9_1) x11_2)] rfl Z173 ?_;(with_reducible refine (spec_ReadFix.calls k2 (rdOf ByteArray.empty (rd_L2 t189 x9_1) x11_2) t219 true _ A62.out).mono ?_);rintro e w65 ⟨rfl,hb⟩;refine ⟨_,rfl,?_⟩;have n_ := Z5;clear HO_4 HO_10 HO_213000 HO_213002 HO_213003 HL217_0 BK187 BK188 BK195 BK212 HR217_0 HB;obtain ⟨HO_4,HO_10,HO_213000,HO_213002,HO_213003,HL217_0,BK187,BK188,BK195,BK212,HR217_0,HB⟩ := n_;(try clear hb);(try clear hb2);(try clear hk);(try clear hi)) | ((with_reducible refine gate_builtin (b := .append) (xs := #[.tmp 99,.tmp 101]) rfl ?_);at_builtin;refine Kd.R_append (Kd.int .i64) (w0 := w) w.heap.size rfl (.tmp 99) (.tmp 101) 24 3 (.int .i64 0) 8 rfl Tryd.underlying24 info3 rfl Z355 Z254 u10 x10_2 t219 [.int .i64 t219] (fun k_ => some k_ ≠ (u213003 : Value).ownBlock) (fun _ => False) rfl rfl ?aP (fun _ hk => hk.elim) ?aF ?aO ?aB ?aS ?aL ?_;(case aP => exact rfl);(case aB => exact Z97);(case aF => exact (fun k_ hk => Kd.fresh' (Kd.R_lt Z309) k_ hk));(case aO => exact Z316);(case aS => exact Z94);(case aL => have := LMc64.out;omega);intro v222 w66 ho hb hg hat;rw [← Ny221.out] at ho;have n_ := jA (Kd.S_over' Z321 (Kd.R_typed Z316) Z355 hg) (jA (Kd.R_over' Z311 (Kd.R_typed Z316) Z355 hg) (jA (Kd.S_after (ok := (fun k_ => some k_ ≠ (u213003 : Value).ownBlock)) Z161 hg hat) (jA (Kd.R_after (ok := (fun _ => True)) (by (with_reducible repeat (first | apply Kd.R_alloc | apply Kd.R_drewN | apply Kd.R_drew));exact Kd.R_mono HO_213003.out (fun _ hk => ⟨trivial,hk⟩)) hg hat) (jA (blk_grown (g := gb187) (o := .cells #[.slice none 0 0,.string x188001_2,.slice none 0 0,.slice none 0 0] 26 (0,0)) Z353 hg (Kd.R_ne HO_10.out BK187.out Z355)) (jA (blk_grown (g := gb188) (o := .cells #[.int .i64 x189000_2,.int .i64 x189001_2,.int .i64 x189002_2] 28 (0,0)) Z354 hg (Kd.R_ne HO_10.out BK188.out Z355)) (jA (blk_grown (g := gb195) (o := .cells #[.int .i64 t197,.int .i64 t198,.int .i64 t199] 28 (0,0)) Z334 hg (Kd.R_ne HO_10.out BK195.out Z355)) (jA (blk_grown (g := gb212) (o := .cells #[.slice Ao47 y208.length co47,.string (rdOf ByteArray.empty (rd_L2 t189 0) (ji21)),u213002,u213003] 26 (0,0)) Z337 hg (Kd.R_ne HO_10.out BK212.out Z355)) (jA (Kd.R_over' Z314 (Kd.R_typed Z316) Z355 hg) (jA (hb) (Aside0.mk (ho)))))))))));clear HO_4 HO_213000 HO_213002 HO_213003 BK187 BK188 BK195 BK212 HL217_0 HB HO_10;obtain ⟨HO_4,HO_213000,HO_213002,HO_213003,BK187,BK188,BK195,BK212,HL217_0,HB,HO223⟩ := n_;clear ho hb hg hat))
      go_roundg k2
      case measure => have := HK1.out;have := HK2.out;omega
      case rel => exact ⟨(y221),(wrap64 (x11_2 + 1)),(x188001_2),(x189000_2),(x189001_2),(x189002_2),Z238,H',⟨Z240⟩,⟨Z321⟩,⟨by (with_reducible repeat (first | apply Kd.R_alloc | apply Kd.R_drewN | apply Kd.R_drew));exact HO223.out⟩,⟨Z311⟩,⟨Z161⟩,⟨Z172⟩,⟨Z353⟩,⟨Z354⟩,⟨Z334⟩,⟨Z337⟩,⟨Z263⟩⟩
     rw [if_neg c57] at H
     have c57b0 : decide (x11_2 ≤ ji21) = false := decide_eq_false c57
     clear c57
     obtain ⟨y224,hyy⟩ : ∃ y_ : List Int,y_ = (([] : List Int)) := ⟨_,rfl⟩
     replace H : (if 0 ≤ ji21 then (if ji21 ≤ (x10_2.length : Int) then ((some (x10_2.take (ji21 : Int).toNat : List Int)).bind fun y227 => (if y224.length + y227.length < 17592186044416 then (if x213002_1.length < 5864062014805 then (if ji21 < (x10_2.length : Int) then (if x213003_1.length < 17592186044416 then (spec_ReadTable.l0 k2 t189 ji21 (wrap64 (x9_1 + 1)) y208 (rdOf ByteArray.empty (rd_L2 t189 0) (ji21)) (x213002_1 ++ [(y224 ++ y227)]) (x213003_1 ++ [rd x10_2 ji21])) else (none)) else (none)) else (none)) else (none))) else (none)) else (none)) = some (r1,r2,r3,r4,r5,r6,r7) := zR
     have Ny224 := Aside0.mk hyy
     clear hyy
     obtain ⟨c75,H⟩ := ifp H
     have c75b0 := eq_true c75
     have c75b1 : decide (0 ≤ ji21) = true := decide_eq_true c75
     clear c75
     obtain ⟨c76,H⟩ := ifp H
     have c76b0 := eq_true c76
     have c76b1 : decide (ji21 ≤ (x10_2.length : Int)) = true := decide_eq_true c76
     clear c76
     obtain ⟨y227,hyy⟩ : ∃ y_ : List Int,y_ = (x10_2.take (ji21 : Int).toNat) := ⟨_,rfl⟩
     replace H : (if y224.length + y227.length < 17592186044416 then (if x213002_1.length < 5864062014805 then (if ji21 < (x10_2.length : Int) then (if x213003_1.length < 17592186044416 then (spec_ReadTable.l0 k2 t189 ji21 (wrap64 (x9_1 + 1)) y208 (rdOf ByteArray.empty (rd_L2 t189 0) (ji21)) (x213002_1 ++ [(y224 ++ y227)]) (x213003_1 ++ [rd x10_2 ji21])) else (none)) else (none)) else (none)) else (none)) = some (r1,r2,r3,r4,r5,r6,r7) := zR
     have Ny227 := Aside0.mk hyy
     clear hyy
     obtain ⟨c77,H⟩ := ifp H
     have LMc77 := Aside0.mk c77
     clear c77
     obtain ⟨y231,hyy⟩ : ∃ y_ : List Int,y_ = (y224 ++ y227) := ⟨_,rfl⟩
     replace H : (if x213002_1.length < 5864062014805 then (if ji21 < (x10_2.length : Int) then (if x213003_1.length < 17592186044416 then (spec_ReadTable.l0 k2 t189 ji21 (wrap64 (x9_1 + 1)) y208 (rdOf ByteArray.empty (rd_L2 t189 0) (ji21)) (x213002_1 ++ [y231]) (x213003_1 ++ [rd x10_2 ji21])) else (none)) else (none)) else (none)) = some (r1,r2,r3,r4,r5,r6,r7) := zR
     have Ny231 := Aside0.mk hyy
     clear hyy
     obtain ⟨c78,H⟩ := ifp H
     have LMc78 := Aside0.mk c78
     clear c78
     obtain ⟨y234,hyy⟩ : ∃ y_ : List (List Int),y_ = (x213002_1 ++ [y231]) := ⟨_,rfl⟩
     replace H : (if ji21 < (x10_2.length : Int) then (if x213003_1.length < 17592186044416 then (spec_ReadTable.l0 k2 t189 ji21 (wrap64 (x9_1 + 1)) y208 (rdOf ByteArray.empty (rd_L2 t189 0) (ji21)) y234 (x213003_1 ++ [rd x10_2 ji21])) else (none)) else (none)) = some (r1,r2,r3,r4,r5,r6,r7) := zR
     have Ny234 := Aside0.mk hyy
     clear hyy
     obtain ⟨c79,H⟩ := ifp H
     have c79b0 : decide (ji21 < (x10_2.length : Int)) = true := decide_eq_true c79
     clear c79
     obtain ⟨c80,H⟩ := ifp H
     have LMc80 := Aside0.mk c80
     clear c80
     obtain ⟨y238,hyy⟩ : ∃ y_ : List Int,y_ = (x213003_1 ++ [rd x10_2 ji21]) := ⟨_,rfl⟩
     replace H : (spec_ReadTable.l0 k2 t189 ji21 (wrap64 (x9_1 + 1)) y208 (rdOf ByteArray.empty (rd_L2 t189 0) (ji21)) y234 y238) = some (r1,r2,r3,r4,r5,r6,r7) := zR
     have Ny238 := Aside0.mk hyy
     clear hyy
     have H' := Aside0.mk H
     clear H
     try go_wp2
     have n_ := jA (Kd.S_drew HO_4.out) (jA (Kd.R_drew HO_10.out) (jA (Kd.R_drew HO_213000.out) (jA (Kd.S_drew HO_213002.out) (jA (Kd.R_drew HO_213003.out) (jA (blk_drew BK187.out) (jA (blk_drew BK188.out) (jA (blk_drew BK195.out) (jA (blk_drew BK212.out) (Aside0.mk (below_drew1 HB.out))))))))))
     clear HO_4 HO_10 HO_213000 HO_213002 HO_213003 BK187 BK188 BK195 BK212 HB
     obtain ⟨HO_4,HO_10,HO_213000,HO_213002,HO_213003,BK187,BK188,BK195,BK212,HB⟩ := n_
     obtain ⟨Ao83,co83,eo83⟩ := Kd.R_slice HO_10.out
     (first | subst eo83 | (injection eo83 with f1_ f2_ f3_;have f4_ := f1_.symm;have f5_ := f3_.symm;clear f1_ f2_ f3_;subst f4_;subst f5_))
     have q82 : (ji21 : Int) ≤ ((x10_2.length : Int) : Int) := of_decide_eq_true Z330
     obtain ⟨i082,hi082,_,hsz82,_⟩ := info_parts info3
     have hroom82 : x10_2.length ≤ co83 := (Kd.R_reads' HO_10.out).2.1
     have hC82 : Kd.C (Kd.int .i64) _ Ao83 x10_2.length x10_2 := (Kd.R_reads' HO_10.out).2.2
     have hcut82 := cut_to (P := Tryd.prog) 24 3 .i64 Tryd.underlying24 hi082 Ao83 x10_2.length co83 ji21 (of_decide_eq_true Z330) q82 hroom82
     have hr82 := Kd.C_take (m := (ji21 : Int).toNat) hC82 Z254
     have hy82 : y227.length = (ji21 : Int).toNat := (by rw [Ny227.out,List.length_take];omega)
     rw [← Ny227.out] at hr82
     rw [← hy82] at hcut82
     have HR230 := Aside0.mk hr82
     have HC230 := Aside0.mk (show y227.length ≤ co83 from Z254)
     clear hr82 hC82 hroom82 hi082 hsz82
     have KY82 := Aside0.mk hy82
     clear hy82
     have KL82 := Aside0.mk (show (ji21 : Int).toNat ≤ x10_2.length from Z254)
     replace q82 := eq_true q82
     refine start_ (n := 11) (S := fun w' => w'.cell? ⟨gb212,0,none⟩ = some (.slice Ao47 y208.length co47) ∧ w'.cell? ⟨gb212,1,none⟩ = some (.string (rdOf ByteArray.empty (rd_L2 t189 0) (ji21))) ∧ w'.cell? ⟨gb212,2,none⟩ = some (u213002) ∧ w'.cell? ⟨gb212,3,none⟩ = some (u213003)) (ds := [10]) (qM 11 0) Z253 rfl (by kernel_rfl) ⟨bc BK212 0,bc BK212 1,bc BK212 2,bc BK212 3⟩ (fun hHeld => ?_);refine with_tabW spec_ReadTable.tab27 spec_ReadTable.bits27 (fun HT_ HW_ => ?_)
     generalize wr.drew = w81 at HO_4 HO_10 HO_213000 HO_213002 HO_213003 BK187 BK188 BK195 BK212 HB HR230 hHeld ⊢
     refine rP 0 103 11 1 HT_ (h := ?_)
     refine rP 3 106 11 9 HT_ (h := ?_)
     refine rP 4 107 11 25 HT_ (h := ?_)
     refine rP 5 108 11 57 HT_ (h := ?_)
     refine rT4 1 104 11 59 HT_ HW_ hHeld (h := ?_)
     refine rO 2 105 11 63 HT_ (h := fun K hK => ?_)
     refine Kd.R_lit_step (Kd.int .i64) _ 3 ?hg (N := 105) ?hd (xs := ([] : List Int)) (inner := []) (ok := fun _ => True) (okp := fun _ => True) ?hr ?hp (fun _ hk => hk) trivial (Below.refl _ _) (Nat.le_refl _) Z342 ?_;(case hd => rfl);(case hg => rfl);(case hr => exact Z239);(case hp => exact Z249)
     intro v225 w84 ho85 hb hg_ hnew_
     clear hg_ hnew_
     (first | rw [← Ny224.out] at ho85 | (simp only [Int.reduceToNat] at ho85;rw [← Ny224.out] at ho85))
     have n_ := jA (Kd.S_below Z321 hb) (jA (Kd.R_elder' Z316 (Kd.R_base ho85) hb) (jA (Kd.R_below Z311 hb) (jA (Kd.S_elder' Z310 (Kd.R_base ho85) hb) (jA (Kd.R_elder' Z309 (Kd.R_base ho85) hb) (jA (Kd.R_lower (Kd.R_new' (Kd.R_new' ho85 (Kd.R_lt Z316)) (Kd.R_lt Z309)) (below_size Z263)) (jA (blk_below (g := gb187) (o := .cells #[.slice none 0 0,.string x188001_2,.slice none 0 0,.slice none 0 0] 26 (0,0)) Z353 hb) (jA (blk_below (g := gb188) (o := .cells #[.int .i64 x189000_2,.int .i64 x189001_2,.int .i64 x189002_2] 28 (0,0)) Z354 hb) (jA (blk_below (g := gb195) (o := .cells #[.int .i64 t197,.int .i64 t198,.int .i64 t199] 28 (0,0)) Z334 hb) (jA (blk_below (g := gb212) (o := .cells #[.slice Ao47 y208.length co47,.string (rdOf ByteArray.empty (rd_L2 t189 0) (ji21)),u213002,u213003] 26 (0,0)) Z337 hb) (jA (Kd.C_below Z124 hb) (Aside0.mk (below_step Z263 hb))))))))))))
     clear HO_4 HO_10 HO_213000 HO_213002 HO_213003 BK187 BK188 BK195 BK212 HR230 HB
     obtain ⟨HO_4,HO_10,HO_213000,HO_213002,HO_213003,HO226,BK187,BK188,BK195,BK212,HR230,HB⟩ := n_
     clear hb ho85
     refine hK.out _ _ ⟨bc BK212 0,bc BK212 1,bc BK212 2,bc BK212 3⟩ (fun hHeld => ?_)
     clear hK K
     refine rN (h := ?_)
     refine rO 6 109 11 127 HT_ (h := fun K hK => ?_)
     refine Kd.R_append_rows_step (Kd.int .i64) (w0 := w) w.heap.size Z255 (.tmp 105) (.tmp 108) 24 3 (.int .i64 0) 8 rfl Tryd.underlying24 info3 rfl Z355 Z254 v225 y224 y227 _ _ _ (fun k_ => some k_ ≠ (.slice Ao83 x10_2.length co83 : Value).ownBlock ∧ some k_ ≠ (u213003 : Value).ownBlock) (fun _ => False) rfl rfl ?aO ?aR (fun _ _ h => h) (fun _ h => h.elim) ?aF ?aB ?aS ?aL ?_
     (case aR => repeat (first | exact Z124 | (with_reducible refine Kd.C_alloc ?_ _) | (with_reducible refine Kd.C_drewN ?_ _) | (with_reducible refine Kd.C_drew ?_)))
     (case aB => exact Z97)
     (case aF => exact Z88)
     (case aO => exact (by (with_reducible repeat (first | apply Kd.R_alloc | apply Kd.R_drewN | apply Kd.R_drew));exact Kd.R_mono HO226.out (fun _ hk => ⟨hk.1.2,hk.2⟩)))
     (case aS => exact Z94)
     (case aL => have := LMc77.out;omega)
     intro v232 w86 ho hb hg hat
     rw [← Ny231.out] at ho
     have n_ := jA (Kd.S_over' Z321 (Kd.R_typed Z209) Z355 hg) (jA (Kd.R_after (ok := (fun k_ => some k_ ≠ (u213003 : Value).ownBlock)) Z316 hg hat) (jA (Kd.R_over' Z311 (Kd.R_typed Z209) Z355 hg) (jA (Kd.S_after (ok := (fun k_ => some k_ ≠ (.slice Ao83 x10_2.length co83 : Value).ownBlock ∧ some k_ ≠ (u213003 : Value).ownBlock)) Z310 hg hat) (jA (Kd.R_after (ok := (fun k_ => some k_ ≠ (.slice Ao83 x10_2.length co83 : Value).ownBlock)) Z309 hg hat) (jA (blk_grown (g := gb187) (o := .cells #[.slice none 0 0,.string x188001_2,.slice none 0 0,.slice none 0 0] 26 (0,0)) Z353 hg (Kd.R_ne HO226.out BK187.out Z355)) (jA (blk_grown (g := gb188) (o := .cells #[.int .i64 x189000_2,.int .i64 x189001_2,.int .i64 x189002_2] 28 (0,0)) Z354 hg (Kd.R_ne HO226.out BK188.out Z355)) (jA (blk_grown (g := gb195) (o := .cells #[.int .i64 t197,.int .i64 t198,.int .i64 t199] 28 (0,0)) Z334 hg (Kd.R_ne HO226.out BK195.out Z355)) (jA (blk_grown (g := gb212) (o := .cells #[.slice Ao47 y208.length co47,.string (rdOf ByteArray.empty (rd_L2 t189 0) (ji21)),u213002,u213003] 26 (0,0)) Z337 hg (Kd.R_ne HO226.out BK212.out Z355)) (jA (hb) (jA ((show Kd.C (Kd.int .i64) w86 Ao83 y227.length y227 from by rw [Ny227.out];exact Kd.C_take (m := (ji21 : Int).toNat) ((Kd.R_reads' (Kd.R_after (ok := (fun k_ => some k_ ≠ (u213003 : Value).ownBlock)) Z316 hg hat)).2.2) KL82.out)) (Aside0.mk (ho))))))))))))
     clear HO_4 HO_10 HO_213000 HO_213002 HO_213003 BK187 BK188 BK195 BK212 HB HR230 HO226
     obtain ⟨HO_4,HO_10,HO_213000,HO_213002,HO_213003,BK187,BK188,BK195,BK212,HB,HR230,HO233⟩ := n_
     clear ho hb hg hat
     obtain ⟨Ao88,co88,eo88⟩ := Kd.R_slice HO233.out
     (first | subst eo88 | (injection eo88 with f1_ f2_ f3_;have f4_ := f1_.symm;have f5_ := f3_.symm;clear f1_ f2_ f3_;subst f4_;subst f5_))
     refine hK.out _ _ ⟨bc BK212 0,bc BK212 1,bc BK212 2,bc BK212 3⟩ (fun hHeld => ?_)
     clear hK K
     refine rN (h := ?_)
     refine rO 7 110 11 255 HT_ (h := fun K hK => ?_)
     refine value_ (w1 := ?_) (v := ?_) Z255 rfl ?_ ?_
     rotate_left 2
     ·go_simp
      constructor
      ·rfl
      rfl
     refine hK.out _ _ ⟨(blk_cell (blk_alloc BK212.out _) 0).trans rfl,(blk_cell (blk_alloc BK212.out _) 1).trans rfl,(blk_cell (blk_alloc BK212.out _) 2).trans rfl,(blk_cell (blk_alloc BK212.out _) 3).trans rfl⟩ (fun hHeld => ?_)
     clear hK K
     refine rN (h := ?_)
     refine rO 8 111 11 511 HT_ (h := fun K hK => ?_)
     refine Kd.S_append_step (Kd.slice 3 (Kd.int .i64)) (w0 := w) w.heap.size Z255 (.tmp 104) (.tmp 110) 23 24 (.slice none 0 0) 24 rfl Tryd.underlying23 info24 rfl Z355 Z254 u213002 x213002_1 y231 [.slice Ao88 y231.length co88] (fun k_ => some k_ ≠ (.slice Ao83 x10_2.length co83 : Value).ownBlock ∧ some k_ ≠ (u213003 : Value).ownBlock) (fun k_ => some k_ = (.slice Ao88 y231.length co88 : Value).ownBlock) rfl rfl ?aP (fun k_ hk_ => ((Kd.R_mono (ok' := fun k_ => ((fun k_ => some k_ ≠ (.slice Ao83 x10_2.length co83 : Value).ownBlock ∧ some k_ ≠ (u213003 : Value).ownBlock)) k_ ∧ some k_ ≠ (u213002 : Value).ownBlock) (Kd.R_apart' (HO233.out) (Kd.S_typed HO_213002.out) Z355) (fun k_ hk => ⟨⟨hk.1.1,hk.1.2⟩,hk.2⟩))).1 k_ hk_.symm) ?aF ?aO ?aB ?aS ?aL ?_
     (case aP => exact Kd.M_row (Kd.R_mono (Kd.R_tight rfl (Kd.R_mono (ok' := fun k_ => ((fun k_ => some k_ ≠ (.slice Ao83 x10_2.length co83 : Value).ownBlock ∧ some k_ ≠ (u213003 : Value).ownBlock)) k_ ∧ some k_ ≠ (u213002 : Value).ownBlock) (Kd.R_apart' (HO233.out) (Kd.S_typed HO_213002.out) Z355) (fun k_ hk => ⟨⟨hk.1.1,hk.1.2⟩,hk.2⟩))) (fun _ h_ => h_)))
     (case aB => exact Z97)
     (case aF => exact Z88)
     (case aO => exact (by (with_reducible repeat (first | apply Kd.S_alloc | apply Kd.S_drewN | apply Kd.S_drew));exact Kd.S_mono HO_213002.out (fun k_ hk => ⟨⟨hk.1.1,hk.1.2⟩,fun e_ => hk.2 e_⟩)))
     (case aS => exact Z94)
     (case aL => have := LMc78.out;omega)
     intro v235 w87 ho hb hg hat
     rw [← Ny234.out] at ho
     have n_ := jA (Kd.S_over' Z321 (Kd.S_typed Z310) Z355 hg) (jA (Kd.R_over' Z316 (Kd.S_typed Z310) Z355 hg) (jA (Kd.R_over' Z311 (Kd.S_typed Z310) Z355 hg) (jA (Kd.R_over' Z309 (Kd.S_typed Z310) Z355 hg) (jA (blk_grown (g := gb187) (o := .cells #[.slice none 0 0,.string x188001_2,.slice none 0 0,.slice none 0 0] 26 (0,0)) Z353 hg (Kd.S_ne HO_213002.out BK187.out Z355)) (jA (blk_grown (g := gb188) (o := .cells #[.int .i64 x189000_2,.int .i64 x189001_2,.int .i64 x189002_2] 28 (0,0)) Z354 hg (Kd.S_ne HO_213002.out BK188.out Z355)) (jA (blk_grown (g := gb195) (o := .cells #[.int .i64 t197,.int .i64 t198,.int .i64 t199] 28 (0,0)) Z334 hg (Kd.S_ne HO_213002.out BK195.out Z355)) (jA (blk_grown (g := gb212) (o := .cells #[.slice Ao47 y208.length co47,.string (rdOf ByteArray.empty (rd_L2 t189 0) (ji21)),u213002,u213003] 26 (0,0)) Z337 hg (Kd.S_ne HO_213002.out BK212.out Z355)) (jA (hb) (jA ((show Kd.C (Kd.int .i64) w87 Ao83 y227.length y227 from by rw [Ny227.out];exact Kd.C_take (m := (ji21 : Int).toNat) ((Kd.R_reads' (Kd.R_over' Z316 (Kd.S_typed Z310) Z355 hg)).2.2) KL82.out)) (Aside0.mk (ho)))))))))))
     clear HO_4 HO_10 HO_213000 HO_213003 BK187 BK188 BK195 BK212 HB HR230 HO_213002 HO233
     obtain ⟨HO_4,HO_10,HO_213000,HO_213003,BK187,BK188,BK195,BK212,HB,HR230,HO236⟩ := n_
     clear ho hb hg hat
     obtain ⟨Ao89,co89,eo89⟩ := Kd.S_slice HO236.out
     (first | subst eo89 | (injection eo89 with f1_ f2_ f3_;have f4_ := f1_.symm;have f5_ := f3_.symm;clear f1_ f2_ f3_;subst f4_;subst f5_))
     refine hK.out _ _ ⟨bc BK212 0,bc BK212 1,bc BK212 2,bc BK212 3⟩ (fun hHeld => ?_)
     clear hK K
     refine rN (h := ?_)
     refine rP 9 112 11 1023 HT_ (h := ?_)
     refine last_ (i := 10) (N := none) (qM 11 2047) rfl rfl (one_of HT_.out Z253) Z355 (fun K hK => ?_)
     have hs90 : w87.cell? ⟨gb212,2,none⟩ = some (u213002) := bc BK212 2
     have hfs90 := blk_frozen BK212.out 2
     have hns90_0 := NB187_212.out
     have hns90_1 := NB188_212.out
     have hns90_2 := NB195_212.out
     have hms90_0 := NB212_187.out
     have hms90_1 := NB212_188.out
     have hms90_2 := NB212_195.out
     refine skip_ (w1 := ?_) Z255 rfl ?_ ?_
     rotate_left
     ·go_simp
      rfl
     refine hK.out _ _ ?_
     clear hK K
     refine done_ (done_of HT_.out Z253) ?_
     try go_wp2
     have n0_ : Aside0 (Kd.S (Kd.slice 9 Kd.string) 22 (w87.setCell ⟨gb212,2,none⟩ (.slice Ao89 y234.length co89)) w.heap.size (fun k_ => some k_ ≠ (.slice Ao47 y208.length co47 : Value).ownBlock) (.slice (some ad196) t189.length co35) t189) := ⟨by (with_reducible repeat (first | apply Kd.S_alloc | apply Kd.S_drewN | apply Kd.S_drew));exact Kd.S_mono (Kd.S_far (p := ⟨gb212,2,none⟩) (Kd.S_types HO_4.out BK212.out Z355) (fun _ hk => hk.2) (.slice Ao89 y234.length co89)) (fun _ hk => hk.1)⟩
     have n1_ : Aside0 (Kd.R (Kd.int .i64) 3 (w87.setCell ⟨gb212,2,none⟩ (.slice Ao89 y234.length co89)) w.heap.size (fun k_ => some k_ ≠ (u213003 : Value).ownBlock) (.slice Ao83 x10_2.length co83) x10_2) := ⟨by (with_reducible repeat (first | apply Kd.R_alloc | apply Kd.R_drewN | apply Kd.R_drew));exact Kd.R_mono (Kd.R_far (p := ⟨gb212,2,none⟩) (Kd.R_types HO_10.out BK212.out Z355) (fun _ hk => hk.2) (.slice Ao89 y234.length co89)) (fun _ hk => hk.1.1)⟩
     have n2_ : Aside0 (Kd.R Kd.string 9 (w87.setCell ⟨gb212,2,none⟩ (.slice Ao89 y234.length co89)) w.heap.size (fun _ => True) (.slice Ao47 y208.length co47) y208) := ⟨by (with_reducible repeat (first | apply Kd.R_alloc | apply Kd.R_drewN | apply Kd.R_drew));exact Kd.R_mono (Kd.R_far (p := ⟨gb212,2,none⟩) (Kd.R_types HO_213000.out BK212.out Z355) (fun _ hk => hk.2) (.slice Ao89 y234.length co89)) (fun _ hk => trivial)⟩
     have n3_ : Aside0 (Kd.R (Kd.int .i64) 3 (w87.setCell ⟨gb212,2,none⟩ (.slice Ao89 y234.length co89)) w.heap.size (fun k_ => some k_ ≠ (.slice Ao83 x10_2.length co83 : Value).ownBlock) u213003 x213003_1) := ⟨by (with_reducible repeat (first | apply Kd.R_alloc | apply Kd.R_drewN | apply Kd.R_drew));exact Kd.R_mono (Kd.R_far (p := ⟨gb212,2,none⟩) (Kd.R_types HO_213003.out BK212.out Z355) (fun _ hk => hk.2) (.slice Ao89 y234.length co89)) (fun _ hk => hk.1.1)⟩
     have n4_ : Aside0 (Kd.S (Kd.slice 3 (Kd.int .i64)) 24 (w87.setCell ⟨gb212,2,none⟩ (.slice Ao89 y234.length co89)) w.heap.size (fun k_ => some k_ ≠ (.slice Ao83 x10_2.length co83 : Value).ownBlock ∧ some k_ ≠ (u213003 : Value).ownBlock) (.slice Ao89 y234.length co89) y234) := ⟨by (with_reducible repeat (first | apply Kd.S_alloc | apply Kd.S_drewN | apply Kd.S_drew));exact Kd.S_mono (Kd.S_far (p := ⟨gb212,2,none⟩) (Kd.S_types HO236.out BK212.out Z355) (fun _ hk => hk.2) (.slice Ao89 y234.length co89)) (fun _ hk => ⟨hk.1.1,hk.1.2⟩)⟩
     have n5_ : Aside0 ((w87.setCell ⟨gb212,2,none⟩ (.slice Ao89 y234.length co89)).heap[gb187]? = some (.cells #[.slice none 0 0,.string x188001_2,.slice none 0 0,.slice none 0 0] 26 (0,0))) := ⟨Z224⟩
     have n6_ : Aside0 ((w87.setCell ⟨gb212,2,none⟩ (.slice Ao89 y234.length co89)).heap[gb188]? = some (.cells #[.int .i64 x189000_2,.int .i64 x189001_2,.int .i64 x189002_2] 28 (0,0))) := ⟨Z223⟩
     have n7_ : Aside0 ((w87.setCell ⟨gb212,2,none⟩ (.slice Ao89 y234.length co89)).heap[gb195]? = some (.cells #[.int .i64 t197,.int .i64 t198,.int .i64 t199] 28 (0,0))) := ⟨Z222⟩
     have n8_ : Aside0 ((w87.setCell ⟨gb212,2,none⟩ (.slice Ao89 y234.length co89)).heap[gb212]? = some (.cells #[.slice Ao47 y208.length co47,.string (rdOf ByteArray.empty (rd_L2 t189 0) (ji21)),.slice Ao89 y234.length co89,u213003] 26 (0,0))) := ⟨by refine bP ?_;refine blk_put (cs := #[.slice Ao47 y208.length co47,.string (rdOf ByteArray.empty (rd_L2 t189 0) (ji21)),u213002,u213003]) ?_ 2 _ rfl;refine bP ?_;exact BK212.out⟩
     have n9_ : Aside0 (Below w.heap.size w (w87.setCell ⟨gb212,2,none⟩ (.slice Ao89 y234.length co89))) := ⟨Z263⟩
     (try clear HO_4)
     (try clear HO_10)
     (try clear HO_213000)
     (try clear HO_213003)
     (try clear HO236)
     (try clear BK187)
     (try clear BK188)
     (try clear BK195)
     (try clear BK212)
     (try clear HB)
     generalize (w87.setCell ⟨gb212,2,none⟩ (.slice Ao89 y234.length co89)) = w91 at n0_ n1_ n2_ n3_ n4_ n5_ n6_ n7_ n8_ n9_ ⊢
     have HO_4 := n0_
     have HO_10 := n1_
     have HO_213000 := n2_
     have HO_213003 := n3_
     have HO236 := n4_
     have BK187 := n5_
     have BK188 := n6_
     have BK195 := n7_
     have BK212 := n8_
     have HB := n9_
     clear n0_ n1_ n2_ n3_ n4_ n5_ n6_ n7_ n8_ n9_
     have n_ := jA (Kd.S_drew HO_4.out) (jA (Kd.R_drew HO_10.out) (jA (Kd.R_drew HO_213000.out) (jA (Kd.R_drew HO_213003.out) (jA (Kd.S_drew HO236.out) (jA (blk_drew BK187.out) (jA (blk_drew BK188.out) (jA (blk_drew BK195.out) (jA (blk_drew BK212.out) (Aside0.mk (below_drew1 HB.out))))))))))
     clear HO_4 HO_10 HO_213000 HO_213003 HO236 BK187 BK188 BK195 BK212 HB
     obtain ⟨HO_4,HO_10,HO_213000,HO_213003,HO236,BK187,BK188,BK195,BK212,HB⟩ := n_
     have p237 : 0 ≤ (ji21 : Int) := of_decide_eq_true Z330
     have q237 : ji21 < (x10_2.length : Int) := of_decide_eq_true Z330
     obtain ⟨ad237,e237,hx237_0⟩ := Kd.at_int (Kd.R_reads' HO_10.out).2.2 ji21 p237 q237
     cases e237
     replace p237 := eq_true p237
     replace q237 := eq_true q237
     refine start_ (n := 10) (S := fun w' => w'.cell? ⟨gb212,0,none⟩ = some (.slice Ao47 y208.length co47) ∧ w'.cell? ⟨gb212,1,none⟩ = some (.string (rdOf ByteArray.empty (rd_L2 t189 0) (ji21))) ∧ w'.cell? ⟨gb212,2,none⟩ = some (.slice Ao89 y234.length co89) ∧ w'.cell? ⟨gb212,3,none⟩ = some (u213003) ∧ w'.cell? (ad237.add (ji21).toNat) = some (.int .i64 (rd x10_2 ji21))) (ds := [9]) (qM 10 0) Z253 rfl (by kernel_rfl) ⟨bc BK212 0,bc BK212 1,bc BK212 2,bc BK212 3,hx237_0⟩ (fun hHeld => ?_);refine with_tabW spec_ReadTable.tab28 spec_ReadTable.bits28 (fun HT_ HW_ => ?_)
     generalize w91.drew = w92 at HO_4 HO_10 HO_213000 HO_213003 HO236 BK187 BK188 BK195 BK212 HB hx237_0 hHeld ⊢
     refine rP 0 113 10 1 HT_ (h := ?_)
     refine rP 2 115 10 5 HT_ (h := ?_)
     refine rP 3 116 10 13 HT_ (h := ?_)
     refine rP 4 117 10 29 HT_ (h := ?_)
     refine rT5 1 114 10 31 HT_ HW_ hHeld (h := ?_)
     refine rT5 5 118 10 63 HT_ HW_ hHeld (h := ?_)
     refine rO 6 119 10 127 HT_ (h := fun K hK => ?_)
     refine value_ (w1 := ?_) (v := ?_) Z255 rfl ?_ ?_
     rotate_left 2
     ·go_simp
      constructor
      ·rfl
      rfl
     refine hK.out _ _ ⟨(blk_cell (blk_alloc BK212.out _) 0).trans rfl,(blk_cell (blk_alloc BK212.out _) 1).trans rfl,(blk_cell (blk_alloc BK212.out _) 2).trans rfl,(blk_cell (blk_alloc BK212.out _) 3).trans rfl,(World.cell?_alloc_lt _ _ _ (World.block_lt_of_cell? _ _ (hHeld.2.2.2.2))).trans (hHeld.2.2.2.2)⟩ (fun hHeld => ?_)
     clear hK K
     refine rN (h := ?_)
     refine rO 7 120 10 255 HT_ (h := fun K hK => ?_)
     refine Kd.R_append_step (Kd.int .i64) (w0 := w) w.heap.size Z255 (.tmp 114) (.tmp 119) 24 3 (.int .i64 0) 8 rfl Tryd.underlying24 info3 rfl Z355 Z254 u213003 x213003_1 (rd x10_2 ji21) [.int .i64 (rd x10_2 ji21)] (fun k_ => some k_ ≠ (.slice (some ad237) x10_2.length co83 : Value).ownBlock) (fun _ => False) rfl rfl ?aP (fun _ hk => hk.elim) ?aF ?aO ?aB ?aS ?aL ?_
     (case aP => exact rfl)
     (case aB => exact Z97)
     (case aF => exact (fun k_ hk => Kd.fresh' (Kd.R_lt Z316) k_ hk))
     (case aO => exact Z309)
     (case aS => exact Z94)
     (case aL => have := LMc80.out;omega)
     intro v239 w93 ho hb hg hat
     have HS4_ := cell_grown hg hx237_0 (by first | (rw [add_block];exact (fun e_ => ((HO_213003.out.1 _ e_.symm)) rfl)) | (show some (Addr.add _ _).block ≠ _;rw [add_block];exact (fun e_ => ((HO_213003.out.1 _ e_.symm)) rfl)) | exact (fun e_ => ((HO_213003.out.1 _ e_.symm)) rfl))
     rw [← Ny238.out] at ho
     have n_ := jA (Kd.S_over' Z321 (Kd.R_typed Z309) Z355 hg) (jA (Kd.R_after (ok := (fun _ => True)) (by (with_reducible repeat (first | apply Kd.R_alloc | apply Kd.R_drewN | apply Kd.R_drew));exact Kd.R_mono HO_10.out (fun _ hk => ⟨trivial,hk⟩)) hg hat) (jA (Kd.R_over' Z311 (Kd.R_typed Z309) Z355 hg) (jA (blk_grown (g := gb187) (o := .cells #[.slice none 0 0,.string x188001_2,.slice none 0 0,.slice none 0 0] 26 (0,0)) Z353 hg (Kd.R_ne HO_213003.out BK187.out Z355)) (jA (blk_grown (g := gb188) (o := .cells #[.int .i64 x189000_2,.int .i64 x189001_2,.int .i64 x189002_2] 28 (0,0)) Z354 hg (Kd.R_ne HO_213003.out BK188.out Z355)) (jA (blk_grown (g := gb195) (o := .cells #[.int .i64 t197,.int .i64 t198,.int .i64 t199] 28 (0,0)) Z334 hg (Kd.R_ne HO_213003.out BK195.out Z355)) (jA (blk_grown (g := gb212) (o := .cells #[.slice Ao47 y208.length co47,.string (rdOf ByteArray.empty (rd_L2 t189 0) (ji21)),.slice Ao89 y234.length co89,u213003] 26 (0,0)) Z337 hg (Kd.R_ne HO_213003.out BK212.out Z355)) (jA (Kd.S_after (ok := (fun k_ => some k_ ≠ (.slice (some ad237) x10_2.length co83 : Value).ownBlock)) (by (with_reducible repeat (first | apply Kd.S_alloc | apply Kd.S_drewN | apply Kd.S_drew));exact HO236.out) hg hat) (jA (hb) (Aside0.mk (ho))))))))))
     clear HO_4 HO_10 HO_213000 BK187 BK188 BK195 BK212 HO236 HB HO_213003
     obtain ⟨HO_4,HO_10,HO_213000,BK187,BK188,BK195,BK212,HO236,HB,HO240⟩ := n_
     clear ho hb hg hat
     obtain ⟨Ao94,co94,eo94⟩ := Kd.R_slice HO240.out
     (first | subst eo94 | (injection eo94 with f1_ f2_ f3_;have f4_ := f1_.symm;have f5_ := f3_.symm;clear f1_ f2_ f3_;subst f4_;subst f5_))
     refine hK.out _ _ ⟨bc BK212 0,bc BK212 1,bc BK212 2,bc BK212 3,HS4_⟩ (fun hHeld => ?_)
     clear hK K
     refine rN (h := ?_)
     refine rP 8 121 10 511 HT_ (h := ?_)
     refine last_ (i := 9) (N := none) (qM 10 1023) rfl rfl (one_of HT_.out Z253) Z355 (fun K hK => ?_)
     have hs95 : w93.cell? ⟨gb212,3,none⟩ = some (u213003) := bc BK212 3
     have hfs95 := blk_frozen BK212.out 3
     have hns95_0 := NB187_212.out
     have hns95_1 := NB188_212.out
     have hns95_2 := NB195_212.out
     have hms95_0 := NB212_187.out
     have hms95_1 := NB212_188.out
     have hms95_2 := NB212_195.out
     refine skip_ (w1 := ?_) Z255 rfl ?_ ?_
     rotate_left
     ·go_simp
      rfl
     refine hK.out _ _ ?_
     clear hK K
     refine done_ (done_of HT_.out Z253) ?_
     try go_wp2
     go_roundg k2
     case measure => have := HK1.out;have := HK2.out;omega
     case rel => exact ⟨(wrap64 (x9_1 + 1)),(x188001_2),(x189000_2),(x189001_2),(x189002_2),(y234),(y238),(.slice Ao89 y234.length co89),(.slice Ao94 y238.length co94),Z238,H',⟨Z240⟩,⟨by (with_reducible repeat (first | apply Kd.S_alloc | apply Kd.S_drewN | apply Kd.S_drew));exact Kd.S_mono (Kd.S_far (p := ⟨gb212,3,none⟩) (Kd.S_types HO_4.out BK212.out Z355) (fun _ hk => hk.2) (.slice Ao94 y238.length co94)) (fun _ hk => hk.1)⟩,⟨by (with_reducible repeat (first | apply Kd.R_alloc | apply Kd.R_drewN | apply Kd.R_drew));exact Kd.R_mono (Kd.R_far (p := ⟨gb212,3,none⟩) (Kd.R_types HO_213000.out BK212.out Z355) (fun _ hk => hk.2) (.slice Ao94 y238.length co94)) (fun _ hk => trivial)⟩,⟨by (with_reducible repeat (first | apply Kd.S_alloc | apply Kd.S_drewN | apply Kd.S_drew));exact Kd.S_mono (Kd.S_far (p := ⟨gb212,3,none⟩) (Kd.S_types HO236.out BK212.out Z355) (fun _ hk => hk.2) (.slice Ao94 y238.length co94)) (fun _ hk => hk.1.2)⟩,⟨by (with_reducible repeat (first | apply Kd.R_alloc | apply Kd.R_drewN | apply Kd.R_drew));exact Kd.R_mono (Kd.R_far (p := ⟨gb212,3,none⟩) (Kd.R_types HO240.out BK212.out Z355) (fun _ hk => hk.2) (.slice Ao94 y238.length co94)) (fun _ hk => trivial)⟩,⟨Z224⟩,⟨Z223⟩,⟨Z222⟩,⟨by refine bP ?_;refine blk_put (cs := #[.slice Ao47 y208.length co47,.string (rdOf ByteArray.empty (rd_L2 t189 0) (ji21)),.slice Ao89 y234.length co89,u213003]) ?_ 3 _ rfl;refine bP ?_;exact BK212.out⟩,⟨Z263⟩⟩

end Go.Proofs.YtepnbcdbagjmbaaDoor.QFnExactReadTable
