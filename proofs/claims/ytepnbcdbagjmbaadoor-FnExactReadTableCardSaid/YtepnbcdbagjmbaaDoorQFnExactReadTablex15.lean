/- The machine side of FnExactReadTable: what each Go function that it reaches comes to. Conditions: none. -/
import Derived.Test.YtepnbcdbagjmbaaDoorZn
import Derived.Test.YtepnbcdbagjmbaaDoorQFnExactReadTablex0
import Derived.Test.YtepnbcdbagjmbaaDoorQFnExactReadTablex1
import Derived.Test.YtepnbcdbagjmbaaDoorQFnExactReadTablex11
import Derived.Test.YtepnbcdbagjmbaaDoorQFnExactReadTablex12
import Derived.Test.YtepnbcdbagjmbaaDoorQFnExactReadTablex14
namespace Go.Proofs.YtepnbcdbagjmbaaDoor.QFnExactReadTable
open Go.RowKit Go.Proofs.YtepnbcdbagjmbaaDoorW.PrintWords Go.Proofs.YtepnbcdbagjmbaaDoorW.PrintLast Go.Proofs.YtepnbcdbagjmbaaDoorW.PrintMore
attribute [local go_sem] max2_int min2_int max_two min_two max_three min_three max_four min_four   -- for this text's walks alone
set_option linter.unusedVariables false
set_option linter.unusedSimpArgs false

attribute [local go_sem high] eqA28
theorem F_cell_ok {W : World} {ok : Nat → Prop} {ad : Addr} {n : Nat} {k : IntKind} {xs : List Int} (h : Kd.F (Kd.int k) W ok (some ad) n xs) (i : Int) (h0 : 0 ≤ i) (h1 : i < n) : ok (ad.add i.toNat).block := by
 refine Classical.byContradiction fun hn => ?_
 obtain ⟨W', hW, hE⟩ := Kd.emptied W (ad.add i.toNat).block
 have c := h W' (fun k hk _ => hW k (fun e => hn (e ▸ hk)))
 obtain ⟨ad', e, hc⟩ := Kd.at_int c i h0 h1
 cases e
 rw [hE _ rfl] at hc
 cases hc
/-! ### impl_ReadTable: function 5 -/
mutual
def impl_ReadTable.l0 : Nat → List (List ByteArray) → List ByteArray → List ByteArray → Int → Int → Option (List ByteArray × ByteArray × (List (List Int)) × List Int × Int × Int × Int)
 | 0,_,_,_,_,_ => none
 | k + 1,x4,x6,x43,x44,x45 => if x45 < x44 then (if 0 ≤ x45 then (if x45 < (x43.length : Int) then ((impl_NameOk.f k (rdOf ByteArray.empty x43 x45)).bind fun t320 => (if t320 = true then (if x45 ≤ (x6.length : Int) then ((slices_Contains_string_string.f k (x6.take (x45 : Int).toNat) (rdOf ByteArray.empty x43 x45)).bind fun t322 => (if t322 = true then (some (([] : List ByteArray),(⟨#[]⟩ : ByteArray),([] : List (List Int)),([] : List Int),6,0,x45)) else (impl_ReadTable.l0 k x4 x6 x43 x44 (wrap64 (x45 + 1))))) else (none)) else (some (([] : List ByteArray),(⟨#[]⟩ : ByteArray),([] : List (List Int)),([] : List Int),5,0,x45)))) else (none)) else (none)) else ((impl_within.f (wrap64 ((x4.length : Int) - 1)) 1 40).bind fun t323 => (if t323 = true then ((impl_readRows.f k x4 (x6.length : Int)).bind fun bt324 => (if (!(bt324.2.1 == 0) || (!(bt324.2.2.1 == 0) || (!(bt324.2.2.2 == 0)))) = true then (some (([] : List ByteArray),(⟨#[]⟩ : ByteArray),([] : List (List Int)),([] : List Int),bt324.2.1,bt324.2.2.1,bt324.2.2.2)) else (if 0 ≤ (wrap64 ((x6.length : Int) - 1)) then (if (wrap64 ((x6.length : Int) - 1)) ≤ (x6.length : Int) then ((slices_Clone_string_string.f (x6.take ((wrap64 ((x6.length : Int) - 1)) : Int).toNat)).bind fun t331 => (if (wrap64 ((x6.length : Int) - 1)) < (x6.length : Int) then (impl_ReadTable.l1 k (wrap64 ((x6.length : Int) - 1)) bt324.1 (bt324.1.length : Int) 0 t331 (rdOf ByteArray.empty x6 (wrap64 ((x6.length : Int) - 1))) ([] : List (List Int)) ([] : List Int)) else (none))) else (none)) else (none)))) else (some (([] : List ByteArray),(⟨#[]⟩ : ByteArray),([] : List (List Int)),([] : List Int),8,0,0))))
def impl_ReadTable.l1 : Nat → Int → List (List Int) → Int → Int → List ByteArray → ByteArray → List (List Int) → List Int → Option (List ByteArray × ByteArray × (List (List Int)) × List Int × Int × Int × Int)
 | 0,_,_,_,_,_,_,_,_ => none
 | k + 1,x10,x96,x97,x98,x336000,x336001,x336002,x336003 => if x98 < x97 then (if 0 ≤ x98 then (if x98 < (x96.length : Int) then (if 0 ≤ x10 then (if x10 ≤ ((rd_L4 x96 x98).length : Int) then ((slices_Clone_int_int.f ((rd_L4 x96 x98).take (x10 : Int).toNat)).bind fun t342 => ((some (([t342] : List (List Int)) : List (List Int))).bind fun y345 => (if x336002.length + y345.length < 5864062014805 then (if x10 < ((rd_L4 x96 x98).length : Int) then ((some (([rd (rd_L4 x96 x98) x10] : List Int) : List Int)).bind fun y352 => (if x336003.length + y352.length < 17592186044416 then (impl_ReadTable.l1 k x10 x96 x97 (wrap64 (x98 + 1)) x336000 x336001 (x336002 ++ y345) (x336003 ++ y352)) else (none))) else (none)) else (none)))) else (none)) else (none)) else (none)) else (none)) else (some (x336000,x336001,x336002,x336003,0,0,0))
end
def impl_ReadTable.f (k : Nat) (a0 : ByteArray) : Option (List ByteArray × ByteArray × (List (List Int)) × List Int × Int × Int × Int) := (impl_ReadCsv.f k a0).bind fun bt309 => (if (!(bt309.2.1 == 0) || (!(bt309.2.2.1 == 0) || (!(bt309.2.2.2 == 0)))) = true then (some (([] : List ByteArray),(⟨#[]⟩ : ByteArray),([] : List (List Int)),([] : List Int),bt309.2.1,bt309.2.2.1,bt309.2.2.2)) else (if (bt309.1.length : Int) = 0 then (some (([] : List ByteArray),(⟨#[]⟩ : ByteArray),([] : List (List Int)),([] : List Int),3,0,0)) else (if 0 < (bt309.1.length : Int) then ((impl_within.f ((rd_L2 bt309.1 0).length : Int) 2 5).bind fun t317 => (if t317 = true then (impl_ReadTable.l0 k bt309.1 (rd_L2 bt309.1 0) (rd_L2 bt309.1 0) ((rd_L2 bt309.1 0).length : Int) 0) else (some (([] : List ByteArray),(⟨#[]⟩ : ByteArray),([] : List (List Int)),([] : List Int),7,0,0)))) else (none))))
theorem impl_ReadTable.mono_l : ∀ k,(∀ y0 y1 y2 y3 y4,LeO (impl_ReadTable.l0 k y0 y1 y2 y3 y4) (impl_ReadTable.l0 (k + 1) y0 y1 y2 y3 y4)) ∧ (∀ y0 y1 y2 y3 y4 y5 y6 y7,LeO (impl_ReadTable.l1 k y0 y1 y2 y3 y4 y5 y6 y7) (impl_ReadTable.l1 (k + 1) y0 y1 y2 y3 y4 y5 y6 y7))
 | 0 => ⟨fun _ _ _ _ _ r h => by simp [impl_ReadTable.l0] at h,fun _ _ _ _ _ _ _ _ r h => by simp [impl_ReadTable.l1] at h⟩
 | k + 1 => by
  obtain ⟨ih0,ih1⟩ := impl_ReadTable.mono_l k
  refine ⟨?_,?_⟩
  ·intro y0 y1 y2 y3 y4
   unfold impl_ReadTable.l0
   repeat' first
   | (with_reducible exact ih0 _ _ _ _ _)
   | (with_reducible exact ih1 _ _ _ _ _ _ _ _)
   | (with_reducible exact impl_NameOk.mono _ _)
   | (with_reducible exact impl_ReadCsv.mono _ _)
   | (with_reducible exact impl_readRows.mono _ _ _)
   | (with_reducible exact slices_Contains_string_string.mono _ _ _)
   | (with_reducible exact LeO.refl _)
   | (with_reducible exact LeO.none _)
   | (with_reducible refine LeO.ite ?_ ?_)
   | (with_reducible refine LeO.bind ?_ (fun _ => ?_))
   | exact ih0 _ _ _ _ _
   | exact ih1 _ _ _ _ _ _ _ _
   | exact impl_NameOk.mono _ _
   | exact impl_ReadCsv.mono _ _
   | exact impl_readRows.mono _ _ _
   | exact slices_Contains_string_string.mono _ _ _
   | exact LeO.none _
   | refine LeO.ite ?_ ?_
   | refine LeO.bind ?_ (fun _ => ?_)
  ·intro y0 y1 y2 y3 y4 y5 y6 y7
   unfold impl_ReadTable.l1
   repeat' first
   | (with_reducible exact ih0 _ _ _ _ _)
   | (with_reducible exact ih1 _ _ _ _ _ _ _ _)
   | (with_reducible exact impl_NameOk.mono _ _)
   | (with_reducible exact impl_ReadCsv.mono _ _)
   | (with_reducible exact impl_readRows.mono _ _ _)
   | (with_reducible exact slices_Contains_string_string.mono _ _ _)
   | (with_reducible exact LeO.refl _)
   | (with_reducible exact LeO.none _)
   | (with_reducible refine LeO.ite ?_ ?_)
   | (with_reducible refine LeO.bind ?_ (fun _ => ?_))
   | exact ih0 _ _ _ _ _
   | exact ih1 _ _ _ _ _ _ _ _
   | exact impl_NameOk.mono _ _
   | exact impl_ReadCsv.mono _ _
   | exact impl_readRows.mono _ _ _
   | exact slices_Contains_string_string.mono _ _ _
   | exact LeO.none _
   | refine LeO.ite ?_ ?_
   | refine LeO.bind ?_ (fun _ => ?_)
theorem impl_ReadTable.mono : ∀ a0 k,LeO (impl_ReadTable.f k a0) (impl_ReadTable.f (k + 1) a0) := by
 intro a0 k
 obtain ⟨ih0,ih1⟩ := impl_ReadTable.mono_l k
 unfold impl_ReadTable.f
 repeat' first
   | (with_reducible exact ih0 _ _ _ _ _)
   | (with_reducible exact ih1 _ _ _ _ _ _ _ _)
   | (with_reducible exact impl_NameOk.mono _ _)
   | (with_reducible exact impl_ReadCsv.mono _ _)
   | (with_reducible exact impl_readRows.mono _ _ _)
   | (with_reducible exact slices_Contains_string_string.mono _ _ _)
   | (with_reducible exact LeO.refl _)
   | (with_reducible exact LeO.none _)
   | (with_reducible refine LeO.ite ?_ ?_)
   | (with_reducible refine LeO.bind ?_ (fun _ => ?_))
   | exact ih0 _ _ _ _ _
   | exact ih1 _ _ _ _ _ _ _ _
   | exact impl_NameOk.mono _ _
   | exact impl_ReadCsv.mono _ _
   | exact impl_readRows.mono _ _ _
   | exact slices_Contains_string_string.mono _ _ _
   | exact LeO.none _
   | refine LeO.ite ?_ ?_
   | refine LeO.bind ?_ (fun _ => ?_)
def impl_ReadTable.T23 : Bool × List (List Nat × List Nat) := (true,[([],[]),([],[]),([0,1],[0,1]),([2],[2]),([],[]),([],[]),([4,5],[4,5]),([6],[6]),([3,7],[3,7]),([],[]),([9,8,3,0,1,2,3,4,5,6,7,8,9],[8,9])])
def impl_ReadTable.B23 : List Nat := [0,0,3,7,0,0,48,112,255,0,1023]
theorem impl_ReadTable.tab23 : rtab .any (opsOf Tryd.f5 23) = impl_ReadTable.T23 := by kernel_rfl
theorem impl_ReadTable.bits23 : waitsOk impl_ReadTable.T23.2 impl_ReadTable.B23 = true := by kernel_rfl
def impl_ReadTable.T27 : Bool × List (List Nat × List Nat) := (true,[([],[]),([0],[0]),([],[]),([],[]),([2,3],[2,3]),([4],[4]),([5],[5]),([1,6,5],[1,6]),([],[]),([8],[8]),([],[]),([],[]),([10,11],[10,11]),([12],[12]),([13],[13]),([9,14,7],[9,14]),([0,1,2,3,4,5,6,7,8,9],[]),([16,7,15,0,1,2,3,4,5,6,7,8,9],[7,16]),([0,1,2,3,4,5,6,7,8,9,10,11,12,13,14,15,16,17],[]),([18,15,17,0,1,2,3,4,5,6,7,8,9,10,11,12,13,14,15,16,17],[15,18])])
def impl_ReadTable.B27 : List Nat := [0,1,0,0,12,28,60,127,0,256,0,0,3072,7168,15360,32767,1023,131071,262143,524287]
theorem impl_ReadTable.tab27 : rtab .any (opsOf Tryd.f5 27) = impl_ReadTable.T27 := by kernel_rfl
theorem impl_ReadTable.bits27 : waitsOk impl_ReadTable.T27.2 impl_ReadTable.B27 = true := by kernel_rfl
theorem S_of_Zn {α : Type} {d : Kd α} {e : Nat} {w : World} {base B : Nat} {C : Nat → Prop} {v0 v3 v : Value} {xs : List α} (h : Zn base C d e w base (fun k_ => (B ≤ k_) ∧ some k_ ≠ v0.ownBlock ∧ some k_ ≠ v3.ownBlock) v xs) : Kd.S d e w base (fun k_ => some k_ ≠ v3.ownBlock) v xs := Kd.S_mono (Zn_S h) (fun _ hk => hk.1.2.2)
set_option maxHeartbeats 8000000 in
set_option maxRecDepth 100000 in
theorem impl_ReadTable.calls0 (k : Nat) (a0 : ByteArray) (r1 : List ByteArray) (r2 : ByteArray) (r3 : List (List Int)) (r4 : List Int) (r5 : Int) (r6 : Int) (r7 : Int) (w : World) (hG : GT w) (h : impl_ReadTable.f k a0 = some (r1,r2,r3,r4,r5,r6,r7)) :
  Calls Tryd.prog 5 #[.string a0] w fun e w' => ∃ v0_ v2_ v3_ : Value,e = .returned (.tuple #[.agg #[v0_,.string r2,v2_,v3_],.agg #[.int .i64 r5,.int .i64 r6,.int .i64 r7]]) ∧ Kd.R Kd.string 9 w' w.heap.size (fun k_ => (w.heap.size ≤ k_)) v0_ r1 ∧ Kd.S (Kd.slice 3 (Kd.int .i64)) 24 w' w.heap.size (fun k_ => some k_ ≠ (v3_ : Value).ownBlock) v2_ r3 ∧ Kd.R (Kd.int .i64) 3 w' w.heap.size (fun k_ => (w.heap.size ≤ k_)) v3_ r4 ∧ Below w.heap.size w w' := by
 have HG := Aside0.mk hG
 clear hG
 have hu26 := Tryd.underlying26
 have hu28 := Tryd.underlying28
 have HB := Aside0.mk (Below.refl w.heap.size w)
 have H : ((impl_ReadCsv.f k a0).bind fun bt309 => (if (!(bt309.2.1 == 0) || (!(bt309.2.2.1 == 0) || (!(bt309.2.2.2 == 0)))) = true then (some (([] : List ByteArray),(⟨#[]⟩ : ByteArray),([] : List (List Int)),([] : List Int),bt309.2.1,bt309.2.2.1,bt309.2.2.2)) else (if (bt309.1.length : Int) = 0 then (some (([] : List ByteArray),(⟨#[]⟩ : ByteArray),([] : List (List Int)),([] : List Int),3,0,0)) else (if 0 < (bt309.1.length : Int) then ((impl_within.f ((rd_L2 bt309.1 0).length : Int) 2 5).bind fun t317 => (if t317 = true then (impl_ReadTable.l0 k bt309.1 (rd_L2 bt309.1 0) (rd_L2 bt309.1 0) ((rd_L2 bt309.1 0).length : Int) 0) else (some (([] : List ByteArray),(⟨#[]⟩ : ByteArray),([] : List (List Int)),([] : List Int),7,0,0)))) else (none))))) = some (r1,r2,r3,r4,r5,r6,r7) := h
 clear h
 obtain ⟨⟨t309,t312,t313,t314⟩,A20,H⟩ := Option.bind_eq_some_iff.mp H
 try dsimp only at H
 have A2 := Aside0.mk A20
 clear A20
 by_cases c3 : (!(t312 == 0) || (!(t313 == 0) || (!(t314 == 0)))) = true
 ·rw [if_pos c3] at H
  have c3b0 : (!(t312 == 0) || (!(t313 == 0) || (!(t314 == 0)))) = true := c3
  clear c3
  simp only [Option.some.injEq,Prod.mk.injEq] at H
  obtain ⟨rfl,rfl,rfl,rfl,rfl,rfl,rfl⟩ := H
  go_enter Tryd.func5,Tryd.ntmps5
  try go_wp2_with (first | ((with_reducible refine gate_dst (N := 2) rfl ?_);refine bE 2 #[.slice none 0 0,.string (⟨#[]⟩ : ByteArray),.slice none 0 0,.slice none 0 0] 26 (h := ?_);intro gb307 hg w4 hbox hb;have n_ := Z48;clear HB;obtain ⟨HB,BK307,GW307,GE307⟩ := n_;clear hb hbox hg) | ((with_reducible refine gate_dst (N := 3) rfl ?_);refine bE 3 #[.int .i64 0,.int .i64 0,.int .i64 0] 28 (h := ?_);intro gb308 hg w5 hbox hb;have n_ := Z14;clear BK307 HB;obtain ⟨BK307,HB,BK308,GW308,GE308,NB307_308,NB308_307⟩ := n_;clear hb hbox hg) | ((with_reducible refine gate_callee (f := 14) rfl ?_);refine goesL_ (some 16) rfl rfl Tryd.func14 Z253 rfl #[.string a0] rfl Z173 ?_;(with_reducible refine (impl_ReadCsv.calls k a0 t309 t312 t313 t314 _ A2.out).mono ?_);rintro e w6 ⟨v310,rfl,ho0,hb⟩;refine ⟨_,rfl,?_⟩;have n_ := Z10;clear BK307 BK308 HB;obtain ⟨HO311,BK307,BK308,HB⟩ := n_;(try clear hb);(try clear hb2);(try clear hk);(try clear hi);(try clear ho0)) | ((with_reducible refine gate_dst (N := 5) rfl ?_);refine bE 5 #[.int .i64 0,.int .i64 0,.int .i64 0] 28 (h := ?_);intro gb315 hg w7 hbox hb;have n_ := Z3;clear HO311 BK307 BK308 HB;obtain ⟨HO311,BK307,BK308,HB,BK315,GW315,GE315,NB307_315,NB315_307,NB308_315,NB315_308⟩ := n_;clear hb hbox hg;have hnb8 := NB315_307.out;have hnc8 := NB307_315.out;have hnb9 := NB315_308.out;have hnc9 := NB308_315.out;obtain ⟨hcz10_0,hcz10_1,hcz10_2,hfz10_0,hfz10_1,hfz10_2⟩ := cells3 BK315.out))
  have n0_ : Aside0 (Kd.N (Kd.slice 9 Kd.string) 22 (((w7.setCell ⟨gb315,0,none⟩ (.int .i64 t312)).setCell ⟨gb315,1,none⟩ (.int .i64 t313)).setCell ⟨gb315,2,none⟩ (.int .i64 t314)) w.heap.size (fun k_ => (w.heap.size ≤ k_) ∧ k_ ≠ gb307 ∧ k_ ≠ gb308 ∧ k_ ≠ gb315) v310 t309) := ⟨Z256⟩
  have n1_ : Aside0 ((((w7.setCell ⟨gb315,0,none⟩ (.int .i64 t312)).setCell ⟨gb315,1,none⟩ (.int .i64 t313)).setCell ⟨gb315,2,none⟩ (.int .i64 t314)).heap[gb307]? = some (.cells #[.slice none 0 0,.string (⟨#[]⟩ : ByteArray),.slice none 0 0,.slice none 0 0] 26 (0,0))) := ⟨Z291⟩
  have n2_ : Aside0 ((((w7.setCell ⟨gb315,0,none⟩ (.int .i64 t312)).setCell ⟨gb315,1,none⟩ (.int .i64 t313)).setCell ⟨gb315,2,none⟩ (.int .i64 t314)).heap[gb308]? = some (.cells #[.int .i64 0,.int .i64 0,.int .i64 0] 28 (0,0))) := ⟨Z290⟩
  have n3_ : Aside0 ((((w7.setCell ⟨gb315,0,none⟩ (.int .i64 t312)).setCell ⟨gb315,1,none⟩ (.int .i64 t313)).setCell ⟨gb315,2,none⟩ (.int .i64 t314)).heap[gb315]? = some (.cells #[.int .i64 t312,.int .i64 t313,.int .i64 t314] 28 (0,0))) := ⟨Z259⟩
  have n4_ : Aside0 (Below w.heap.size w (((w7.setCell ⟨gb315,0,none⟩ (.int .i64 t312)).setCell ⟨gb315,1,none⟩ (.int .i64 t313)).setCell ⟨gb315,2,none⟩ (.int .i64 t314))) := ⟨Z268⟩
  (try clear HO311)
  (try clear BK307)
  (try clear BK308)
  (try clear BK315)
  (try clear HB)
  generalize (((w7.setCell ⟨gb315,0,none⟩ (.int .i64 t312)).setCell ⟨gb315,1,none⟩ (.int .i64 t313)).setCell ⟨gb315,2,none⟩ (.int .i64 t314)) = w11 at n0_ n1_ n2_ n3_ n4_ ⊢
  have HO311 := n0_
  have BK307 := n1_
  have BK308 := n2_
  have BK315 := n3_
  have HB := n4_
  clear n0_ n1_ n2_ n3_ n4_
  have n_ := jA (Kd.N_drew HO311.out) (jA (blk_drew BK307.out) (jA (blk_drew BK308.out) (jA (blk_drew BK315.out) (Aside0.mk (below_drew1 HB.out)))))
  clear HO311 BK307 BK308 BK315 HB
  obtain ⟨HO311,BK307,BK308,BK315,HB⟩ := n_
  refine start_ (n := 4) (S := fun w' => w'.cell? ⟨gb315,0,none⟩ = some (.int .i64 t312) ∧ w'.cell? ⟨gb315,1,none⟩ = some (.int .i64 t313) ∧ w'.cell? ⟨gb315,2,none⟩ = some (.int .i64 t314)) (ds := []) (qM 4 0) Z253 rfl (by kernel_rfl) ⟨bc BK315 0,bc BK315 1,bc BK315 2⟩ (fun hHeld => ?_)
  generalize w11.drew = w12 at HO311 BK307 BK308 BK315 HB hHeld ⊢
  refine sP 0 23 4 1 (h := ?_)
  refine sT3 1 24 4 3 hHeld (h := ?_)
  refine one_ (i := 2) (N := none) #[true,true,true,false] rfl rfl Z253 Z355 (fun K hK => ?_)
  have hs13 : w12.cell? ⟨gb307,0,none⟩ = some (.slice none 0 0) := bc BK307 0
  have hfs13 := blk_frozen BK307.out 0
  have hns13_1 := NB308_307.out
  have hns13_2 := NB315_307.out
  have hms13_1 := NB307_308.out
  have hms13_2 := NB307_315.out
  have hs14 : w12.cell? ⟨gb307,1,none⟩ = some (.string (⟨#[]⟩ : ByteArray)) := bc BK307 1
  have hfs14 := blk_frozen BK307.out 1
  have hns14_1 := NB308_307.out
  have hns14_2 := NB315_307.out
  have hms14_1 := NB307_308.out
  have hms14_2 := NB307_315.out
  have hs15 : w12.cell? ⟨gb307,2,none⟩ = some (.slice none 0 0) := bc BK307 2
  have hfs15 := blk_frozen BK307.out 2
  have hns15_1 := NB308_307.out
  have hns15_2 := NB315_307.out
  have hms15_1 := NB307_308.out
  have hms15_2 := NB307_315.out
  have hs16 : w12.cell? ⟨gb307,3,none⟩ = some (.slice none 0 0) := bc BK307 3
  have hfs16 := blk_frozen BK307.out 3
  have hns16_1 := NB308_307.out
  have hns16_2 := NB315_307.out
  have hms16_1 := NB307_308.out
  have hms16_2 := NB307_315.out
  refine skip_ (w1 := ?_) Z255 rfl ?_ ?_
  rotate_left
  ·go_simp
   rfl
  refine hK.out _ _ ⟨((cell_far (p := ⟨gb307,_,none⟩) NB315_307.out _).trans (((cell_far (p := ⟨gb307,_,none⟩) NB315_307.out _).trans (((cell_far (p := ⟨gb307,_,none⟩) NB315_307.out _).trans (((cell_far (p := ⟨gb307,_,none⟩) NB315_307.out _).trans (hHeld.1)))))))),((cell_far (p := ⟨gb307,_,none⟩) NB315_307.out _).trans (((cell_far (p := ⟨gb307,_,none⟩) NB315_307.out _).trans (((cell_far (p := ⟨gb307,_,none⟩) NB315_307.out _).trans (((cell_far (p := ⟨gb307,_,none⟩) NB315_307.out _).trans (hHeld.2.1)))))))),((cell_far (p := ⟨gb307,_,none⟩) NB315_307.out _).trans (((cell_far (p := ⟨gb307,_,none⟩) NB315_307.out _).trans (((cell_far (p := ⟨gb307,_,none⟩) NB315_307.out _).trans (((cell_far (p := ⟨gb307,_,none⟩) NB315_307.out _).trans (hHeld.2.2))))))))⟩ (fun hHeld => ?_)
  clear hK K
  refine one_ (i := 3) (N := none) #[true,true,true,true] rfl rfl Z253 Z355 (fun K hK => ?_)
  have hs17 : w12.cell? ⟨gb308,0,none⟩ = some (.int .i64 0) := bc BK308 0
  have hfs17 := blk_frozen BK308.out 0
  have hns17_0 := NB307_308.out
  have hns17_2 := NB315_308.out
  have hms17_0 := NB308_307.out
  have hms17_2 := NB308_315.out
  have hs18 : w12.cell? ⟨gb308,1,none⟩ = some (.int .i64 0) := bc BK308 1
  have hfs18 := blk_frozen BK308.out 1
  have hns18_0 := NB307_308.out
  have hns18_2 := NB315_308.out
  have hms18_0 := NB308_307.out
  have hms18_2 := NB308_315.out
  have hs19 : w12.cell? ⟨gb308,2,none⟩ = some (.int .i64 0) := bc BK308 2
  have hfs19 := blk_frozen BK308.out 2
  have hns19_0 := NB307_308.out
  have hns19_2 := NB315_308.out
  have hms19_0 := NB308_307.out
  have hms19_2 := NB308_315.out
  refine skip_ (w1 := ?_) Z255 rfl ?_ ?_
  rotate_left
  ·go_simp
   rfl
  refine hK.out _ _ ⟨((cell_far (p := ⟨gb308,_,none⟩) NB315_308.out _).trans (((cell_far (p := ⟨gb308,_,none⟩) NB315_308.out _).trans (((cell_far (p := ⟨gb308,_,none⟩) NB315_308.out _).trans (hHeld.1)))))),((cell_far (p := ⟨gb308,_,none⟩) NB315_308.out _).trans (((cell_far (p := ⟨gb308,_,none⟩) NB315_308.out _).trans (((cell_far (p := ⟨gb308,_,none⟩) NB315_308.out _).trans (hHeld.2.1)))))),((cell_far (p := ⟨gb308,_,none⟩) NB315_308.out _).trans (((cell_far (p := ⟨gb308,_,none⟩) NB315_308.out _).trans (((cell_far (p := ⟨gb308,_,none⟩) NB315_308.out _).trans (hHeld.2.2))))))⟩ (fun hHeld => ?_)
  clear hK K
  refine done_ Z253 ?_
  try go_wp2
  refine bodyPost_ret (results_cc rfl _ _ gb307 gb308 26 28 #[.slice none 0 0,.string (⟨#[]⟩ : ByteArray),.slice none 0 0,.slice none 0 0] #[.int .i64 t312,.int .i64 t313,.int .i64 t314] (0,0) (0,0) _ _ rfl Z38 Tryd.underlying26 rfl Z253 rfl (by refine bP ?_;refine blk_put (cs := #[.int .i64 t312,.int .i64 t313,.int .i64 0]) ?_ 2 _ rfl;refine bP ?_;refine blk_put (cs := #[.int .i64 t312,.int .i64 0,.int .i64 0]) ?_ 1 _ rfl;refine bP ?_;refine blk_put (cs := #[.int .i64 0,.int .i64 0,.int .i64 0]) ?_ 0 _ rfl;refine bP ?_;refine blk_far ?_ NB308_307.out _;refine bP ?_;refine blk_far ?_ NB308_307.out _;refine bP ?_;refine blk_far ?_ NB308_307.out _;refine bP ?_;refine blk_far ?_ NB308_307.out _;refine bP ?_;exact BK308.out) Tryd.underlying28 rfl Z253) rfl ?_
  exact ⟨_,_,_,Z218,Z169,Z170,Z169,Z268⟩
 rw [if_neg c3] at H
 have c3b0 : (!(t312 == 0) || (!(t313 == 0) || (!(t314 == 0)))) = false := by simpa using c3
 clear c3
 by_cases c20 : (t309.length : Int) = 0
 ·rw [if_pos c20] at H
  have c20b0 : ((t309.length : Int) == 0) = true := beq_iff_eq.mpr c20
  have c20b1 : ((t309.length : Int) != 0) = false := bne_eq_false_iff_eq.mpr c20
  clear c20
  simp only [Option.some.injEq,Prod.mk.injEq] at H
  obtain ⟨rfl,rfl,rfl,rfl,rfl,rfl,rfl⟩ := H
  go_enter Tryd.func5,Tryd.ntmps5
  go_wp2_with (first | ((with_reducible refine gate_dst (N := 2) rfl ?_);refine bE 2 #[.slice none 0 0,.string (⟨#[]⟩ : ByteArray),.slice none 0 0,.slice none 0 0] 26 (h := ?_);intro gb307 hg wq1 hbox hb;have n_ := Z48;clear HB;obtain ⟨HB,BK307,GW307,GE307⟩ := n_;clear hb hbox hg) | ((with_reducible refine gate_dst (N := 3) rfl ?_);refine bE 3 #[.int .i64 0,.int .i64 0,.int .i64 0] 28 (h := ?_);intro gb308 hg wq2 hbox hb;have n_ := Z14;clear BK307 HB;obtain ⟨BK307,HB,BK308,GW308,GE308,NB307_308,NB308_307⟩ := n_;clear hb hbox hg) | ((with_reducible refine gate_callee (f := 14) rfl ?_);refine goesL_ (some 16) rfl rfl Tryd.func14 Z253 rfl #[.string a0] rfl Z173 ?_;(with_reducible refine (impl_ReadCsv.calls k a0 t309 t312 t313 t314 _ A2.out).mono ?_);rintro e wq3 ⟨vq4,rfl,hoq5,hb⟩;refine ⟨_,rfl,?_⟩;have n_ := Z9;clear BK307 BK308 HB;obtain ⟨HO311,BK307,BK308,HB⟩ := n_;(try clear hb);(try clear hb2);(try clear hk);(try clear hi);(try clear hoq5)) | ((with_reducible refine gate_dst (N := 5) rfl ?_);refine bE 5 #[.int .i64 0,.int .i64 0,.int .i64 0] 28 (h := ?_);intro gb315 hg wq6 hbox hb;have n_ := Z3;clear HO311 BK307 BK308 HB;obtain ⟨HO311,BK307,BK308,HB,BK315,GW315,GE315,NB307_315,NB315_307,NB308_315,NB315_308⟩ := n_;clear hb hbox hg;have hnbq7 := NB315_307.out;have hncq7 := NB307_315.out;have hnbq8 := NB315_308.out;have hncq8 := NB308_315.out;obtain ⟨hczq9_0,hczq9_1,hczq9_2,hfzq9_0,hfzq9_1,hfzq9_2⟩ := cells3 BK315.out;obtain ⟨Aoq10,coq10,eoq10⟩ := Kd.N_slice HO311.out;subst eoq10;have hnbq11 := NB307_308.out;have hncq11 := NB308_307.out;obtain ⟨hczq12_0,hczq12_1,hczq12_2,hczq12_3,hfzq12_0,hfzq12_1,hfzq12_2,hfzq12_3⟩ := cells4 BK307.out;obtain ⟨hczq13_0,hczq13_1,hczq13_2,hfzq13_0,hfzq13_1,hfzq13_2⟩ := cells3 BK308.out))
  refine bodyPost_ret (results_cc rfl _ _ gb307 gb308 26 28 #[.slice none 0 0,.string (⟨#[]⟩ : ByteArray),.slice none 0 0,.slice none 0 0] #[.int .i64 3,.int .i64 0,.int .i64 0] (0,0) (0,0) _ _ rfl (by refine bP ?_;refine blk_far ?_ NB307_308.out _;refine bP ?_;refine blk_far ?_ NB307_308.out _;refine bP ?_;refine blk_far ?_ NB307_308.out _;refine bP ?_;refine blk_put (cs := #[.slice none 0 0,.string (⟨#[]⟩ : ByteArray),.slice none 0 0,.slice none 0 0]) ?_ 3 _ rfl;refine bP ?_;refine blk_put (cs := #[.slice none 0 0,.string (⟨#[]⟩ : ByteArray),.slice none 0 0,.slice none 0 0]) ?_ 2 _ rfl;refine bP ?_;refine blk_put (cs := #[.slice none 0 0,.string (⟨#[]⟩ : ByteArray),.slice none 0 0,.slice none 0 0]) ?_ 1 _ rfl;refine bP ?_;refine blk_put (cs := #[.slice none 0 0,.string (⟨#[]⟩ : ByteArray),.slice none 0 0,.slice none 0 0]) ?_ 0 _ rfl;refine bP ?_;refine blk_far ?_ NB307_315.out _;refine bP ?_;refine blk_far ?_ NB307_315.out _;refine bP ?_;refine blk_far ?_ NB307_315.out _;refine bP ?_;exact BK307.out) Tryd.underlying26 rfl Z253 rfl (by refine bP ?_;refine blk_put (cs := #[.int .i64 3,.int .i64 0,.int .i64 0]) ?_ 2 _ rfl;refine bP ?_;refine blk_put (cs := #[.int .i64 3,.int .i64 0,.int .i64 0]) ?_ 1 _ rfl;refine bP ?_;refine blk_put (cs := #[.int .i64 0,.int .i64 0,.int .i64 0]) ?_ 0 _ rfl;refine bP ?_;refine blk_far ?_ NB308_307.out _;refine bP ?_;refine blk_far ?_ NB308_307.out _;refine bP ?_;refine blk_far ?_ NB308_307.out _;refine bP ?_;refine blk_far ?_ NB308_307.out _;refine bP ?_;refine blk_far ?_ NB308_315.out _;refine bP ?_;refine blk_far ?_ NB308_315.out _;refine bP ?_;refine blk_far ?_ NB308_315.out _;refine bP ?_;exact BK308.out) Tryd.underlying28 rfl Z253) rfl ?_
  exact ⟨_,_,_,Z218,Z169,Z170,Z169,Z268⟩
 rw [if_neg c20] at H
 have c20b0 : ((t309.length : Int) == 0) = false := beq_eq_false_iff_ne.mpr c20
 have c20b1 : ((t309.length : Int) != 0) = true := bne_iff_ne.mpr c20
 have c20b2 : ¬ (t309 = []) := fun h_ => c20 (by rw [h_];rfl)
 obtain ⟨c32,H⟩ := ifp H
 have c32b0 : decide (0 < (t309.length : Int)) = true := decide_eq_true c32
 have c32b1 : decide (0 < t309.length) = true := decide_eq_true Z254
 clear c32
 obtain ⟨t317,A330,H⟩ := Option.bind_eq_some_iff.mp H
 have A33 := Aside0.mk A330
 clear A330
 by_cases c34 : t317 = true
 rotate_left
 ·replace c34 := Bool.eq_false_iff.mpr c34
  subst c34
  rw [if_neg Bool.false_ne_true] at H
  simp only [Option.some.injEq,Prod.mk.injEq] at H
  obtain ⟨rfl,rfl,rfl,rfl,rfl,rfl,rfl⟩ := H
  go_enter Tryd.func5,Tryd.ntmps5
  go_wp2_with (first | ((with_reducible refine gate_dst (N := 2) rfl ?_);refine bE 2 #[.slice none 0 0,.string (⟨#[]⟩ : ByteArray),.slice none 0 0,.slice none 0 0] 26 (h := ?_);intro gb307 hg wq1 hbox hb;have n_ := Z48;clear HB;obtain ⟨HB,BK307,GW307,GE307⟩ := n_;clear hb hbox hg) | ((with_reducible refine gate_dst (N := 3) rfl ?_);refine bE 3 #[.int .i64 0,.int .i64 0,.int .i64 0] 28 (h := ?_);intro gb308 hg wq2 hbox hb;have n_ := Z14;clear BK307 HB;obtain ⟨BK307,HB,BK308,GW308,GE308,NB307_308,NB308_307⟩ := n_;clear hb hbox hg) | ((with_reducible refine gate_callee (f := 14) rfl ?_);refine goesL_ (some 16) rfl rfl Tryd.func14 Z253 rfl #[.string a0] rfl Z173 ?_;(with_reducible refine (impl_ReadCsv.calls k a0 t309 t312 t313 t314 _ A2.out).mono ?_);rintro e wq3 ⟨vq4,rfl,hoq5,hb⟩;refine ⟨_,rfl,?_⟩;have n_ := Z9;clear BK307 BK308 HB;obtain ⟨HO311,BK307,BK308,HB⟩ := n_;(try clear hb);(try clear hb2);(try clear hk);(try clear hi);(try clear hoq5)) | ((with_reducible refine gate_dst (N := 5) rfl ?_);refine bE 5 #[.int .i64 0,.int .i64 0,.int .i64 0] 28 (h := ?_);intro gb315 hg wq6 hbox hb;have n_ := Z3;clear HO311 BK307 BK308 HB;obtain ⟨HO311,BK307,BK308,HB,BK315,GW315,GE315,NB307_315,NB315_307,NB308_315,NB315_308⟩ := n_;clear hb hbox hg;have hnbq7 := NB315_307.out;have hncq7 := NB307_315.out;have hnbq8 := NB315_308.out;have hncq8 := NB308_315.out;obtain ⟨hczq9_0,hczq9_1,hczq9_2,hfzq9_0,hfzq9_1,hfzq9_2⟩ := cells3 BK315.out) | ((with_reducible refine gate_store (t := 28) (p := 5) rfl ?_);refine store_event (t := 28) (p := 5) (v := ?vo_w156) (w1 := (((wq6.setCell ⟨gb315,0,none⟩ (.int .i64 t312)).setCell ⟨gb315,1,none⟩ (.int .i64 t313)).setCell ⟨gb315,2,none⟩ (.int .i64 t314))) ?hg ?ho ?hn ?hr ?_;(case ho => rfl);(case hg => rfl);(case hn => rfl);(case hr => exact Z239);intro wq10 hw;have n0_ : Aside0 (Kd.N (Kd.slice 9 Kd.string) 22 wq10 w.heap.size (fun k_ => (w.heap.size ≤ k_) ∧ k_ ≠ gb307 ∧ k_ ≠ gb308 ∧ k_ ≠ gb315) vq4 t309) := ⟨Z53⟩;have n1_ : Aside0 (wq10.heap[gb307]? = some (.cells #[.slice none 0 0,.string (⟨#[]⟩ : ByteArray),.slice none 0 0,.slice none 0 0] 26 (0,0))) := ⟨Z128⟩;have n2_ : Aside0 (wq10.heap[gb308]? = some (.cells #[.int .i64 0,.int .i64 0,.int .i64 0] 28 (0,0))) := ⟨Z127⟩;have n3_ : Aside0 (wq10.heap[gb315]? = some (.cells #[.int .i64 t312,.int .i64 t313,.int .i64 t314] 28 (0,0))) := ⟨Z82⟩;have n4_ : Aside0 (Below w.heap.size w wq10) := ⟨Z107⟩;clear hw;clear HO311;clear BK307;clear BK308;clear BK315;clear HB;have HO311 := n0_;have BK307 := n1_;have BK308 := n2_;have BK315 := n3_;have HB := n4_;clear n0_ n1_ n2_ n3_ n4_;obtain ⟨hczq11_0,hczq11_1,hczq11_2,hfzq11_0,hfzq11_1,hfzq11_2⟩ := cells3 BK315.out;obtain ⟨Aoq12,coq12,eoq12⟩ := Kd.N_slice HO311.out;subst eoq12;have pq13 : 0 ≤ (0 : Int) := Z254;have qq13 : 0 < (t309.length : Int) := of_decide_eq_true Z330;obtain ⟨adq13,A316_0,c316_0,eq13,hxq13_0,hlq13_0,hiq13_0⟩ := at_L2 (Kd.N_reads' HO311.out).2.2 0 pq13 qq13;cases eq13;obtain ⟨ceq13,hceq13,hMeq13,hccq13⟩ := Kd.N_get HO311.out [] 0 pq13 (by first | exact qq13 | exact of_decide_eq_true Z330 | (have e_ := (Kd.N_reads' HO311.out).1;omega));obtain ⟨uaq13_0,ucq13_0,rfl,ulq13_0,geq13_0⟩ := Kd.FK_slice_open hMeq13;have hvq13_0 := hccq13 0 _ rfl;rw [Nat.add_zero,show ((Kd.slice 9 Kd.string)).sz = 1 from rfl,Nat.mul_one] at hvq13_0;replace hvq13_0 := Option.some.inj (hvq13_0.symm.trans hxq13_0);injection hvq13_0 with hva_ hvn_ hvc_;rw [hva_] at geq13_0;rw [hvc_] at ulq13_0;have HL316_0 := Aside0.mk (show Kd.V Kd.string 9 _ w.heap.size _ _ (rd_L2 t309 0) from Kd.V_mk ulq13_0 geq13_0);clear hva_ hvn_ hvc_ geq13_0 ulq13_0;clear hccq13 hceq13;have qiq13 : (0 < t309.length) = True := eq_true Z254;(try rw [show ((0 : Int)).toNat = 0 from rfl] at hxq13_0);(try rw [Addr.add_zero'] at hxq13_0);have HR316_0 := Aside0.mk hiq13_0;have HC316_0 := Aside0.mk hlq13_0;clear hiq13_0 hlq13_0;replace pq13 := eq_true pq13;replace qq13 := eq_true qq13) | ((with_reducible refine gate_callee (f := 15) rfl ?_);refine goesL_ (some 36) rfl rfl Tryd.func15 Z253 rfl #[.int .i64 ((rd_L2 t309 0).length : Int),.int .i64 2,.int .i64 5] rfl Z173 ?_;(with_reducible refine (impl_within.calls ((rd_L2 t309 0).length : Int) 2 5 false _ A33.out).mono ?_);rintro e w' ⟨rfl,⟨nd,rfl⟩⟩;refine ⟨_,rfl,?_⟩;(iterate 4 (try (rw [drewN_self wq10];generalize hq_ : World.drewN wq10 _ = wq10;have n0_ : Aside0 (Kd.V Kd.string 9 wq10 w.heap.size (fun k_ => (w.heap.size ≤ k_) ∧ some k_ ≠ (.slice (some adq13) t309.length coq12 : Value).ownBlock ∧ k_ ≠ gb307 ∧ k_ ≠ gb308 ∧ k_ ≠ gb315) (.slice A316_0 (rd_L2 t309 0).length c316_0) (rd_L2 t309 0)) := ⟨by rw [← hq_];exact (by (with_reducible repeat (first | apply Kd.V_alloc | apply Kd.V_drewN | apply Kd.V_drew));exact Kd.V_mono HL316_0.out (fun _ hk => ⟨hk.1.1,⟨hk.2,⟨hk.1.2.1,⟨hk.1.2.2.1,hk.1.2.2.2⟩⟩⟩⟩))⟩;have n1_ : Aside0 (Kd.N (Kd.slice 9 Kd.string) 22 wq10 w.heap.size (fun k_ => (w.heap.size ≤ k_) ∧ k_ ≠ gb307 ∧ k_ ≠ gb308 ∧ k_ ≠ gb315) (.slice (some adq13) t309.length coq12) t309) := ⟨by rw [← hq_];exact Z319⟩;have n2_ : Aside0 (wq10.heap[gb307]? = some (.cells #[.slice none 0 0,.string (⟨#[]⟩ : ByteArray),.slice none 0 0,.slice none 0 0] 26 (0,0))) := ⟨Z234⟩;have n3_ : Aside0 (wq10.heap[gb308]? = some (.cells #[.int .i64 0,.int .i64 0,.int .i64 0] 28 (0,0))) := ⟨Z233⟩;have n4_ : Aside0 (wq10.heap[gb315]? = some (.cells #[.int .i64 t312,.int .i64 t313,.int .i64 t314] 28 (0,0))) := ⟨Z232⟩;have n5_ : Aside0 (Below w.heap.size w wq10) := ⟨Z104⟩;have n6_ : Aside0 (Kd.C Kd.string wq10 A316_0 (rd_L2 t309 0).length (rd_L2 t309 0)) := ⟨by rw [← hq_];exact (by repeat (first | (with_reducible exact HR316_0.out) | (with_reducible refine Kd.C_alloc ?_ _) | (with_reducible refine Kd.C_drewN ?_ _) | (with_reducible refine Kd.C_drew ?_) | exact HR316_0.out))⟩;clear HL316_0 HO311 BK307 BK308 BK315 HB HR316_0 hq_;have HL316_0 := n0_;have HO311 := n1_;have BK307 := n2_;have BK308 := n3_;have BK315 := n4_;have HB := n5_;have HR316_0 := n6_;clear n0_ n1_ n2_ n3_ n4_ n5_ n6_)));(try (obtain ⟨hczq11_0,hczq11_1,hczq11_2,hfzq11_0,hfzq11_1,hfzq11_2⟩ := cells3 BK315.out));have hnbq14 := NB307_308.out;have hncq14 := NB308_307.out;obtain ⟨hczq15_0,hczq15_1,hczq15_2,hczq15_3,hfzq15_0,hfzq15_1,hfzq15_2,hfzq15_3⟩ := cells4 BK307.out;obtain ⟨hczq16_0,hczq16_1,hczq16_2,hfzq16_0,hfzq16_1,hfzq16_2⟩ := cells3 BK308.out))
  refine bodyPost_ret (results_cc rfl _ _ gb307 gb308 26 28 #[.slice none 0 0,.string (⟨#[]⟩ : ByteArray),.slice none 0 0,.slice none 0 0] #[.int .i64 7,.int .i64 0,.int .i64 0] (0,0) (0,0) _ _ rfl Z38 Tryd.underlying26 rfl Z253 rfl (by refine bP ?_;refine blk_put (cs := #[.int .i64 7,.int .i64 0,.int .i64 0]) ?_ 2 _ rfl;refine bP ?_;refine blk_put (cs := #[.int .i64 7,.int .i64 0,.int .i64 0]) ?_ 1 _ rfl;refine bP ?_;refine blk_put (cs := #[.int .i64 0,.int .i64 0,.int .i64 0]) ?_ 0 _ rfl;refine bP ?_;refine blk_far ?_ NB308_307.out _;refine bP ?_;refine blk_far ?_ NB308_307.out _;refine bP ?_;refine blk_far ?_ NB308_307.out _;refine bP ?_;refine blk_far ?_ NB308_307.out _;refine bP ?_;exact BK308.out) Tryd.underlying28 rfl Z253) rfl ?_
  exact ⟨_,_,_,Z218,Z169,Z170,Z169,Z268⟩
 subst c34
 rw [if_pos rfl] at H
 have H' := Aside0.mk H
 clear H
 go_enter Tryd.func5,Tryd.ntmps5
 go_wp2_with (first | ((with_reducible refine gate_dst (N := 2) rfl ?_);refine bE 2 #[.slice none 0 0,.string (⟨#[]⟩ : ByteArray),.slice none 0 0,.slice none 0 0] 26 (h := ?_);intro gb307 hg w35 hbox hb;have n_ := Z48;clear HB;obtain ⟨HB,BK307,GW307,GE307⟩ := n_;clear hb hbox hg) | ((with_reducible refine gate_dst (N := 3) rfl ?_);refine bE 3 #[.int .i64 0,.int .i64 0,.int .i64 0] 28 (h := ?_);intro gb308 hg w36 hbox hb;have n_ := Z14;clear BK307 HB;obtain ⟨BK307,HB,BK308,GW308,GE308,NB307_308,NB308_307⟩ := n_;clear hb hbox hg) | ((with_reducible refine gate_callee (f := 14) rfl ?_);refine goesL_ (some 16) rfl rfl Tryd.func14 Z253 rfl #[.string a0] rfl Z173 ?_;(with_reducible refine (impl_ReadCsv.calls k a0 t309 t312 t313 t314 _ A2.out).mono ?_);rintro e w37 ⟨v310,rfl,ho0,hb⟩;refine ⟨_,rfl,?_⟩;have n_ := Z10;clear BK307 BK308 HB;obtain ⟨HO311,BK307,BK308,HB⟩ := n_;(try clear hb);(try clear hb2);(try clear hk);(try clear hi);(try clear ho0)) | ((with_reducible refine gate_dst (N := 5) rfl ?_);refine bE 5 #[.int .i64 0,.int .i64 0,.int .i64 0] 28 (h := ?_);intro gb315 hg w38 hbox hb;have n_ := Z3;clear HO311 BK307 BK308 HB;obtain ⟨HO311,BK307,BK308,HB,BK315,GW315,GE315,NB307_315,NB315_307,NB308_315,NB315_308⟩ := n_;clear hb hbox hg;have hnb39 := NB315_307.out;have hnc39 := NB307_315.out;have hnb40 := NB315_308.out;have hnc40 := NB308_315.out;obtain ⟨hcz41_0,hcz41_1,hcz41_2,hfz41_0,hfz41_1,hfz41_2⟩ := cells3 BK315.out) | ((with_reducible refine gate_store (t := 28) (p := 5) rfl ?_);refine store_event (t := 28) (p := 5) (v := ?vo_w42) (w1 := (((w38.setCell ⟨gb315,0,none⟩ (.int .i64 t312)).setCell ⟨gb315,1,none⟩ (.int .i64 t313)).setCell ⟨gb315,2,none⟩ (.int .i64 t314))) ?hg ?ho ?hn ?hr ?_;(case ho => rfl);(case hg => rfl);(case hn => rfl);(case hr => exact Z239);intro w42 hw;have n0_ : Aside0 (Kd.N (Kd.slice 9 Kd.string) 22 w42 w.heap.size (fun k_ => (w.heap.size ≤ k_) ∧ k_ ≠ gb307 ∧ k_ ≠ gb308 ∧ k_ ≠ gb315) v310 t309) := ⟨Z53⟩;have n1_ : Aside0 (w42.heap[gb307]? = some (.cells #[.slice none 0 0,.string (⟨#[]⟩ : ByteArray),.slice none 0 0,.slice none 0 0] 26 (0,0))) := ⟨Z128⟩;have n2_ : Aside0 (w42.heap[gb308]? = some (.cells #[.int .i64 0,.int .i64 0,.int .i64 0] 28 (0,0))) := ⟨Z127⟩;have n3_ : Aside0 (w42.heap[gb315]? = some (.cells #[.int .i64 t312,.int .i64 t313,.int .i64 t314] 28 (0,0))) := ⟨Z82⟩;have n4_ : Aside0 (Below w.heap.size w w42) := ⟨Z107⟩;clear hw;clear HO311;clear BK307;clear BK308;clear BK315;clear HB;have HO311 := n0_;have BK307 := n1_;have BK308 := n2_;have BK315 := n3_;have HB := n4_;clear n0_ n1_ n2_ n3_ n4_;obtain ⟨hcz43_0,hcz43_1,hcz43_2,hfz43_0,hfz43_1,hfz43_2⟩ := cells3 BK315.out;obtain ⟨Ao44,co44,eo44⟩ := Kd.N_slice HO311.out;subst eo44;have p316 : 0 ≤ (0 : Int) := Z254;have q316 : 0 < (t309.length : Int) := of_decide_eq_true Z330;obtain ⟨ad316,A316_0,c316_0,e316,hx316_0,hl316_0,hi316_0⟩ := at_L2 (Kd.N_reads' HO311.out).2.2 0 p316 q316;cases e316;obtain ⟨ce316,hce316,hMe316,hcc316⟩ := Kd.N_get HO311.out [] 0 p316 (by first | exact q316 | exact of_decide_eq_true Z330 | (have e_ := (Kd.N_reads' HO311.out).1;omega));obtain ⟨ua316_0,uc316_0,rfl,ul316_0,ge316_0⟩ := Kd.FK_slice_open hMe316;have hv316_0 := hcc316 0 _ rfl;rw [Nat.add_zero,show ((Kd.slice 9 Kd.string)).sz = 1 from rfl,Nat.mul_one] at hv316_0;replace hv316_0 := Option.some.inj (hv316_0.symm.trans hx316_0);injection hv316_0 with hva_ hvn_ hvc_;rw [hva_] at ge316_0;rw [hvc_] at ul316_0;have HL316_0 := Aside0.mk (show Kd.V Kd.string 9 _ w.heap.size _ _ (rd_L2 t309 0) from Kd.V_mk ul316_0 ge316_0);clear hva_ hvn_ hvc_ ge316_0 ul316_0;clear hcc316 hce316;have qi316 : (0 < t309.length) = True := eq_true Z254;(try rw [show ((0 : Int)).toNat = 0 from rfl] at hx316_0);(try rw [Addr.add_zero'] at hx316_0);have HR316_0 := Aside0.mk hi316_0;have HC316_0 := Aside0.mk hl316_0;clear hi316_0 hl316_0;replace p316 := eq_true p316;replace q316 := eq_true q316) | ((with_reducible refine gate_callee (f := 15) rfl ?_);refine goesL_ (some 36) rfl rfl Tryd.func15 Z253 rfl #[.int .i64 ((rd_L2 t309 0).length : Int),.int .i64 2,.int .i64 5] rfl Z173 ?_;(with_reducible refine (impl_within.calls ((rd_L2 t309 0).length : Int) 2 5 true _ A33.out).mono ?_);rintro e w' ⟨rfl,⟨nd,rfl⟩⟩;refine ⟨_,rfl,?_⟩;have p318 : 0 ≤ (0 : Int) := Z254;have q318 : 0 < (t309.length : Int) := of_decide_eq_true Z330;obtain ⟨ad318,A318_0,c318_0,e318,hx318_0,hl318_0,hi318_0⟩ := at_L2 (Kd.N_reads' HO311.out).2.2 0 p318 q318;obtain rfl : ad316 = ad318 := (by injection e318);obtain ⟨ce318,hce318,hMe318,hcc318⟩ := Kd.N_get HO311.out [] 0 p318 (by first | exact q318 | exact of_decide_eq_true Z330 | (have e_ := (Kd.N_reads' HO311.out).1;omega));obtain ⟨ua318_0,uc318_0,rfl,ul318_0,ge318_0⟩ := Kd.FK_slice_open hMe318;have hv318_0 := hcc318 0 _ rfl;rw [Nat.add_zero,show ((Kd.slice 9 Kd.string)).sz = 1 from rfl,Nat.mul_one] at hv318_0;replace hv318_0 := Option.some.inj (hv318_0.symm.trans hx318_0);injection hv318_0 with hva_ hvn_ hvc_;rw [hva_] at ge318_0;rw [hvc_] at ul318_0;have HL318_0 := Aside0.mk (show Kd.V Kd.string 9 _ w.heap.size _ _ (rd_L2 t309 0) from Kd.V_mk ul318_0 ge318_0);clear hva_ hvn_ hvc_ ge318_0 ul318_0;clear hcc318 hce318;have qi318 : (0 < t309.length) = True := eq_true Z254;(try rw [show ((0 : Int)).toNat = 0 from rfl] at hx318_0);(try rw [Addr.add_zero'] at hx318_0);have HR318_0 := Aside0.mk hi318_0;have HC318_0 := Aside0.mk hl318_0;clear hi318_0 hl318_0;replace p318 := eq_true p318;replace q318 := eq_true q318;have ea_ := Option.some.inj (hx316_0.symm.trans hx318_0);injection ea_ with ea_ en_ ec_;subst ea_;subst ec_;clear en_))
 go_loopg [45] k (fun kq v45 w' => ∃ (x45_1 : Int) (x308001_1 : ByteArray) (x309000_1 : Int) (x309001_1 : Int) (x309002_1 : Int),v45 = .int .i64 x45_1 ∧ Aside0 (impl_ReadTable.l0 kq t309 (rd_L2 t309 0) (rd_L2 t309 0) ((rd_L2 t309 0).length : Int) x45_1 = some (r1,r2,r3,r4,r5,r6,r7)) ∧ Aside0 (kq ≤ k) ∧ Aside0 (Kd.N (Kd.slice 9 Kd.string) 22 w' w.heap.size (fun k_ => (w.heap.size ≤ k_) ∧ k_ ≠ gb307 ∧ k_ ≠ gb308 ∧ k_ ≠ gb315) (.slice (some ad316) t309.length co44) t309) ∧ Aside0 (w'.heap[gb307]? = some (.cells #[(.slice none 0 0),.string x308001_1,(.slice none 0 0),(.slice none 0 0)] 26 (0,0))) ∧ Aside0 (w'.heap[gb308]? = some (.cells #[.int .i64 x309000_1,.int .i64 x309001_1,.int .i64 x309002_1] 28 (0,0))) ∧ Aside0 (w'.heap[gb315]? = some (.cells #[.int .i64 t312,.int .i64 t313,.int .i64 t314] 28 (0,0))) ∧ Aside0 (Kd.V Kd.string 9 w' w.heap.size (fun k_ => (w.heap.size ≤ k_) ∧ k_ ≠ gb307 ∧ k_ ≠ gb308 ∧ k_ ≠ gb315) (.slice A316_0 (rd_L2 t309 0).length c316_0) (rd_L2 t309 0)) ∧ Aside0 (Kd.C Kd.string w' A316_0 (rd_L2 t309 0).length (rd_L2 t309 0)) ∧ Aside0 (Below w.heap.size w w'))
 case atStart => exact ⟨(0),((⟨#[]⟩ : ByteArray)),(0),(0),(0),Z238,H',⟨Nat.le_refl _⟩,⟨Z319⟩,⟨Z352⟩,⟨Z331⟩,⟨Z332⟩,⟨by (with_reducible repeat (first | apply Kd.V_alloc | apply Kd.V_drewN | apply Kd.V_drew));first | exact HL318_0.out | exact Kd.V_mono HL318_0.out (fun _ hk => hk.1)⟩,⟨Z282⟩,⟨Z268⟩⟩
 case round =>
  clear H'
  try clear c1
  try clear c2
  try clear p2
  try clear c3
  try clear c3b0
  try clear p3
  try clear q3
  try clear hx3
  try clear qi3
  try clear c4
  try clear c5
  try clear c8
  try clear c9
  try clear c14
  try clear c15
  try clear c20
  try clear c20b0
  try clear c20b1
  try clear c20b2
  try clear c25
  try clear c26
  try clear c29
  try clear c31
  try clear p31
  try clear q31
  try clear hx31
  try clear qi31
  try clear c32
  try clear c32b0
  try clear c32b1
  try clear c34
  try clear c39
  try clear c40
  try clear hx316_0
  try clear hx318_0
  try clear p316
  try clear p318
  try clear q316
  try clear q318
  obtain ⟨x45_1,x308001_1,x309000_1,x309001_1,x309002_1,rfl,HA,HK1,HO_4,BK307,BK308,BK315,HR316_0,HR318_0,HB⟩ := hrel
  cases gk with
  | zero => exact absurd HA.out (by simp [impl_ReadTable.l0])
  | succ k1 =>
   have H := HA.out
   clear HA
   simp only [impl_ReadTable.l0] at H
   by_cases c45 : x45_1 < ((rd_L2 t309 0).length : Int)
   ·rw [if_pos c45] at H
    have c45b0 : decide (x45_1 < ((rd_L2 t309 0).length : Int)) = true := decide_eq_true c45
    clear c45
    obtain ⟨c46,H⟩ := ifp H
    have c46b0 : decide (0 ≤ x45_1) = true := decide_eq_true c46
    clear c46
    obtain ⟨c47,H⟩ := ifp H
    have c47b0 : decide (x45_1 < ((rd_L2 t309 0).length : Int)) = true := decide_eq_true c47
    clear c47
    obtain ⟨t320,A480,H⟩ := Option.bind_eq_some_iff.mp H
    have A48 := Aside0.mk A480
    clear A480
    by_cases c49 : t320 = true
    rotate_left
    ·replace c49 := Bool.eq_false_iff.mpr c49
     subst c49
     rw [if_neg Bool.false_ne_true] at H
     simp only [Option.some.injEq,Prod.mk.injEq] at H
     obtain ⟨rfl,rfl,rfl,rfl,rfl,rfl,rfl⟩ := H
     have p319 : 0 ≤ (x45_1 : Int) := of_decide_eq_true Z330
     have q319 : x45_1 < ((rd_L2 t309 0).length : Int) := of_decide_eq_true Z330
     obtain ⟨ad319,e319,hx319_0⟩ := Kd.at_string HR318_0.out x45_1 p319 q319
     cases e319
     try replace hx319_0 := (HB.out.cell (World.block_lt_of_cell? w _ hx319_0)).trans hx319_0
     replace p319 := eq_true p319
     replace q319 := eq_true q319
     go_wp2_with (first | ((with_reducible refine gate_callee (f := 16) rfl ?_);refine goesL_ (some 51) rfl rfl Tryd.func16 Z253 rfl #[.string (rdOf ByteArray.empty (rd_L2 t309 0) x45_1)] rfl Z173 ?_;(with_reducible refine (impl_NameOk.calls k1 (rdOf ByteArray.empty (rd_L2 t309 0) x45_1) false _ A48.out).mono ?_);rintro e w' ⟨rfl,⟨nd,rfl⟩⟩;refine ⟨_,rfl,?_⟩;(iterate 4 (try (rw [drewN_self wr];generalize hq_ : World.drewN wr _ = wr;have n0_ : Aside0 (Kd.N (Kd.slice 9 Kd.string) 22 wr w.heap.size (fun k_ => (w.heap.size ≤ k_) ∧ k_ ≠ gb307 ∧ k_ ≠ gb308 ∧ k_ ≠ gb315) (.slice (some ad316) t309.length co44) t309) := ⟨Z180⟩;have n1_ : Aside0 (wr.heap[gb307]? = some (.cells #[.slice none 0 0,.string x308001_1,.slice none 0 0,.slice none 0 0] 26 (0,0))) := ⟨Z234⟩;have n2_ : Aside0 (wr.heap[gb308]? = some (.cells #[.int .i64 x309000_1,.int .i64 x309001_1,.int .i64 x309002_1] 28 (0,0))) := ⟨Z233⟩;have n3_ : Aside0 (wr.heap[gb315]? = some (.cells #[.int .i64 t312,.int .i64 t313,.int .i64 t314] 28 (0,0))) := ⟨Z232⟩;have n4_ : Aside0 (Below w.heap.size w wr) := ⟨Z104⟩;have n5_ : Aside0 (Kd.V Kd.string 9 wr w.heap.size (fun k_ => (w.heap.size ≤ k_) ∧ k_ ≠ gb307 ∧ k_ ≠ gb308 ∧ k_ ≠ gb315) (.slice (some ad319) (rd_L2 t309 0).length c316_0) (rd_L2 t309 0)) := ⟨Z178⟩;have n6_ : Aside0 (Kd.C Kd.string wr (some ad319) (rd_L2 t309 0).length (rd_L2 t309 0)) := ⟨Z116⟩;clear HO_4 BK307 BK308 BK315 HB HR316_0 HR318_0 hq_;have HO_4 := n0_;have BK307 := n1_;have BK308 := n2_;have BK315 := n3_;have HB := n4_;have HR316_0 := n5_;have HR318_0 := n6_;clear n0_ n1_ n2_ n3_ n4_ n5_ n6_)));have hnbq1 := NB307_308.out;have hncq1 := NB308_307.out;have hnbq2 := NB307_315.out;have hncq2 := NB315_307.out;obtain ⟨hczq3_0,hczq3_1,hczq3_2,hczq3_3,hfzq3_0,hfzq3_1,hfzq3_2,hfzq3_3⟩ := cells4 BK307.out;have hnbq4 := NB308_315.out;have hncq4 := NB315_308.out;obtain ⟨hczq5_0,hczq5_1,hczq5_2,hfzq5_0,hfzq5_1,hfzq5_2⟩ := cells3 BK308.out))
     refine bodyPost_ret (results_cc rfl _ _ gb307 gb308 26 28 #[.slice none 0 0,.string (⟨#[]⟩ : ByteArray),.slice none 0 0,.slice none 0 0] #[.int .i64 5,.int .i64 0,.int .i64 x45_1] (0,0) (0,0) _ _ rfl Z40 Tryd.underlying26 rfl Z253 rfl (by refine bP ?_;refine blk_put (cs := #[.int .i64 5,.int .i64 0,.int .i64 x309002_1]) ?_ 2 _ rfl;refine bP ?_;refine blk_put (cs := #[.int .i64 5,.int .i64 x309001_1,.int .i64 x309002_1]) ?_ 1 _ rfl;refine bP ?_;refine blk_put (cs := #[.int .i64 x309000_1,.int .i64 x309001_1,.int .i64 x309002_1]) ?_ 0 _ rfl;refine bP ?_;refine blk_far ?_ NB308_307.out _;refine bP ?_;refine blk_far ?_ NB308_307.out _;refine bP ?_;refine blk_far ?_ NB308_307.out _;refine bP ?_;refine blk_far ?_ NB308_307.out _;refine bP ?_;exact BK308.out) Tryd.underlying28 rfl Z253) rfl ?_
     exact ⟨_,_,_,Z218,Z169,Z170,Z169,Z268⟩
    subst c49
    rw [if_pos rfl] at H
    have c50b0 := eq_true (of_decide_eq_true Z330 : 0 ≤ x45_1)
    obtain ⟨c51,H⟩ := ifp H
    have c51b0 := eq_true c51
    have c51b1 : decide (x45_1 ≤ ((rd_L2 t309 0).length : Int)) = true := decide_eq_true c51
    clear c51
    obtain ⟨t322,A520,H⟩ := Option.bind_eq_some_iff.mp H
    have A52 := Aside0.mk A520
    clear A520
    by_cases c53 : t322 = true
    rotate_left
    ·replace c53 := Bool.eq_false_iff.mpr c53
     subst c53
     rw [if_neg Bool.false_ne_true] at H
     have H' := Aside0.mk H
     clear H
     have p319 : 0 ≤ (x45_1 : Int) := of_decide_eq_true Z330
     have q319 : x45_1 < ((rd_L2 t309 0).length : Int) := of_decide_eq_true Z330
     obtain ⟨ad319,e319,hx319_0⟩ := Kd.at_string HR318_0.out x45_1 p319 q319
     cases e319
     try replace hx319_0 := (HB.out.cell (World.block_lt_of_cell? w _ hx319_0)).trans hx319_0
     replace p319 := eq_true p319
     replace q319 := eq_true q319
     go_wp2_with (first | ((with_reducible refine gate_callee (f := 16) rfl ?_);refine goesL_ (some 51) rfl rfl Tryd.func16 Z253 rfl #[.string (rdOf ByteArray.empty (rd_L2 t309 0) x45_1)] rfl Z173 ?_;(with_reducible refine (impl_NameOk.calls k1 (rdOf ByteArray.empty (rd_L2 t309 0) x45_1) true _ A48.out).mono ?_);rintro e w' ⟨rfl,⟨nd,rfl⟩⟩;refine ⟨_,rfl,?_⟩;obtain ⟨i060,hi060,_,hsz60,_⟩ := info_parts info9;obtain ⟨hcut60,hA60,hC60⟩ := print_take_of (P := Tryd.prog) Value.string (⟨#[]⟩ : ByteArray) 22 9 .i64 Tryd.underlying22 hi060 hsz60 (some ad319) c316_0 (rd_L2 t309 0) x45_1 (of_decide_eq_true Z330) (of_decide_eq_true Z330) HC318_0.out;have HR321 := Aside0.mk (Kd.C_of_reads (h1 := fun _ => rfl) (hA60 _ (Kd.reads_of_C HR318_0.out)));have HC321 := Aside0.mk hC60;clear hA60 hC60 hi060 hsz60) | ((with_reducible refine gate_callee (f := 17) rfl ?_);refine goesL_ (some 60) rfl rfl Tryd.func17 Z253 rfl #[.slice (some ad319) ((rd_L2 t309 0).take (x45_1 : Int).toNat).length c316_0,.string (rdOf ByteArray.empty (rd_L2 t309 0) x45_1)] rfl Z59 ?_;(with_reducible refine (slices_Contains_string_string.calls k1 _ _ ((rd_L2 t309 0).take (x45_1 : Int).toNat) (rdOf ByteArray.empty (rd_L2 t309 0) x45_1) false _ ?side1 ?side2 A52.out).mono ?_);(case side1 => exact Z154);(case side2 => exact HC321.out);rintro e w' ⟨rfl,⟨nd,rfl⟩⟩;refine ⟨_,rfl,?_⟩))
     go_roundg k1
     case measure => have := HK1.out;omega
     case rel => exact ⟨(wrap64 (x45_1 + 1)),(x308001_1),(x309000_1),(x309001_1),(x309002_1),Z238,H',⟨Z248⟩,⟨Z324⟩,⟨Z352⟩,⟨Z331⟩,⟨Z332⟩,⟨Z313⟩,⟨Z282⟩,⟨Z268⟩⟩
    subst c53
    rw [if_pos rfl] at H
    simp only [Option.some.injEq,Prod.mk.injEq] at H
    obtain ⟨rfl,rfl,rfl,rfl,rfl,rfl,rfl⟩ := H
    have p319 : 0 ≤ (x45_1 : Int) := of_decide_eq_true Z330
    have q319 : x45_1 < ((rd_L2 t309 0).length : Int) := of_decide_eq_true Z330
    obtain ⟨ad319,e319,hx319_0⟩ := Kd.at_string HR318_0.out x45_1 p319 q319
    cases e319
    try replace hx319_0 := (HB.out.cell (World.block_lt_of_cell? w _ hx319_0)).trans hx319_0
    replace p319 := eq_true p319
    replace q319 := eq_true q319
    go_wp2_with (first | ((with_reducible refine gate_callee (f := 16) rfl ?_);refine goesL_ (some 51) rfl rfl Tryd.func16 Z253 rfl #[.string (rdOf ByteArray.empty (rd_L2 t309 0) x45_1)] rfl Z173 ?_;(with_reducible refine (impl_NameOk.calls k1 (rdOf ByteArray.empty (rd_L2 t309 0) x45_1) true _ A48.out).mono ?_);rintro e w' ⟨rfl,⟨nd,rfl⟩⟩;refine ⟨_,rfl,?_⟩;(iterate 4 (try (rw [drewN_self wr];generalize hq_ : World.drewN wr _ = wr;have n0_ : Aside0 (Kd.N (Kd.slice 9 Kd.string) 22 wr w.heap.size (fun k_ => (w.heap.size ≤ k_) ∧ k_ ≠ gb307 ∧ k_ ≠ gb308 ∧ k_ ≠ gb315) (.slice (some ad316) t309.length co44) t309) := ⟨Z180⟩;have n1_ : Aside0 (wr.heap[gb307]? = some (.cells #[.slice none 0 0,.string x308001_1,.slice none 0 0,.slice none 0 0] 26 (0,0))) := ⟨Z234⟩;have n2_ : Aside0 (wr.heap[gb308]? = some (.cells #[.int .i64 x309000_1,.int .i64 x309001_1,.int .i64 x309002_1] 28 (0,0))) := ⟨Z233⟩;have n3_ : Aside0 (wr.heap[gb315]? = some (.cells #[.int .i64 t312,.int .i64 t313,.int .i64 t314] 28 (0,0))) := ⟨Z232⟩;have n4_ : Aside0 (Below w.heap.size w wr) := ⟨Z104⟩;have n5_ : Aside0 (Kd.V Kd.string 9 wr w.heap.size (fun k_ => (w.heap.size ≤ k_) ∧ k_ ≠ gb307 ∧ k_ ≠ gb308 ∧ k_ ≠ gb315) (.slice (some ad319) (rd_L2 t309 0).length c316_0) (rd_L2 t309 0)) := ⟨Z178⟩;have n6_ : Aside0 (Kd.C Kd.string wr (some ad319) (rd_L2 t309 0).length (rd_L2 t309 0)) := ⟨Z116⟩;clear HO_4 BK307 BK308 BK315 HB HR316_0 HR318_0 hq_;have HO_4 := n0_;have BK307 := n1_;have BK308 := n2_;have BK315 := n3_;have HB := n4_;have HR316_0 := n5_;have HR318_0 := n6_;clear n0_ n1_ n2_ n3_ n4_ n5_ n6_)));obtain ⟨iq1,hiq1,_,hszq2,_⟩ := info_parts info9;obtain ⟨hcutq2,hAq2,hCq2⟩ := print_take_of (P := Tryd.prog) Value.string (⟨#[]⟩ : ByteArray) 22 9 .i64 Tryd.underlying22 hiq1 hszq2 (some ad319) c316_0 (rd_L2 t309 0) x45_1 (of_decide_eq_true Z330) (of_decide_eq_true Z330) HC318_0.out;have HR321 := Aside0.mk (Kd.C_of_reads (h1 := fun _ => rfl) (hAq2 _ (Kd.reads_of_C HR318_0.out)));have HC321 := Aside0.mk hCq2;clear hAq2 hCq2 hiq1 hszq2) | ((with_reducible refine gate_callee (f := 17) rfl ?_);refine goesL_ (some 60) rfl rfl Tryd.func17 Z253 rfl #[.slice (some ad319) ((rd_L2 t309 0).take (x45_1 : Int).toNat).length c316_0,.string (rdOf ByteArray.empty (rd_L2 t309 0) x45_1)] rfl Z59 ?_;(with_reducible refine (slices_Contains_string_string.calls k1 _ _ ((rd_L2 t309 0).take (x45_1 : Int).toNat) (rdOf ByteArray.empty (rd_L2 t309 0) x45_1) true _ ?side1 ?side2 A52.out).mono ?_);(case side1 => exact Z154);(case side2 => exact HC321.out);rintro e w' ⟨rfl,⟨nd,rfl⟩⟩;refine ⟨_,rfl,?_⟩;(iterate 4 (try (rw [drewN_self wr];generalize hq_ : World.drewN wr _ = wr;have n0_ : Aside0 (Kd.N (Kd.slice 9 Kd.string) 22 wr w.heap.size (fun k_ => (w.heap.size ≤ k_) ∧ k_ ≠ gb307 ∧ k_ ≠ gb308 ∧ k_ ≠ gb315) (.slice (some ad316) t309.length co44) t309) := ⟨Z180⟩;have n1_ : Aside0 (wr.heap[gb307]? = some (.cells #[.slice none 0 0,.string x308001_1,.slice none 0 0,.slice none 0 0] 26 (0,0))) := ⟨Z234⟩;have n2_ : Aside0 (wr.heap[gb308]? = some (.cells #[.int .i64 x309000_1,.int .i64 x309001_1,.int .i64 x309002_1] 28 (0,0))) := ⟨Z233⟩;have n3_ : Aside0 (wr.heap[gb315]? = some (.cells #[.int .i64 t312,.int .i64 t313,.int .i64 t314] 28 (0,0))) := ⟨Z232⟩;have n4_ : Aside0 (Below w.heap.size w wr) := ⟨Z104⟩;have n5_ : Aside0 (Kd.V Kd.string 9 wr w.heap.size (fun k_ => (w.heap.size ≤ k_) ∧ k_ ≠ gb307 ∧ k_ ≠ gb308 ∧ k_ ≠ gb315) (.slice (some ad319) (rd_L2 t309 0).length c316_0) (rd_L2 t309 0)) := ⟨Z178⟩;have n6_ : Aside0 (Kd.C Kd.string wr (some ad319) (rd_L2 t309 0).length (rd_L2 t309 0)) := ⟨Z116⟩;clear HO_4 BK307 BK308 BK315 HB HR316_0 HR318_0 hq_;have HO_4 := n0_;have BK307 := n1_;have BK308 := n2_;have BK315 := n3_;have HB := n4_;have HR316_0 := n5_;have HR318_0 := n6_;clear n0_ n1_ n2_ n3_ n4_ n5_ n6_)));have hnbq3 := NB307_308.out;have hncq3 := NB308_307.out;have hnbq4 := NB307_315.out;have hncq4 := NB315_307.out;obtain ⟨hczq5_0,hczq5_1,hczq5_2,hczq5_3,hfzq5_0,hfzq5_1,hfzq5_2,hfzq5_3⟩ := cells4 BK307.out;have hnbq6 := NB308_315.out;have hncq6 := NB315_308.out;obtain ⟨hczq7_0,hczq7_1,hczq7_2,hfzq7_0,hfzq7_1,hfzq7_2⟩ := cells3 BK308.out))
    refine bodyPost_ret (results_cc rfl _ _ gb307 gb308 26 28 #[.slice none 0 0,.string (⟨#[]⟩ : ByteArray),.slice none 0 0,.slice none 0 0] #[.int .i64 6,.int .i64 0,.int .i64 x45_1] (0,0) (0,0) _ _ rfl Z40 Tryd.underlying26 rfl Z253 rfl (by refine bP ?_;refine blk_put (cs := #[.int .i64 6,.int .i64 0,.int .i64 x309002_1]) ?_ 2 _ rfl;refine bP ?_;refine blk_put (cs := #[.int .i64 6,.int .i64 x309001_1,.int .i64 x309002_1]) ?_ 1 _ rfl;refine bP ?_;refine blk_put (cs := #[.int .i64 x309000_1,.int .i64 x309001_1,.int .i64 x309002_1]) ?_ 0 _ rfl;refine bP ?_;refine blk_far ?_ NB308_307.out _;refine bP ?_;refine blk_far ?_ NB308_307.out _;refine bP ?_;refine blk_far ?_ NB308_307.out _;refine bP ?_;refine blk_far ?_ NB308_307.out _;refine bP ?_;exact BK308.out) Tryd.underlying28 rfl Z253) rfl ?_
    exact ⟨_,_,_,Z218,Z169,Z170,Z169,Z268⟩
   rw [if_neg c45] at H
   have c45b0 : decide (x45_1 < ((rd_L2 t309 0).length : Int)) = false := decide_eq_false c45
   clear c45
   obtain ⟨t323,A660,H⟩ := Option.bind_eq_some_iff.mp H
   have A66 := Aside0.mk A660
   clear A660
   by_cases c67 : t323 = true
   rotate_left
   ·replace c67 := Bool.eq_false_iff.mpr c67
    subst c67
    rw [if_neg Bool.false_ne_true] at H
    simp only [Option.some.injEq,Prod.mk.injEq] at H
    obtain ⟨rfl,rfl,rfl,rfl,rfl,rfl,rfl⟩ := H
    go_wp2_with (first | ((with_reducible refine gate_callee (f := 15) rfl ?_);refine goesL_ (some 68) rfl rfl Tryd.func15 Z253 rfl #[.int .i64 (wrap64 ((t309.length : Int) - 1)),.int .i64 1,.int .i64 40] rfl Z173 ?_;(with_reducible refine (impl_within.calls (wrap64 ((t309.length : Int) - 1)) 1 40 false _ A66.out).mono ?_);rintro e w' ⟨rfl,⟨nd,rfl⟩⟩;refine ⟨_,rfl,?_⟩;(iterate 4 (try (rw [drewN_self wr];generalize hq_ : World.drewN wr _ = wr;have n0_ : Aside0 (Kd.N (Kd.slice 9 Kd.string) 22 wr w.heap.size (fun k_ => (w.heap.size ≤ k_) ∧ k_ ≠ gb307 ∧ k_ ≠ gb308 ∧ k_ ≠ gb315) (.slice (some ad316) t309.length co44) t309) := ⟨Z180⟩;have n1_ : Aside0 (wr.heap[gb307]? = some (.cells #[.slice none 0 0,.string x308001_1,.slice none 0 0,.slice none 0 0] 26 (0,0))) := ⟨Z234⟩;have n2_ : Aside0 (wr.heap[gb308]? = some (.cells #[.int .i64 x309000_1,.int .i64 x309001_1,.int .i64 x309002_1] 28 (0,0))) := ⟨Z233⟩;have n3_ : Aside0 (wr.heap[gb315]? = some (.cells #[.int .i64 t312,.int .i64 t313,.int .i64 t314] 28 (0,0))) := ⟨Z232⟩;have n4_ : Aside0 (Below w.heap.size w wr) := ⟨Z104⟩;have n5_ : Aside0 (Kd.V Kd.string 9 wr w.heap.size (fun k_ => (w.heap.size ≤ k_) ∧ k_ ≠ gb307 ∧ k_ ≠ gb308 ∧ k_ ≠ gb315) (.slice A316_0 (rd_L2 t309 0).length c316_0) (rd_L2 t309 0)) := ⟨Z178⟩;have n6_ : Aside0 (Kd.C Kd.string wr A316_0 (rd_L2 t309 0).length (rd_L2 t309 0)) := ⟨Z116⟩;clear HO_4 BK307 BK308 BK315 HB HR316_0 HR318_0 hq_;have HO_4 := n0_;have BK307 := n1_;have BK308 := n2_;have BK315 := n3_;have HB := n4_;have HR316_0 := n5_;have HR318_0 := n6_;clear n0_ n1_ n2_ n3_ n4_ n5_ n6_)));have hnbq1 := NB307_308.out;have hncq1 := NB308_307.out;have hnbq2 := NB307_315.out;have hncq2 := NB315_307.out;obtain ⟨hczq3_0,hczq3_1,hczq3_2,hczq3_3,hfzq3_0,hfzq3_1,hfzq3_2,hfzq3_3⟩ := cells4 BK307.out;have hnbq4 := NB308_315.out;have hncq4 := NB315_308.out;obtain ⟨hczq5_0,hczq5_1,hczq5_2,hfzq5_0,hfzq5_1,hfzq5_2⟩ := cells3 BK308.out))
    refine bodyPost_ret (results_cc rfl _ _ gb307 gb308 26 28 #[.slice none 0 0,.string (⟨#[]⟩ : ByteArray),.slice none 0 0,.slice none 0 0] #[.int .i64 8,.int .i64 0,.int .i64 0] (0,0) (0,0) _ _ rfl Z40 Tryd.underlying26 rfl Z253 rfl (by refine bP ?_;refine blk_put (cs := #[.int .i64 8,.int .i64 0,.int .i64 x309002_1]) ?_ 2 _ rfl;refine bP ?_;refine blk_put (cs := #[.int .i64 8,.int .i64 x309001_1,.int .i64 x309002_1]) ?_ 1 _ rfl;refine bP ?_;refine blk_put (cs := #[.int .i64 x309000_1,.int .i64 x309001_1,.int .i64 x309002_1]) ?_ 0 _ rfl;refine bP ?_;refine blk_far ?_ NB308_307.out _;refine bP ?_;refine blk_far ?_ NB308_307.out _;refine bP ?_;refine blk_far ?_ NB308_307.out _;refine bP ?_;refine blk_far ?_ NB308_307.out _;refine bP ?_;exact BK308.out) Tryd.underlying28 rfl Z253) rfl ?_
    exact ⟨_,_,_,Z218,Z169,Z170,Z169,Z268⟩
   subst c67
   rw [if_pos rfl] at H
   obtain ⟨⟨t324,t327,t328,t329⟩,A680,H⟩ := Option.bind_eq_some_iff.mp H
   try dsimp only at H
   have A68 := Aside0.mk A680
   clear A680
   by_cases c69 : (!(t327 == 0) || (!(t328 == 0) || (!(t329 == 0)))) = true
   ·rw [if_pos c69] at H
    have c69b0 : (!(t327 == 0) || (!(t328 == 0) || (!(t329 == 0)))) = true := c69
    clear c69
    simp only [Option.some.injEq,Prod.mk.injEq] at H
    obtain ⟨rfl,rfl,rfl,rfl,rfl,rfl,rfl⟩ := H
    try go_wp2_with (first | ((with_reducible refine gate_callee (f := 15) rfl ?_);refine goesL_ (some 68) rfl rfl Tryd.func15 Z253 rfl #[.int .i64 (wrap64 ((t309.length : Int) - 1)),.int .i64 1,.int .i64 40] rfl Z173 ?_;(with_reducible refine (impl_within.calls (wrap64 ((t309.length : Int) - 1)) 1 40 true _ A66.out).mono ?_);rintro e w' ⟨rfl,⟨nd,rfl⟩⟩;refine ⟨_,rfl,?_⟩;(iterate 4 (try (rw [drewN_self wr];generalize hq_ : World.drewN wr _ = wr;have n0_ : Aside0 (Kd.N (Kd.slice 9 Kd.string) 22 wr w.heap.size (fun k_ => (w.heap.size ≤ k_) ∧ k_ ≠ gb307 ∧ k_ ≠ gb308 ∧ k_ ≠ gb315) (.slice (some ad316) t309.length co44) t309) := ⟨Z180⟩;have n1_ : Aside0 (wr.heap[gb307]? = some (.cells #[.slice none 0 0,.string x308001_1,.slice none 0 0,.slice none 0 0] 26 (0,0))) := ⟨Z234⟩;have n2_ : Aside0 (wr.heap[gb308]? = some (.cells #[.int .i64 x309000_1,.int .i64 x309001_1,.int .i64 x309002_1] 28 (0,0))) := ⟨Z233⟩;have n3_ : Aside0 (wr.heap[gb315]? = some (.cells #[.int .i64 t312,.int .i64 t313,.int .i64 t314] 28 (0,0))) := ⟨Z232⟩;have n4_ : Aside0 (Below w.heap.size w wr) := ⟨Z104⟩;have n5_ : Aside0 (Kd.V Kd.string 9 wr w.heap.size (fun k_ => (w.heap.size ≤ k_) ∧ k_ ≠ gb307 ∧ k_ ≠ gb308 ∧ k_ ≠ gb315) (.slice A316_0 (rd_L2 t309 0).length c316_0) (rd_L2 t309 0)) := ⟨Z178⟩;have n6_ : Aside0 (Kd.C Kd.string wr A316_0 (rd_L2 t309 0).length (rd_L2 t309 0)) := ⟨Z116⟩;clear HO_4 BK307 BK308 BK315 HB HR316_0 HR318_0 hq_;have HO_4 := n0_;have BK307 := n1_;have BK308 := n2_;have BK315 := n3_;have HB := n4_;have HR316_0 := n5_;have HR318_0 := n6_;clear n0_ n1_ n2_ n3_ n4_ n5_ n6_)))) | ((with_reducible refine gate_callee (f := 18) rfl ?_);refine goesL_ (some 76) rfl rfl Tryd.func18 Z253 rfl #[.slice (some ad316) t309.length co44,.int .i64 ((rd_L2 t309 0).length : Int)] rfl Z173 ?_;(with_reducible refine (impl_readRows.calls k1 _ _ t309 ((rd_L2 t309 0).length : Int) t324 t327 t328 t329 _ ?side1 ?side2 ?side3 A68.out).mono ?_);(case side1 => exact Z141);(case side2 => exact (Kd.N_reads' HO_4.out).2.1);(case side3 => exact Z103);rintro e w70 ⟨v325,rfl,ho0,hb⟩;refine ⟨_,rfl,?_⟩;have n_ := Z1;clear HO_4 BK307 BK308 BK315 HR316_0 HR318_0 HB;obtain ⟨HO_4,HO326,BK307,BK308,BK315,HR316_0,HR318_0,HB⟩ := n_;(try clear hb);(try clear hb2);(try clear hk);(try clear hi);(try clear ho0);have hnb71 := NB315_307.out;have hnc71 := NB307_315.out;have hnb72 := NB315_308.out;have hnc72 := NB308_315.out;obtain ⟨hcz73_0,hcz73_1,hcz73_2,hfz73_0,hfz73_1,hfz73_2⟩ := cells3 BK315.out))
    have n0_ : Aside0 (Kd.N (Kd.slice 9 Kd.string) 22 (((w70.setCell ⟨gb315,0,none⟩ (.int .i64 t327)).setCell ⟨gb315,1,none⟩ (.int .i64 t328)).setCell ⟨gb315,2,none⟩ (.int .i64 t329)) w.heap.size (fun k_ => (w.heap.size ≤ k_) ∧ some k_ ≠ (v325 : Value).ownBlock ∧ k_ ≠ gb307 ∧ k_ ≠ gb308 ∧ k_ ≠ gb315) (.slice (some ad316) t309.length co44) t309) := ⟨Z52⟩
    have n1_ : Aside0 (Kd.N (Kd.slice 3 (Kd.int .i64)) 24 (((w70.setCell ⟨gb315,0,none⟩ (.int .i64 t327)).setCell ⟨gb315,1,none⟩ (.int .i64 t328)).setCell ⟨gb315,2,none⟩ (.int .i64 t329)) w.heap.size (fun k_ => (w.heap.size ≤ k_) ∧ some k_ ≠ (.slice (some ad316) t309.length co44 : Value).ownBlock ∧ k_ ≠ gb307 ∧ k_ ≠ gb308 ∧ k_ ≠ gb315) v325 t324) := ⟨Z51⟩
    have n2_ : Aside0 ((((w70.setCell ⟨gb315,0,none⟩ (.int .i64 t327)).setCell ⟨gb315,1,none⟩ (.int .i64 t328)).setCell ⟨gb315,2,none⟩ (.int .i64 t329)).heap[gb307]? = some (.cells #[.slice none 0 0,.string x308001_1,.slice none 0 0,.slice none 0 0] 26 (0,0))) := ⟨Z291⟩
    have n3_ : Aside0 ((((w70.setCell ⟨gb315,0,none⟩ (.int .i64 t327)).setCell ⟨gb315,1,none⟩ (.int .i64 t328)).setCell ⟨gb315,2,none⟩ (.int .i64 t329)).heap[gb308]? = some (.cells #[.int .i64 x309000_1,.int .i64 x309001_1,.int .i64 x309002_1] 28 (0,0))) := ⟨Z290⟩
    have n4_ : Aside0 ((((w70.setCell ⟨gb315,0,none⟩ (.int .i64 t327)).setCell ⟨gb315,1,none⟩ (.int .i64 t328)).setCell ⟨gb315,2,none⟩ (.int .i64 t329)).heap[gb315]? = some (.cells #[.int .i64 t327,.int .i64 t328,.int .i64 t329] 28 (0,0))) := ⟨Z83⟩
    have n5_ : Aside0 (Below w.heap.size w (((w70.setCell ⟨gb315,0,none⟩ (.int .i64 t327)).setCell ⟨gb315,1,none⟩ (.int .i64 t328)).setCell ⟨gb315,2,none⟩ (.int .i64 t329))) := ⟨Z268⟩
    (try clear HO_4)
    (try clear HO326)
    (try clear BK307)
    (try clear BK308)
    (try clear BK315)
    (try clear HB)
    generalize (((w70.setCell ⟨gb315,0,none⟩ (.int .i64 t327)).setCell ⟨gb315,1,none⟩ (.int .i64 t328)).setCell ⟨gb315,2,none⟩ (.int .i64 t329)) = w74 at n0_ n1_ n2_ n3_ n4_ n5_ ⊢
    have HO_4 := n0_
    have HO326 := n1_
    have BK307 := n2_
    have BK308 := n3_
    have BK315 := n4_
    have HB := n5_
    clear n0_ n1_ n2_ n3_ n4_ n5_
    have n_ := jA (Kd.N_drew HO_4.out) (jA (Kd.N_drew HO326.out) (jA (blk_drew BK307.out) (jA (blk_drew BK308.out) (jA (blk_drew BK315.out) (Aside0.mk (below_drew1 HB.out))))))
    clear HO_4 HO326 BK307 BK308 BK315 HB
    obtain ⟨HO_4,HO326,BK307,BK308,BK315,HB⟩ := n_
    refine start_ (n := 4) (S := fun w' => w'.cell? ⟨gb315,0,none⟩ = some (.int .i64 t327) ∧ w'.cell? ⟨gb315,1,none⟩ = some (.int .i64 t328) ∧ w'.cell? ⟨gb315,2,none⟩ = some (.int .i64 t329)) (ds := []) (qM 4 0) Z253 rfl (by kernel_rfl) ⟨bc BK315 0,bc BK315 1,bc BK315 2⟩ (fun hHeld => ?_)
    generalize w74.drew = w75 at HO_4 HO326 BK307 BK308 BK315 HB hHeld ⊢
    refine sP 0 82 4 1 (h := ?_)
    refine sT3 1 83 4 3 hHeld (h := ?_)
    refine one_ (i := 2) (N := none) #[true,true,true,false] rfl rfl Z253 Z355 (fun K hK => ?_)
    have hs76 : w75.cell? ⟨gb307,0,none⟩ = some (.slice none 0 0) := bc BK307 0
    have hfs76 := blk_frozen BK307.out 0
    have hns76_1 := NB308_307.out
    have hns76_2 := NB315_307.out
    have hms76_1 := NB307_308.out
    have hms76_2 := NB307_315.out
    have hs77 : w75.cell? ⟨gb307,1,none⟩ = some (.string x308001_1) := bc BK307 1
    have hfs77 := blk_frozen BK307.out 1
    have hns77_1 := NB308_307.out
    have hns77_2 := NB315_307.out
    have hms77_1 := NB307_308.out
    have hms77_2 := NB307_315.out
    have hs78 : w75.cell? ⟨gb307,2,none⟩ = some (.slice none 0 0) := bc BK307 2
    have hfs78 := blk_frozen BK307.out 2
    have hns78_1 := NB308_307.out
    have hns78_2 := NB315_307.out
    have hms78_1 := NB307_308.out
    have hms78_2 := NB307_315.out
    have hs79 : w75.cell? ⟨gb307,3,none⟩ = some (.slice none 0 0) := bc BK307 3
    have hfs79 := blk_frozen BK307.out 3
    have hns79_1 := NB308_307.out
    have hns79_2 := NB315_307.out
    have hms79_1 := NB307_308.out
    have hms79_2 := NB307_315.out
    refine skip_ (w1 := ?_) Z255 rfl ?_ ?_
    rotate_left
    ·go_simp
     rfl
    refine hK.out _ _ ⟨((cell_far (p := ⟨gb307,_,none⟩) NB315_307.out _).trans (((cell_far (p := ⟨gb307,_,none⟩) NB315_307.out _).trans (((cell_far (p := ⟨gb307,_,none⟩) NB315_307.out _).trans (((cell_far (p := ⟨gb307,_,none⟩) NB315_307.out _).trans (hHeld.1)))))))),((cell_far (p := ⟨gb307,_,none⟩) NB315_307.out _).trans (((cell_far (p := ⟨gb307,_,none⟩) NB315_307.out _).trans (((cell_far (p := ⟨gb307,_,none⟩) NB315_307.out _).trans (((cell_far (p := ⟨gb307,_,none⟩) NB315_307.out _).trans (hHeld.2.1)))))))),((cell_far (p := ⟨gb307,_,none⟩) NB315_307.out _).trans (((cell_far (p := ⟨gb307,_,none⟩) NB315_307.out _).trans (((cell_far (p := ⟨gb307,_,none⟩) NB315_307.out _).trans (((cell_far (p := ⟨gb307,_,none⟩) NB315_307.out _).trans (hHeld.2.2))))))))⟩ (fun hHeld => ?_)
    clear hK K
    refine one_ (i := 3) (N := none) #[true,true,true,true] rfl rfl Z253 Z355 (fun K hK => ?_)
    have hs80 : w75.cell? ⟨gb308,0,none⟩ = some (.int .i64 x309000_1) := bc BK308 0
    have hfs80 := blk_frozen BK308.out 0
    have hns80_0 := NB307_308.out
    have hns80_2 := NB315_308.out
    have hms80_0 := NB308_307.out
    have hms80_2 := NB308_315.out
    have hs81 : w75.cell? ⟨gb308,1,none⟩ = some (.int .i64 x309001_1) := bc BK308 1
    have hfs81 := blk_frozen BK308.out 1
    have hns81_0 := NB307_308.out
    have hns81_2 := NB315_308.out
    have hms81_0 := NB308_307.out
    have hms81_2 := NB308_315.out
    have hs82 : w75.cell? ⟨gb308,2,none⟩ = some (.int .i64 x309002_1) := bc BK308 2
    have hfs82 := blk_frozen BK308.out 2
    have hns82_0 := NB307_308.out
    have hns82_2 := NB315_308.out
    have hms82_0 := NB308_307.out
    have hms82_2 := NB308_315.out
    refine skip_ (w1 := ?_) Z255 rfl ?_ ?_
    rotate_left
    ·go_simp
     rfl
    refine hK.out _ _ ⟨((cell_far (p := ⟨gb308,_,none⟩) NB315_308.out _).trans (((cell_far (p := ⟨gb308,_,none⟩) NB315_308.out _).trans (((cell_far (p := ⟨gb308,_,none⟩) NB315_308.out _).trans (hHeld.1)))))),((cell_far (p := ⟨gb308,_,none⟩) NB315_308.out _).trans (((cell_far (p := ⟨gb308,_,none⟩) NB315_308.out _).trans (((cell_far (p := ⟨gb308,_,none⟩) NB315_308.out _).trans (hHeld.2.1)))))),((cell_far (p := ⟨gb308,_,none⟩) NB315_308.out _).trans (((cell_far (p := ⟨gb308,_,none⟩) NB315_308.out _).trans (((cell_far (p := ⟨gb308,_,none⟩) NB315_308.out _).trans (hHeld.2.2))))))⟩ (fun hHeld => ?_)
    clear hK K
    refine done_ Z253 ?_
    try go_wp2
    refine bodyPost_ret (results_cc rfl _ _ gb307 gb308 26 28 #[.slice none 0 0,.string (⟨#[]⟩ : ByteArray),.slice none 0 0,.slice none 0 0] #[.int .i64 t327,.int .i64 t328,.int .i64 t329] (0,0) (0,0) _ _ rfl Z40 Tryd.underlying26 rfl Z253 rfl (by refine bP ?_;refine blk_put (cs := #[.int .i64 t327,.int .i64 t328,.int .i64 x309002_1]) ?_ 2 _ rfl;refine bP ?_;refine blk_put (cs := #[.int .i64 t327,.int .i64 x309001_1,.int .i64 x309002_1]) ?_ 1 _ rfl;refine bP ?_;refine blk_put (cs := #[.int .i64 x309000_1,.int .i64 x309001_1,.int .i64 x309002_1]) ?_ 0 _ rfl;refine bP ?_;refine blk_far ?_ NB308_307.out _;refine bP ?_;refine blk_far ?_ NB308_307.out _;refine bP ?_;refine blk_far ?_ NB308_307.out _;refine bP ?_;refine blk_far ?_ NB308_307.out _;refine bP ?_;exact BK308.out) Tryd.underlying28 rfl Z253) rfl ?_
    exact ⟨_,_,_,Z218,Z169,Z170,Z169,Z268⟩
   rw [if_neg c69] at H
   have c69b0 : (!(t327 == 0) || (!(t328 == 0) || (!(t329 == 0)))) = false := by simpa using c69
   clear c69
   obtain ⟨ji83,hji83⟩ : ∃ j_ : Int,(wrap64 (((rd_L2 t309 0).length : Int) - 1)) = j_ := ⟨_,rfl⟩
   replace H : (if 0 ≤ (ji83) then (if (ji83) ≤ ((rd_L2 t309 0).length : Int) then ((slices_Clone_string_string.f ((rd_L2 t309 0).take ((ji83) : Int).toNat)).bind fun t331 => (if (ji83) < ((rd_L2 t309 0).length : Int) then (impl_ReadTable.l1 k1 ji83 t324 (t324.length : Int) 0 t331 (rdOf ByteArray.empty (rd_L2 t309 0) (ji83)) ([] : List (List Int)) ([] : List Int)) else (none))) else (none)) else (none)) = some (r1,r2,r3,r4,r5,r6,r7) := by first | (rw [hji83] at H;exact H) | (simp only [hji83] at H ⊢;exact H)
   (try rw [hji83] at A66)
   (try rw [hji83] at A68)
   have hji83w : (IntKind.i64.wrap (((rd_L2 t309 0).length : Int) - 1)) = ji83 := (i64_w _).trans hji83
   obtain ⟨c84,H⟩ := ifp H
   have c84b0 := eq_true c84
   have c84b1 : decide (0 ≤ (ji83)) = true := decide_eq_true c84
   clear c84
   obtain ⟨c85,H⟩ := ifp H
   have c85b0 := eq_true c85
   have c85b1 : decide ((ji83) ≤ ((rd_L2 t309 0).length : Int)) = true := decide_eq_true c85
   clear c85
   obtain ⟨t331,A860,H⟩ := Option.bind_eq_some_iff.mp H
   have A86 := Aside0.mk A860
   clear A860
   obtain ⟨c87,H⟩ := ifp H
   have c87b0 : decide ((ji83) < ((rd_L2 t309 0).length : Int)) = true := decide_eq_true c87
   clear c87
   have H' := Aside0.mk H
   clear H
   try go_wp2_with (first | ((with_reducible refine gate_callee (f := 15) rfl ?_);refine goesL_ (some 68) rfl rfl Tryd.func15 Z253 rfl #[.int .i64 (wrap64 ((t309.length : Int) - 1)),.int .i64 1,.int .i64 40] rfl Z173 ?_;(with_reducible refine (impl_within.calls (wrap64 ((t309.length : Int) - 1)) 1 40 true _ A66.out).mono ?_);rintro e w' ⟨rfl,⟨nd,rfl⟩⟩;refine ⟨_,rfl,?_⟩;(iterate 4 (try (rw [drewN_self wr];generalize hq_ : World.drewN wr _ = wr;have n0_ : Aside0 (Kd.N (Kd.slice 9 Kd.string) 22 wr w.heap.size (fun k_ => (w.heap.size ≤ k_) ∧ k_ ≠ gb307 ∧ k_ ≠ gb308 ∧ k_ ≠ gb315) (.slice (some ad316) t309.length co44) t309) := ⟨Z180⟩;have n1_ : Aside0 (wr.heap[gb307]? = some (.cells #[.slice none 0 0,.string x308001_1,.slice none 0 0,.slice none 0 0] 26 (0,0))) := ⟨Z234⟩;have n2_ : Aside0 (wr.heap[gb308]? = some (.cells #[.int .i64 x309000_1,.int .i64 x309001_1,.int .i64 x309002_1] 28 (0,0))) := ⟨Z233⟩;have n3_ : Aside0 (wr.heap[gb315]? = some (.cells #[.int .i64 t312,.int .i64 t313,.int .i64 t314] 28 (0,0))) := ⟨Z232⟩;have n4_ : Aside0 (Below w.heap.size w wr) := ⟨Z104⟩;have n5_ : Aside0 (Kd.V Kd.string 9 wr w.heap.size (fun k_ => (w.heap.size ≤ k_) ∧ k_ ≠ gb307 ∧ k_ ≠ gb308 ∧ k_ ≠ gb315) (.slice A316_0 (rd_L2 t309 0).length c316_0) (rd_L2 t309 0)) := ⟨Z178⟩;have n6_ : Aside0 (Kd.C Kd.string wr A316_0 (rd_L2 t309 0).length (rd_L2 t309 0)) := ⟨Z116⟩;clear HO_4 BK307 BK308 BK315 HB HR316_0 HR318_0 hq_;have HO_4 := n0_;have BK307 := n1_;have BK308 := n2_;have BK315 := n3_;have HB := n4_;have HR316_0 := n5_;have HR318_0 := n6_;clear n0_ n1_ n2_ n3_ n4_ n5_ n6_)))) | ((with_reducible refine gate_callee (f := 18) rfl ?_);refine goesL_ (some 76) rfl rfl Tryd.func18 Z253 rfl #[.slice (some ad316) t309.length co44,.int .i64 ((rd_L2 t309 0).length : Int)] rfl Z173 ?_;(with_reducible refine (impl_readRows.calls k1 _ _ t309 ((rd_L2 t309 0).length : Int) t324 t327 t328 t329 _ ?side1 ?side2 ?side3 A68.out).mono ?_);(case side1 => exact Z141);(case side2 => exact (Kd.N_reads' HO_4.out).2.1);(case side3 => exact Z103);rintro e w88 ⟨v325,rfl,ho0,hb⟩;refine ⟨_,rfl,?_⟩;have n_ := Z1;clear HO_4 BK307 BK308 BK315 HR316_0 HR318_0 HB;obtain ⟨HO_4,HO326,BK307,BK308,BK315,HR316_0,HR318_0,HB⟩ := n_;(try clear hb);(try clear hb2);(try clear hk);(try clear hi);(try clear ho0);have hnb89 := NB315_307.out;have hnc89 := NB307_315.out;have hnb90 := NB315_308.out;have hnc90 := NB308_315.out;obtain ⟨hcz91_0,hcz91_1,hcz91_2,hfz91_0,hfz91_1,hfz91_2⟩ := cells3 BK315.out))
   have n0_ : Aside0 (Kd.N (Kd.slice 9 Kd.string) 22 (((w88.setCell ⟨gb315,0,none⟩ (.int .i64 t327)).setCell ⟨gb315,1,none⟩ (.int .i64 t328)).setCell ⟨gb315,2,none⟩ (.int .i64 t329)) w.heap.size (fun k_ => (w.heap.size ≤ k_) ∧ some k_ ≠ (v325 : Value).ownBlock ∧ k_ ≠ gb307 ∧ k_ ≠ gb308 ∧ k_ ≠ gb315) (.slice (some ad316) t309.length co44) t309) := ⟨Z52⟩
   have n1_ : Aside0 (Kd.N (Kd.slice 3 (Kd.int .i64)) 24 (((w88.setCell ⟨gb315,0,none⟩ (.int .i64 t327)).setCell ⟨gb315,1,none⟩ (.int .i64 t328)).setCell ⟨gb315,2,none⟩ (.int .i64 t329)) w.heap.size (fun k_ => (w.heap.size ≤ k_) ∧ some k_ ≠ (.slice (some ad316) t309.length co44 : Value).ownBlock ∧ k_ ≠ gb307 ∧ k_ ≠ gb308 ∧ k_ ≠ gb315) v325 t324) := ⟨Z51⟩
   have n2_ : Aside0 ((((w88.setCell ⟨gb315,0,none⟩ (.int .i64 t327)).setCell ⟨gb315,1,none⟩ (.int .i64 t328)).setCell ⟨gb315,2,none⟩ (.int .i64 t329)).heap[gb307]? = some (.cells #[.slice none 0 0,.string x308001_1,.slice none 0 0,.slice none 0 0] 26 (0,0))) := ⟨Z291⟩
   have n3_ : Aside0 ((((w88.setCell ⟨gb315,0,none⟩ (.int .i64 t327)).setCell ⟨gb315,1,none⟩ (.int .i64 t328)).setCell ⟨gb315,2,none⟩ (.int .i64 t329)).heap[gb308]? = some (.cells #[.int .i64 x309000_1,.int .i64 x309001_1,.int .i64 x309002_1] 28 (0,0))) := ⟨Z290⟩
   have n4_ : Aside0 ((((w88.setCell ⟨gb315,0,none⟩ (.int .i64 t327)).setCell ⟨gb315,1,none⟩ (.int .i64 t328)).setCell ⟨gb315,2,none⟩ (.int .i64 t329)).heap[gb315]? = some (.cells #[.int .i64 t327,.int .i64 t328,.int .i64 t329] 28 (0,0))) := ⟨Z83⟩
   have n5_ : Aside0 (Below w.heap.size w (((w88.setCell ⟨gb315,0,none⟩ (.int .i64 t327)).setCell ⟨gb315,1,none⟩ (.int .i64 t328)).setCell ⟨gb315,2,none⟩ (.int .i64 t329))) := ⟨Z268⟩
   (try clear HO_4)
   (try clear HO326)
   (try clear BK307)
   (try clear BK308)
   (try clear BK315)
   (try clear HB)
   have n9_ : Aside0 (Kd.V Kd.string 9 (((w88.setCell ⟨gb315,0,none⟩ (.int .i64 t327)).setCell ⟨gb315,1,none⟩ (.int .i64 t328)).setCell ⟨gb315,2,none⟩ (.int .i64 t329)) w.heap.size (fun k_ => (w.heap.size ≤ k_) ∧ k_ ≠ gb307 ∧ k_ ≠ gb308 ∧ k_ ≠ gb315) (.slice A316_0 (rd_L2 t309 0).length c316_0) (rd_L2 t309 0)) := ⟨(Kd.V_far (p := ⟨gb315,2,none⟩) (Kd.V_far (p := ⟨gb315,1,none⟩) (Kd.V_far (p := ⟨gb315,0,none⟩) HR316_0.out (fun _ hk => hk.2.2.2) _) (fun _ hk => hk.2.2.2) _) (fun _ hk => hk.2.2.2) _)⟩
   clear HR316_0
   generalize (((w88.setCell ⟨gb315,0,none⟩ (.int .i64 t327)).setCell ⟨gb315,1,none⟩ (.int .i64 t328)).setCell ⟨gb315,2,none⟩ (.int .i64 t329)) = w92 at n0_ n1_ n2_ n3_ n4_ n5_ n9_ ⊢
   have HR316_0 := n9_
   clear n9_
   have HO_4 := n0_
   have HO326 := n1_
   have BK307 := n2_
   have BK308 := n3_
   have BK315 := n4_
   have HB := n5_
   clear n0_ n1_ n2_ n3_ n4_ n5_
   have n0_ := Aside0.mk (Kd.N_drew HO_4.out)
   have HR318_0 := Aside0.mk (Kd.V_reads' HR316_0.out).2.2
   have n9_ := Aside0.mk (Kd.V_drew HR316_0.out)
   clear HR316_0
   have HR316_0 := n9_
   clear n9_
   have n1_ := Aside0.mk (Kd.N_drew HO326.out)
   have n2_ := Aside0.mk (blk_drew BK307.out)
   have n3_ := Aside0.mk (blk_drew BK308.out)
   have n4_ := Aside0.mk (blk_drew BK315.out)
   have n5_ := Aside0.mk (below_drew1 HB.out)
   clear HO_4
   clear HO326
   clear BK307
   clear BK308
   clear BK315
   clear HB
   have HO_4 := n0_
   have HO326 := n1_
   have BK307 := n2_
   have BK308 := n3_
   have BK315 := n4_
   have HB := n5_
   clear n0_ n1_ n2_ n3_ n4_ n5_
   obtain ⟨i094,hi094,_,hsz94,_⟩ := info_parts info9
   obtain ⟨hcut94,hA94,hC94⟩ := print_take_of (P := Tryd.prog) Value.string (⟨#[]⟩ : ByteArray) 22 9 .i64 Tryd.underlying22 hi094 hsz94 A316_0 c316_0 (rd_L2 t309 0) (ji83) (of_decide_eq_true Z330) (of_decide_eq_true Z330) HC318_0.out
   have HR330 := Aside0.mk (Kd.C_of_reads (h1 := fun _ => rfl) (hA94 _ (Kd.reads_of_C HR318_0.out)))
   have HC330 := Aside0.mk hC94
   have HA94_ := Aside0.mk hA94
   clear hA94 hC94 hi094 hsz94
   have p334 : 0 ≤ ((ji83) : Int) := of_decide_eq_true Z330
   have q334 : (ji83) < ((rd_L2 t309 0).length : Int) := of_decide_eq_true Z330
   obtain ⟨ad334,e334,hx334_0⟩ := Kd.at_string HR318_0.out (ji83) p334 q334
   have hw334_0 := hx334_0
   cases e334
   try replace hx334_0 := (HB.out.cell (World.block_lt_of_cell? w _ hx334_0)).trans hx334_0
   replace p334 := eq_true p334
   replace q334 := eq_true q334
   refine start_ (n := 11) (S := fun w' => w'.cell? (ad334.add ((ji83)).toNat) = some (.string (rdOf ByteArray.empty (rd_L2 t309 0) (ji83)))) (ds := []) (qM 11 0) Z253 rfl (by kernel_rfl) (Z179) (fun hHeld => ?_);refine with_tabW impl_ReadTable.tab23 impl_ReadTable.bits23 (fun HT_ HW_ => ?_)
   generalize w92.drew = w93 at HO_4 HO326 BK307 BK308 BK315 HB HR316_0 hHeld ⊢
   refine rP 0 87 11 1 HT_ (h := ?_)
   refine rP 1 88 11 3 HT_ (h := ?_)
   refine rP 2 89 11 7 HT_ (h := ?_)
   refine rP 4 91 11 23 HT_ (h := ?_)
   refine rP 5 92 11 55 HT_ (h := ?_)
   refine rP 6 93 11 119 HT_ (h := ?_)
   refine take_ (i := 7) (N := some 94) (v := ?_) (a' := ?_) (qM 11 247) rfl rfl (take_ofW HT_.out HW_.out Z253) (fun _ _ _ h => h) (Or.inl ⟨Z255,?_⟩) hHeld ?_ ?_
   rotate_left
   ·intro w' s0
    go_simp
    with_reducible rfl
   rotate_left
   ·simp only [Act.put,List.setIfInBounds_toArray,List.set_cons_zero,List.set_cons_succ,i64_w,i32_w]
    rfl
   refine join_ (σ := Value × Nat) 1 (qM 11 1023) (fun s_ => [(90,s_.1),(11,.pointer (some ⟨s_.2,0,none⟩)),(95,.agg #[s_.1,.string (rdOf ByteArray.empty (rd_L2 t309 0) (ji83)),.slice none 0 0,.slice none 0 0])]) (fun s_ w' => (w'.cell? (ad334.add ((ji83)).toNat) = some (.string (rdOf ByteArray.empty (rd_L2 t309 0) (ji83)))) ∧ (Kd.N (Kd.slice 3 (Kd.int .i64)) 24 w' w.heap.size (fun k_ => (w.heap.size ≤ k_) ∧ some k_ ≠ (s_.1 : Value).ownBlock ∧ some k_ ≠ (.slice (some ad316) t309.length co44 : Value).ownBlock ∧ k_ ≠ gb307 ∧ k_ ≠ gb308 ∧ k_ ≠ gb315 ∧ k_ ≠ s_.2) v325 t324) ∧ (Kd.R Kd.string 9 w' w.heap.size (fun k_ => (w.heap.size ≤ k_)) s_.1 t331) ∧ (Kd.N (Kd.slice 9 Kd.string) 22 w' w.heap.size (fun k_ => (w.heap.size ≤ k_) ∧ some k_ ≠ (v325 : Value).ownBlock ∧ some k_ ≠ (s_.1 : Value).ownBlock ∧ k_ ≠ gb307 ∧ k_ ≠ gb308 ∧ k_ ≠ gb315 ∧ k_ ≠ s_.2) (.slice (some ad316) t309.length co44) t309) ∧ (w'.heap[gb307]? = some (.cells #[.slice none 0 0,.string x308001_1,.slice none 0 0,.slice none 0 0] 26 (0,0))) ∧ (w'.heap[gb308]? = some (.cells #[.int .i64 x309000_1,.int .i64 x309001_1,.int .i64 x309002_1] 28 (0,0))) ∧ (w'.heap[gb315]? = some (.cells #[.int .i64 t327,.int .i64 t328,.int .i64 t329] 28 (0,0))) ∧ (w'.heap[s_.2]? = some (.cells #[.slice none 0 0,.string (⟨#[]⟩ : ByteArray),.slice none 0 0,.slice none 0 0] 26 (0,0))) ∧ ((ad334.add ((ji83)).toNat).block ≠ s_.2) ∧ (w.heap.size ≤ s_.2) ∧ (gb307 ≠ s_.2) ∧ (s_.2 ≠ gb307) ∧ (gb308 ≠ s_.2) ∧ (s_.2 ≠ gb308) ∧ (gb315 ≠ s_.2) ∧ (s_.2 ≠ gb315) ∧ (Below w.heap.size w w')) ?_ ?_
   rotate_left
   ·intro hCont
    refine two_ (i := 3) (j := 9) (Ni := some 90) (Nj := some 11) (qM 11 255) (qM 11 759) rfl rfl rfl rfl (two_of HT_.out Z253) Z355 Z355 (fun K hK => ?_) (fun K hK => ?_)
    ·skip
     refine goes_ Tryd.func19 Z253 rfl #[.slice (some ad334) ((rd_L2 t309 0).take ((ji83) : Int).toNat).length c316_0] Z255 rfl rfl Z56 ?_
     with_reducible refine (slices_Clone_string_string.calls _ _ ((rd_L2 t309 0).take ((ji83) : Int).toNat) t331 _ ?side1 ?side2 A86.out).mono ?_
     (case side1 => exact Z108)
     (case side2 => exact HC330.out)
     rintro e w95 ⟨v332,rfl,ho0,hb⟩
     refine ⟨_,rfl,?_⟩
     have n9_ := Aside0.mk (Kd.V_below Z313 hb)
     clear HR316_0
     have HR316_0 := n9_
     clear n9_
     have n_ := jA (Kd.N_elder' Z324 (Kd.R_base ho0) hb) (jA (Kd.N_elder' Z200 (Kd.R_base ho0) hb) (jA (Kd.R_lower (Kd.R_newM (M := fun k_ => (w.heap.size ≤ k_)) ho0 (below_size Z268) (fun k_ h_ => h_)) (below_size Z268)) (jA (blk_below (g := gb307) (o := .cells #[.slice none 0 0,.string x308001_1,.slice none 0 0,.slice none 0 0] 26 (0,0)) Z352 hb) (jA (blk_below (g := gb308) (o := .cells #[.int .i64 x309000_1,.int .i64 x309001_1,.int .i64 x309002_1] 28 (0,0)) Z331 hb) (jA (blk_below (g := gb315) (o := .cells #[.int .i64 t327,.int .i64 t328,.int .i64 t329] 28 (0,0)) Z332 hb) (Aside0.mk (below_step Z268 hb)))))))
     clear HO_4 HO326 BK307 BK308 BK315 HB
     obtain ⟨HO_4,HO326,HO333,BK307,BK308,BK315,HB⟩ := n_
     (try clear hb)
     (try clear hb2)
     (try clear hk)
     (try clear hi)
     (try clear ho0)
     obtain ⟨Ao96,co96,eo96⟩ := Kd.R_slice HO333.out
     (first | subst eo96 | (injection eo96 with f1_ f2_ f3_;have f4_ := f1_.symm;have f5_ := f3_.symm;clear f1_ f2_ f3_;subst f4_;subst f5_))
     refine hK.out _ _ (Z179) (fun hHeld => ?_)
     clear hK K
     refine rN (h := ?_)
     refine rP 8 95 11 511 HT_ (h := ?_)
     refine rO 9 11 11 1023 HT_ (h := fun K hK => ?_)
     refine box_step ?hg (N := 11) ?hd (cs := #[.slice none 0 0,.string (⟨#[]⟩ : ByteArray),.slice none 0 0,.slice none 0 0]) (t := 26) ?hr ?_;(case hd => rfl);(case hg => rfl);(case hr => exact Z239)
     intro gb335 hg w97 hbox hb
     have NE9_ := Aside0.mk (show ((ad334.add ((ji83)).toNat).block ≠ gb335) from Z229)
     have n99_ := Aside0.mk (Kd.V_below Z313 hb)
     clear HR316_0
     have HR316_0 := n99_
     clear n99_
     have n_ := jA (Kd.N_below (Kd.N_elderB Z324 gb335 (Nat.le_of_eq hg.symm)) hb) (jA (Kd.N_below (Kd.N_elderB Z200 gb335 (Nat.le_of_eq hg.symm)) hb) (jA (Kd.R_below (by (with_reducible repeat (first | apply Kd.R_alloc | apply Kd.R_drewN | apply Kd.R_drew));exact HO333.out) hb) (jA (blk_below (g := gb307) (o := .cells #[.slice none 0 0,.string x308001_1,.slice none 0 0,.slice none 0 0] 26 (0,0)) Z352 hb) (jA (blk_below (g := gb308) (o := .cells #[.int .i64 x309000_1,.int .i64 x309001_1,.int .i64 x309002_1] 28 (0,0)) Z331 hb) (jA (blk_below (g := gb315) (o := .cells #[.int .i64 t327,.int .i64 t328,.int .i64 t329] 28 (0,0)) Z332 hb) (jA (below_step Z268 hb) (jA (hbox) (jA ((Z101 : w.heap.size ≤ gb335)) (jA ((Z101 : w.heap.size ≤ gb335)) (jA ((Z137 : gb307 ≠ gb335)) (jA ((Z138 : gb335 ≠ gb307)) (jA ((Z146 : gb308 ≠ gb335)) (jA ((Z147 : gb335 ≠ gb308)) (jA ((Z157 : gb315 ≠ gb335)) (Aside0.mk ((Z158 : gb335 ≠ gb315)))))))))))))))))
     clear HO_4 HO326 HO333 BK307 BK308 BK315 HB
     obtain ⟨HO_4,HO326,HO333,BK307,BK308,BK315,HB,BK335,GW335,GE335,NB307_335,NB335_307,NB308_335,NB335_308,NB315_335,NB335_315⟩ := n_
     clear hb hbox hg
     refine hK.out _ _ (Z179) (fun hHeld => ?_)
     clear hK K
     refine rN (h := ?_)
     exact norm_ Z219 (hCont (.slice Ao96 t331.length co96,gb335) _ ⟨hHeld,(by (with_reducible repeat (first | apply Kd.N_alloc | apply Kd.N_drewN | apply Kd.N_drew));exact Kd.N_mono HO326.out (fun _ hk => ⟨hk.1.1.1,⟨hk.1.2,⟨hk.1.1.2.1,⟨hk.1.1.2.2.1,⟨hk.1.1.2.2.2.1,⟨hk.1.1.2.2.2.2,hk.2⟩⟩⟩⟩⟩⟩)),Z175,(by (with_reducible repeat (first | apply Kd.N_alloc | apply Kd.N_drewN | apply Kd.N_drew));exact Kd.N_mono HO_4.out (fun _ hk => ⟨hk.1.1.1,⟨hk.1.1.2.1,⟨hk.1.2,⟨hk.1.1.2.2.1,⟨hk.1.1.2.2.2.1,⟨hk.1.1.2.2.2.2,hk.2⟩⟩⟩⟩⟩⟩)),Z352,Z331,Z332,Z333,NE9_.out,GE335.out,NB307_335.out,NB335_307.out,NB308_335.out,NB335_308.out,NB315_335.out,NB335_315.out,Z262⟩)
    skip
    refine box_step ?hg (N := 11) ?hd (cs := #[.slice none 0 0,.string (⟨#[]⟩ : ByteArray),.slice none 0 0,.slice none 0 0]) (t := 26) ?hr ?_;(case hd => rfl);(case hg => rfl);(case hr => exact Z239)
    intro gb335 hg w95 hbox hb
    have NE9_ := Aside0.mk (show ((ad334.add ((ji83)).toNat).block ≠ gb335) from Z229)
    have n99_ := Aside0.mk (Kd.V_below Z313 hb)
    clear HR316_0
    have HR316_0 := n99_
    clear n99_
    have n_ := jA (Kd.N_below (Kd.N_elderB Z324 gb335 (Nat.le_of_eq hg.symm)) hb) (jA (Kd.N_below (Kd.N_elderB Z200 gb335 (Nat.le_of_eq hg.symm)) hb) (jA (blk_below (g := gb307) (o := .cells #[.slice none 0 0,.string x308001_1,.slice none 0 0,.slice none 0 0] 26 (0,0)) Z352 hb) (jA (blk_below (g := gb308) (o := .cells #[.int .i64 x309000_1,.int .i64 x309001_1,.int .i64 x309002_1] 28 (0,0)) Z331 hb) (jA (blk_below (g := gb315) (o := .cells #[.int .i64 t327,.int .i64 t328,.int .i64 t329] 28 (0,0)) Z332 hb) (jA (below_step Z268 hb) (jA (hbox) (jA ((Z101 : w.heap.size ≤ gb335)) (jA ((Z101 : w.heap.size ≤ gb335)) (jA ((Z137 : gb307 ≠ gb335)) (jA ((Z138 : gb335 ≠ gb307)) (jA ((Z146 : gb308 ≠ gb335)) (jA ((Z147 : gb335 ≠ gb308)) (jA ((Z157 : gb315 ≠ gb335)) (Aside0.mk ((Z158 : gb335 ≠ gb315))))))))))))))))
    clear HO_4 HO326 BK307 BK308 BK315 HB
    obtain ⟨HO_4,HO326,BK307,BK308,BK315,HB,BK335,GW335,GE335,NB307_335,NB335_307,NB308_335,NB335_308,NB315_335,NB335_315⟩ := n_
    clear hb hbox hg
    refine hK.out _ _ (Z179) (fun hHeld => ?_)
    clear hK K
    refine rN (h := ?_)
    refine rO 3 90 11 767 HT_ (h := fun K hK => ?_)
    refine goes_ Tryd.func19 Z253 rfl #[.slice (some ad334) ((rd_L2 t309 0).take ((ji83) : Int).toNat).length c316_0] Z255 rfl rfl Z56 ?_
    with_reducible refine (slices_Clone_string_string.calls _ _ ((rd_L2 t309 0).take ((ji83) : Int).toNat) t331 _ ?side1 ?side2 A86.out).mono ?_
    (case side1 => exact Z108)
    (case side2 => exact HC330.out)
    rintro e w96 ⟨v332,rfl,ho0,hb⟩
    refine ⟨_,rfl,?_⟩
    have n9_ := Aside0.mk (Kd.V_below Z313 hb)
    clear HR316_0
    have HR316_0 := n9_
    clear n9_
    have n_ := jA (Kd.N_elder' Z324 (Kd.R_base ho0) hb) (jA (Kd.N_elder' Z200 (Kd.R_base ho0) hb) (jA (Kd.R_lower (Kd.R_newM (M := fun k_ => (w.heap.size ≤ k_)) ho0 (below_size Z262) (fun k_ h_ => h_)) (below_size Z262)) (jA (blk_below (g := gb307) (o := .cells #[.slice none 0 0,.string x308001_1,.slice none 0 0,.slice none 0 0] 26 (0,0)) Z352 hb) (jA (blk_below (g := gb308) (o := .cells #[.int .i64 x309000_1,.int .i64 x309001_1,.int .i64 x309002_1] 28 (0,0)) Z331 hb) (jA (blk_below (g := gb315) (o := .cells #[.int .i64 t327,.int .i64 t328,.int .i64 t329] 28 (0,0)) Z332 hb) (jA (blk_below (g := gb335) (o := .cells #[.slice none 0 0,.string (⟨#[]⟩ : ByteArray),.slice none 0 0,.slice none 0 0] 26 (0,0)) Z333 hb) (Aside0.mk (below_step Z262 hb))))))))
    clear HO_4 HO326 BK307 BK308 BK315 BK335 HB
    obtain ⟨HO_4,HO326,HO333,BK307,BK308,BK315,BK335,HB⟩ := n_
    (try clear hb)
    (try clear hb2)
    (try clear hk)
    (try clear hi)
    (try clear ho0)
    obtain ⟨Ao97,co97,eo97⟩ := Kd.R_slice HO333.out
    (first | subst eo97 | (injection eo97 with f1_ f2_ f3_;have f4_ := f1_.symm;have f5_ := f3_.symm;clear f1_ f2_ f3_;subst f4_;subst f5_))
    refine hK.out _ _ (Z179) (fun hHeld => ?_)
    clear hK K
    refine rN (h := ?_)
    refine rP 8 95 11 1023 HT_ (h := ?_)
    exact norm_ Z219 (hCont (.slice Ao97 t331.length co97,gb335) _ ⟨hHeld,(by (with_reducible repeat (first | apply Kd.N_alloc | apply Kd.N_drewN | apply Kd.N_drew));exact Kd.N_mono HO326.out (fun _ hk => ⟨hk.1.1.1,⟨hk.2,⟨hk.1.1.2.1,⟨hk.1.1.2.2.1,⟨hk.1.1.2.2.2.1,⟨hk.1.1.2.2.2.2,hk.1.2⟩⟩⟩⟩⟩⟩)),Z175,(by (with_reducible repeat (first | apply Kd.N_alloc | apply Kd.N_drewN | apply Kd.N_drew));exact Kd.N_mono HO_4.out (fun _ hk => ⟨hk.1.1.1,⟨hk.1.1.2.1,⟨hk.2,⟨hk.1.1.2.2.1,⟨hk.1.1.2.2.2.1,⟨hk.1.1.2.2.2.2,hk.1.2⟩⟩⟩⟩⟩⟩)),Z352,Z331,Z332,Z333,NE9_.out,GE335.out,NB307_335.out,NB335_307.out,NB308_335.out,NB335_308.out,NB315_335.out,NB335_315.out,Z262⟩)
   rintro ⟨v332,gb335⟩ w98 ⟨hS_,h0_,h1_,h2_,h3_,h4_,h5_,h6_,h7_,h8_,h9_,h10_,h11_,h12_,h13_,h14_,h15_⟩
   have n0_ : Aside0 (Kd.N (Kd.slice 3 (Kd.int .i64)) 24 w98 w.heap.size (fun k_ => (w.heap.size ≤ k_) ∧ some k_ ≠ (v332 : Value).ownBlock ∧ some k_ ≠ (.slice (some ad316) t309.length co44 : Value).ownBlock ∧ k_ ≠ gb307 ∧ k_ ≠ gb308 ∧ k_ ≠ gb315 ∧ k_ ≠ gb335) v325 t324) := ⟨h0_⟩
   have n1_ : Aside0 (Kd.R Kd.string 9 w98 w.heap.size (fun k_ => (w.heap.size ≤ k_)) v332 t331) := ⟨h1_⟩
   have n2_ : Aside0 (Kd.N (Kd.slice 9 Kd.string) 22 w98 w.heap.size (fun k_ => (w.heap.size ≤ k_) ∧ some k_ ≠ (v325 : Value).ownBlock ∧ some k_ ≠ (v332 : Value).ownBlock ∧ k_ ≠ gb307 ∧ k_ ≠ gb308 ∧ k_ ≠ gb315 ∧ k_ ≠ gb335) (.slice (some ad316) t309.length co44) t309) := ⟨h2_⟩
   have n3_ : Aside0 (w98.heap[gb307]? = some (.cells #[.slice none 0 0,.string x308001_1,.slice none 0 0,.slice none 0 0] 26 (0,0))) := ⟨h3_⟩
   have n4_ : Aside0 (w98.heap[gb308]? = some (.cells #[.int .i64 x309000_1,.int .i64 x309001_1,.int .i64 x309002_1] 28 (0,0))) := ⟨h4_⟩
   have n5_ : Aside0 (w98.heap[gb315]? = some (.cells #[.int .i64 t327,.int .i64 t328,.int .i64 t329] 28 (0,0))) := ⟨h5_⟩
   have n6_ : Aside0 (w98.heap[gb335]? = some (.cells #[.slice none 0 0,.string (⟨#[]⟩ : ByteArray),.slice none 0 0,.slice none 0 0] 26 (0,0))) := ⟨h6_⟩
   have n7_ : Aside0 ((ad334.add ((ji83)).toNat).block ≠ gb335) := ⟨h7_⟩
   have n8_ : Aside0 (w.heap.size ≤ gb335) := ⟨h8_⟩
   have n9_ : Aside0 (gb307 ≠ gb335) := ⟨h9_⟩
   have n10_ : Aside0 (gb335 ≠ gb307) := ⟨h10_⟩
   have n11_ : Aside0 (gb308 ≠ gb335) := ⟨h11_⟩
   have n12_ : Aside0 (gb335 ≠ gb308) := ⟨h12_⟩
   have n13_ : Aside0 (gb315 ≠ gb335) := ⟨h13_⟩
   have n14_ : Aside0 (gb335 ≠ gb315) := ⟨h14_⟩
   have n15_ : Aside0 (Below w.heap.size w w98) := ⟨h15_⟩
   clear HO_4
   clear HO326
   clear BK307
   clear BK308
   clear BK315
   clear HB
   clear h0_ h1_ h2_ h3_ h4_ h5_ h6_ h7_ h8_ h9_ h10_ h11_ h12_ h13_ h14_ h15_
   have HO326 := n0_
   have HO333 := n1_
   have HO_4 := n2_
   have BK307 := n3_
   have BK308 := n4_
   have BK315 := n5_
   have BK335 := n6_
   have GW335 := n7_
   have GE335 := n8_
   have NB307_335 := n9_
   have NB335_307 := n10_
   have NB308_335 := n11_
   have NB335_308 := n12_
   have NB315_335 := n13_
   have NB335_315 := n14_
   have HB := n15_
   clear n0_ n1_ n2_ n3_ n4_ n5_ n6_ n7_ n8_ n9_ n10_ n11_ n12_ n13_ n14_ n15_
   have hHeld : w98.cell? (ad334.add ((ji83)).toNat) = some (.string (rdOf ByteArray.empty (rd_L2 t309 0) (ji83))) := hS_
   obtain ⟨Ao99,co99,eo99⟩ := Kd.R_slice HO333.out
   (first | subst eo99 | (injection eo99 with f1_ f2_ f3_;have f4_ := f1_.symm;have f5_ := f3_.symm;clear f1_ f2_ f3_;subst f4_;subst f5_))
   refine norm_ (a' := ?_) ?_ ?_
   rotate_left
   ·simp only [putAll,Act.put,List.setIfInBounds_toArray,List.set_cons_zero,List.set_cons_succ]
    rfl
   refine one_ (i := 10) (N := none) (qM 11 2047) rfl rfl (one_of HT_.out Z253) Z355 (fun K hK => ?_)
   have hs100 : w98.cell? ⟨gb335,0,none⟩ = some (.slice none 0 0) := bc BK335 0
   have hfs100 := blk_frozen BK335.out 0
   have hns100_0 := NB307_335.out
   have hns100_1 := NB308_335.out
   have hns100_2 := NB315_335.out
   have hms100_0 := NB335_307.out
   have hms100_1 := NB335_308.out
   have hms100_2 := NB335_315.out
   have hs101 : w98.cell? ⟨gb335,1,none⟩ = some (.string (⟨#[]⟩ : ByteArray)) := bc BK335 1
   have hfs101 := blk_frozen BK335.out 1
   have hns101_0 := NB307_335.out
   have hns101_1 := NB308_335.out
   have hns101_2 := NB315_335.out
   have hms101_0 := NB335_307.out
   have hms101_1 := NB335_308.out
   have hms101_2 := NB335_315.out
   have hs102 : w98.cell? ⟨gb335,2,none⟩ = some (.slice none 0 0) := bc BK335 2
   have hfs102 := blk_frozen BK335.out 2
   have hns102_0 := NB307_335.out
   have hns102_1 := NB308_335.out
   have hns102_2 := NB315_335.out
   have hms102_0 := NB335_307.out
   have hms102_1 := NB335_308.out
   have hms102_2 := NB335_315.out
   have hs103 : w98.cell? ⟨gb335,3,none⟩ = some (.slice none 0 0) := bc BK335 3
   have hfs103 := blk_frozen BK335.out 3
   have hns103_0 := NB307_335.out
   have hns103_1 := NB308_335.out
   have hns103_2 := NB315_335.out
   have hms103_0 := NB335_307.out
   have hms103_1 := NB335_308.out
   have hms103_2 := NB335_315.out
   refine skip_ (w1 := ?_) Z255 rfl ?_ ?_
   rotate_left
   ·go_simp
    rfl
   refine hK.out _ _ (((cell_far (p := ⟨gb335,_,none⟩) Z153 _).trans (((cell_far (p := ⟨gb335,_,none⟩) Z153 _).trans (((cell_far (p := ⟨gb335,_,none⟩) Z153 _).trans (((cell_far (p := ⟨gb335,_,none⟩) Z153 _).trans (hHeld))))))))) (fun hHeld => ?_)
   clear hK K
   refine done_ (done_of HT_.out Z253) ?_
   obtain ⟨Ao104,co104,eo104⟩ := Kd.N_slice HO326.out
   subst eo104
   try go_wp2
   go_loopg [98] k1 (fun kq v98 w' => ∃ (x98_2 : Int) (x336002_2 : List (List Int)) (x336003_2 : List Int) (u336002 : Value) (u336003 : Value) (P0_ : Nat → Prop),v98 = .int .i64 x98_2 ∧ Aside0 (impl_ReadTable.l1 kq ji83 t324 (t324.length : Int) x98_2 t331 (rdOf ByteArray.empty (rd_L2 t309 0) (ji83)) x336002_2 x336003_2 = some (r1,r2,r3,r4,r5,r6,r7)) ∧ Aside0 (kq ≤ k1) ∧ Aside0 (Kd.N (Kd.slice 3 (Kd.int .i64)) 24 w' w.heap.size (fun k_ => (w.heap.size ≤ k_) ∧ some k_ ≠ ((.slice Ao99 t331.length co99) : Value).ownBlock ∧ some k_ ≠ (u336002 : Value).ownBlock ∧ some k_ ≠ (u336003 : Value).ownBlock ∧ k_ ≠ gb307 ∧ k_ ≠ gb308 ∧ k_ ≠ gb315 ∧ k_ ≠ gb335) (.slice Ao104 t324.length co104) t324) ∧ Aside0 (Kd.R Kd.string 9 w' w.heap.size (fun k_ => (w.heap.size ≤ k_)) (.slice Ao99 t331.length co99) t331) ∧ Aside0 (Zn w.heap.size P0_ (Kd.slice 3 (Kd.int .i64)) 24 w' w.heap.size (fun k_ => (w.heap.size ≤ k_) ∧ some k_ ≠ ((.slice Ao104 t324.length co104) : Value).ownBlock ∧ some k_ ≠ ((.slice Ao99 t331.length co99) : Value).ownBlock ∧ some k_ ≠ (u336003 : Value).ownBlock ∧ k_ ≠ gb307 ∧ k_ ≠ gb308 ∧ k_ ≠ gb315 ∧ k_ ≠ gb335) u336002 x336002_2) ∧ Aside0 (Kd.R (Kd.int .i64) 3 w' w.heap.size (fun k_ => (w.heap.size ≤ k_)) u336003 x336003_2) ∧ Aside0 (w'.heap[gb307]? = some (.cells #[(.slice none 0 0),.string x308001_1,(.slice none 0 0),(.slice none 0 0)] 26 (0,0))) ∧ Aside0 (w'.heap[gb308]? = some (.cells #[.int .i64 x309000_1,.int .i64 x309001_1,.int .i64 x309002_1] 28 (0,0))) ∧ Aside0 (w'.heap[gb315]? = some (.cells #[.int .i64 t327,.int .i64 t328,.int .i64 t329] 28 (0,0))) ∧ Aside0 (w'.heap[gb335]? = some (.cells #[(.slice Ao99 t331.length co99),.string (rdOf ByteArray.empty (rd_L2 t309 0) (ji83)),u336002,u336003] 26 (0,0))) ∧ Aside0 (Below w.heap.size w w'))
   case atStart => exact ⟨(0),(([] : List (List Int))),(([] : List Int)),(.slice none 0 0),(.slice none 0 0),(fun _ => False),Z238,H',⟨Nat.le_refl _⟩,⟨by (with_reducible repeat (first | apply Kd.N_alloc | apply Kd.N_drewN | apply Kd.N_drew));exact Kd.N_mono (Kd.N_far (p := ⟨gb335,3,none⟩) (Kd.N_far (p := ⟨gb335,2,none⟩) (Kd.N_far (p := ⟨gb335,1,none⟩) (Kd.N_far (p := ⟨gb335,0,none⟩) (Kd.N_mono HO326.out (fun k_ hk => (⟨hk,hk.2.2.2.2.2.2⟩ : _ ∧ k_ ≠ gb335))) (fun _ hk => hk.2) (.slice Ao99 t331.length co99)) (fun _ hk => hk.2) (.string (rdOf ByteArray.empty (rd_L2 t309 0) (ji83)))) (fun _ hk => hk.2) (.slice none 0 0)) (fun _ hk => hk.2) (.slice none 0 0)) (fun _ hk => ⟨hk.1.1,⟨hk.1.2.1,⟨Z250,⟨Z250,⟨hk.1.2.2.2.1,⟨hk.1.2.2.2.2.1,⟨hk.1.2.2.2.2.2.1,hk.1.2.2.2.2.2.2⟩⟩⟩⟩⟩⟩⟩)⟩,⟨by (with_reducible repeat (first | apply Kd.R_alloc | apply Kd.R_drewN | apply Kd.R_drew));exact Kd.R_mono (Kd.R_far (p := ⟨gb335,3,none⟩) (Kd.R_far (p := ⟨gb335,2,none⟩) (Kd.R_far (p := ⟨gb335,1,none⟩) (Kd.R_far (p := ⟨gb335,0,none⟩) (Kd.R_types HO333.out BK335.out Z355) (fun _ hk => hk.2) (.slice Ao99 t331.length co99)) (fun _ hk => hk.2) (.string (rdOf ByteArray.empty (rd_L2 t309 0) (ji83)))) (fun _ hk => hk.2) (.slice none 0 0)) (fun _ hk => hk.2) (.slice none 0 0)) (fun _ hk => hk.1)⟩,⟨by first | exact Kd.S_nil _ _ _ _ _ | exact Kd.N_nil _ _ _ _ _ | exact Zn_nil _ _ _ _ _ _ _ | exact Kd.V_nil _ _ _ _ _ | exact Kd.Q_nil _ _ _ _ _ | exact Kd.R_nil _ _ _ _ _⟩,⟨by first | exact Kd.R_nil _ _ _ _ _ | exact Kd.N_nil _ _ _ _ _ | exact Zn_nil _ _ _ _ _ _ _ | exact Kd.V_nil _ _ _ _ _ | exact Kd.Q_nil _ _ _ _ _ | exact Kd.S_nil _ _ _ _ _⟩,⟨by refine bP ?_;refine blk_far ?_ NB307_335.out _;refine bP ?_;refine blk_far ?_ NB307_335.out _;refine bP ?_;refine blk_far ?_ NB307_335.out _;refine bP ?_;refine blk_far ?_ NB307_335.out _;refine bP ?_;exact BK307.out⟩,⟨by refine bP ?_;refine blk_far ?_ NB308_335.out _;refine bP ?_;refine blk_far ?_ NB308_335.out _;refine bP ?_;refine blk_far ?_ NB308_335.out _;refine bP ?_;refine blk_far ?_ NB308_335.out _;refine bP ?_;exact BK308.out⟩,⟨by refine bP ?_;refine blk_far ?_ NB315_335.out _;refine bP ?_;refine blk_far ?_ NB315_335.out _;refine bP ?_;refine blk_far ?_ NB315_335.out _;refine bP ?_;refine blk_far ?_ NB315_335.out _;refine bP ?_;exact BK315.out⟩,⟨by refine bP ?_;refine blk_put (cs := #[.slice Ao99 t331.length co99,.string (rdOf ByteArray.empty (rd_L2 t309 0) (ji83)),.slice none 0 0,.slice none 0 0]) ?_ 3 _ rfl;refine bP ?_;refine blk_put (cs := #[.slice Ao99 t331.length co99,.string (rdOf ByteArray.empty (rd_L2 t309 0) (ji83)),.slice none 0 0,.slice none 0 0]) ?_ 2 _ rfl;refine bP ?_;refine blk_put (cs := #[.slice Ao99 t331.length co99,.string (⟨#[]⟩ : ByteArray),.slice none 0 0,.slice none 0 0]) ?_ 1 _ rfl;refine bP ?_;refine blk_put (cs := #[.slice none 0 0,.string (⟨#[]⟩ : ByteArray),.slice none 0 0,.slice none 0 0]) ?_ 0 _ rfl;refine bP ?_;exact BK335.out⟩,⟨Z262⟩⟩
   case round =>
    clear H'
    try clear c1
    try clear p2
    try clear c3
    try clear p3
    try clear q3
    try clear hx3
    try clear c4
    try clear c6
    try clear p6
    try clear c7
    try clear c8
    try clear c9
    try clear c15
    try clear c16
    try clear c18
    try clear c19
    try clear c31
    try clear p31
    try clear q31
    try clear hx31
    try clear p33
    try clear q33
    try clear hx33
    try clear c45
    try clear c45b0
    try clear c46
    try clear c47
    try clear c61
    try clear c62
    try clear c64
    try clear p64
    try clear c67
    try clear c69
    try clear c69b0
    try clear c71
    try clear c72
    try clear c84
    try clear c84b0
    try clear c84b1
    try clear c85
    try clear c85b0
    try clear c85b1
    try clear c87
    try clear c87b0
    try clear c89
    try clear c90
    try clear hx319_0
    try clear hx334_0
    try clear p319
    try clear p334
    try clear q319
    try clear q334
    obtain ⟨x98_2,x336002_2,x336003_2,u336002,u336003,P0_,rfl,HA,HK2,HO_96,HO_336000,HO_336002,HO_336003,BK307,BK308,BK315,BK335,HB⟩ := hrel
    cases gk with
    | zero => exact absurd HA.out (by simp [impl_ReadTable.l1])
    | succ k2 =>
     have H := HA.out
     clear HA
     simp only [impl_ReadTable.l1] at H
     by_cases c105 : x98_2 < (t324.length : Int)
     rotate_left
     ·rw [if_neg c105] at H
      have c105b0 : decide (x98_2 < (t324.length : Int)) = false := decide_eq_false c105
      clear c105
      simp only [Option.some.injEq,Prod.mk.injEq] at H
      obtain ⟨rfl,rfl,rfl,rfl,rfl,rfl,rfl⟩ := H
      have hnb133 := NB335_307.out
      have hnc133 := NB307_335.out
      have hnb134 := NB335_308.out
      have hnc134 := NB308_335.out
      have hnb135 := NB335_315.out
      have hnc135 := NB315_335.out
      obtain ⟨hcz136_0,hcz136_1,hcz136_2,hcz136_3,hfz136_0,hfz136_1,hfz136_2,hfz136_3⟩ := cells4 BK335.out
      have hnb137 := NB307_308.out
      have hnc137 := NB308_307.out
      have hnb138 := NB307_315.out
      have hnc138 := NB315_307.out
      obtain ⟨hcz139_0,hcz139_1,hcz139_2,hcz139_3,hfz139_0,hfz139_1,hfz139_2,hfz139_3⟩ := cells4 BK307.out
      obtain ⟨Ao140,co140,eo140⟩ := Zn_slice HO_336002.out
      subst eo140
      obtain ⟨Ao141,co141,eo141⟩ := Kd.R_slice HO_336003.out
      subst eo141
      have hnb142 := NB308_315.out
      have hnc142 := NB315_308.out
      obtain ⟨hcz143_0,hcz143_1,hcz143_2,hfz143_0,hfz143_1,hfz143_2⟩ := cells3 BK308.out
      go_wp2
      refine bodyPost_ret (results_cc rfl _ _ gb307 gb308 26 28 #[.slice Ao99 t331.length co99,.string (rdOf ByteArray.empty (rd_L2 t309 0) (ji83)),.slice Ao140 x336002_2.length co140,.slice Ao141 x336003_2.length co141] #[.int .i64 0,.int .i64 0,.int .i64 0] (0,0) (0,0) _ _ rfl (by refine bP ?_;refine blk_far ?_ NB307_308.out _;refine bP ?_;refine blk_far ?_ NB307_308.out _;refine bP ?_;refine blk_far ?_ NB307_308.out _;refine bP ?_;refine blk_put (cs := #[.slice Ao99 t331.length co99,.string (rdOf ByteArray.empty (rd_L2 t309 0) (ji83)),.slice Ao140 x336002_2.length co140,.slice none 0 0]) ?_ 3 _ rfl;refine bP ?_;refine blk_put (cs := #[.slice Ao99 t331.length co99,.string (rdOf ByteArray.empty (rd_L2 t309 0) (ji83)),.slice none 0 0,.slice none 0 0]) ?_ 2 _ rfl;refine bP ?_;refine blk_put (cs := #[.slice Ao99 t331.length co99,.string x308001_1,.slice none 0 0,.slice none 0 0]) ?_ 1 _ rfl;refine bP ?_;refine blk_put (cs := #[.slice none 0 0,.string x308001_1,.slice none 0 0,.slice none 0 0]) ?_ 0 _ rfl;refine bP ?_;exact BK307.out) Tryd.underlying26 rfl Z253 rfl (by refine bP ?_;refine blk_put (cs := #[.int .i64 0,.int .i64 0,.int .i64 x309002_1]) ?_ 2 _ rfl;refine bP ?_;refine blk_put (cs := #[.int .i64 0,.int .i64 x309001_1,.int .i64 x309002_1]) ?_ 1 _ rfl;refine bP ?_;refine blk_put (cs := #[.int .i64 x309000_1,.int .i64 x309001_1,.int .i64 x309002_1]) ?_ 0 _ rfl;refine bP ?_;refine blk_far ?_ NB308_307.out _;refine bP ?_;refine blk_far ?_ NB308_307.out _;refine bP ?_;refine blk_far ?_ NB308_307.out _;refine bP ?_;refine blk_far ?_ NB308_307.out _;refine bP ?_;exact BK308.out) Tryd.underlying28 rfl Z253) rfl ?_
      exact ⟨_,_,_,by first | rfl | (simp [errW_none,errW_some] <;> rfl) | (simp only [← hji83];first | rfl | (simp [errW_none,errW_some] <;> rfl)) | (simp [*,errW_none,errW_some] <;> rfl),by (with_reducible repeat (first | apply Kd.R_alloc | apply Kd.R_drewN | apply Kd.R_drew));exact Kd.R_mono (Kd.R_far (p := ⟨gb308,2,none⟩) (Kd.R_far (p := ⟨gb308,1,none⟩) (Kd.R_far (p := ⟨gb308,0,none⟩) (Kd.R_far (p := ⟨gb307,3,none⟩) (Kd.R_far (p := ⟨gb307,2,none⟩) (Kd.R_far (p := ⟨gb307,1,none⟩) (Kd.R_far (p := ⟨gb307,0,none⟩) (Kd.R_types (Kd.R_types HO_336000.out BK307.out Z355) BK308.out Z355) (fun _ hk => hk.1.2) (.slice Ao99 t331.length co99)) (fun _ hk => hk.1.2) (.string (rdOf ByteArray.empty (rd_L2 t309 0) (ji83)))) (fun _ hk => hk.1.2) (.slice Ao140 x336002_2.length co140)) (fun _ hk => hk.1.2) (.slice Ao141 x336003_2.length co141)) (fun _ hk => hk.2) (.int .i64 0)) (fun _ hk => hk.2) (.int .i64 0)) (fun _ hk => hk.2) (.int .i64 0)) (fun _ hk => hk.1.1),by refine S_of_Zn (v0 := .slice Ao99 t331.length co99) (B := w.heap.size) (C := P0_) ?_;(with_reducible repeat (first | apply Zn_alloc | apply Zn_drewN | apply Zn_drew));exact Zn_mono (Zn_far (p := ⟨gb308,2,none⟩) (Zn_far (p := ⟨gb308,1,none⟩) (Zn_far (p := ⟨gb308,0,none⟩) (Zn_far (p := ⟨gb307,3,none⟩) (Zn_far (p := ⟨gb307,2,none⟩) (Zn_far (p := ⟨gb307,1,none⟩) (Zn_far (p := ⟨gb307,0,none⟩) (Zn_mono (Zn_mono HO_336002.out (fun k_ hk => (⟨hk,hk.2.2.2.2.1⟩ : _ ∧ k_ ≠ gb307))) (fun k_ hk => (⟨hk,hk.1.2.2.2.2.2.1⟩ : _ ∧ k_ ≠ gb308))) (fun _ hk => hk.1.2) (.slice Ao99 t331.length co99)) (fun _ hk => hk.1.2) (.string (rdOf ByteArray.empty (rd_L2 t309 0) (ji83)))) (fun _ hk => hk.1.2) (.slice Ao140 x336002_2.length co140)) (fun _ hk => hk.1.2) (.slice Ao141 x336003_2.length co141)) (fun _ hk => hk.2) (.int .i64 0)) (fun _ hk => hk.2) (.int .i64 0)) (fun _ hk => hk.2) (.int .i64 0)) (fun _ hk => ⟨hk.1.1.1,⟨hk.1.1.2.2.1,hk.1.1.2.2.2.1⟩⟩),by (with_reducible repeat (first | apply Kd.R_alloc | apply Kd.R_drewN | apply Kd.R_drew));exact Kd.R_mono (Kd.R_far (p := ⟨gb308,2,none⟩) (Kd.R_far (p := ⟨gb308,1,none⟩) (Kd.R_far (p := ⟨gb308,0,none⟩) (Kd.R_far (p := ⟨gb307,3,none⟩) (Kd.R_far (p := ⟨gb307,2,none⟩) (Kd.R_far (p := ⟨gb307,1,none⟩) (Kd.R_far (p := ⟨gb307,0,none⟩) (Kd.R_types (Kd.R_types HO_336003.out BK307.out Z355) BK308.out Z355) (fun _ hk => hk.1.2) (.slice Ao99 t331.length co99)) (fun _ hk => hk.1.2) (.string (rdOf ByteArray.empty (rd_L2 t309 0) (ji83)))) (fun _ hk => hk.1.2) (.slice Ao140 x336002_2.length co140)) (fun _ hk => hk.1.2) (.slice Ao141 x336003_2.length co141)) (fun _ hk => hk.2) (.int .i64 0)) (fun _ hk => hk.2) (.int .i64 0)) (fun _ hk => hk.2) (.int .i64 0)) (fun _ hk => hk.1.1),Z262⟩
     rw [if_pos c105] at H
     have c105b0 : decide (x98_2 < (t324.length : Int)) = true := decide_eq_true c105
     clear c105
     obtain ⟨c106,H⟩ := ifp H
     have c106b0 : decide (0 ≤ x98_2) = true := decide_eq_true c106
     clear c106
     obtain ⟨c107,H⟩ := ifp H
     have c107b0 : decide (x98_2 < (t324.length : Int)) = true := decide_eq_true c107
     clear c107
     obtain ⟨c108,H⟩ := ifp H
     have c108b0 := eq_true c108
     have c108b1 : decide (0 ≤ ji83) = true := decide_eq_true c108
     clear c108
     obtain ⟨c109,H⟩ := ifp H
     have c109b0 := eq_true c109
     have c109b1 : decide (ji83 ≤ ((rd_L4 t324 x98_2).length : Int)) = true := decide_eq_true c109
     clear c109
     obtain ⟨y337,hyy⟩ : ∃ y_ : List Int,y_ = ((rd_L4 t324 x98_2).take (ji83 : Int).toNat) := ⟨_,rfl⟩
     replace H : ((slices_Clone_int_int.f y337).bind fun t342 => ((some (([t342] : List (List Int)) : List (List Int))).bind fun y345 => (if x336002_2.length + y345.length < 5864062014805 then (if ji83 < ((rd_L4 t324 x98_2).length : Int) then ((some (([rd (rd_L4 t324 x98_2) ji83] : List Int) : List Int)).bind fun y352 => (if x336003_2.length + y352.length < 17592186044416 then (impl_ReadTable.l1 k2 ji83 t324 (t324.length : Int) (wrap64 (x98_2 + 1)) t331 (rdOf ByteArray.empty (rd_L2 t309 0) (ji83)) (x336002_2 ++ y345) (x336003_2 ++ y352)) else (none))) else (none)) else (none)))) = some (r1,r2,r3,r4,r5,r6,r7) := zR
     have Ny337 := Aside0.mk hyy
     clear hyy
     obtain ⟨t342,A1100,H⟩ := Option.bind_eq_some_iff.mp H
     have A110 := Aside0.mk A1100
     clear A1100
     obtain ⟨y345,hyy⟩ : ∃ y_ : List (List Int),y_ = (([t342] : List (List Int))) := ⟨_,rfl⟩
     replace H : (if x336002_2.length + y345.length < 5864062014805 then (if ji83 < ((rd_L4 t324 x98_2).length : Int) then ((some (([rd (rd_L4 t324 x98_2) ji83] : List Int) : List Int)).bind fun y352 => (if x336003_2.length + y352.length < 17592186044416 then (impl_ReadTable.l1 k2 ji83 t324 (t324.length : Int) (wrap64 (x98_2 + 1)) t331 (rdOf ByteArray.empty (rd_L2 t309 0) (ji83)) (x336002_2 ++ y345) (x336003_2 ++ y352)) else (none))) else (none)) else (none)) = some (r1,r2,r3,r4,r5,r6,r7) := zR
     have Ny345 := Aside0.mk hyy
     clear hyy
     obtain ⟨c111,H⟩ := ifp H
     have LMc111 := Aside0.mk c111
     clear c111
     obtain ⟨y348,hyy⟩ : ∃ y_ : List (List Int),y_ = (x336002_2 ++ y345) := ⟨_,rfl⟩
     replace H : (if ji83 < ((rd_L4 t324 x98_2).length : Int) then ((some (([rd (rd_L4 t324 x98_2) ji83] : List Int) : List Int)).bind fun y352 => (if x336003_2.length + y352.length < 17592186044416 then (impl_ReadTable.l1 k2 ji83 t324 (t324.length : Int) (wrap64 (x98_2 + 1)) t331 (rdOf ByteArray.empty (rd_L2 t309 0) (ji83)) y348 (x336003_2 ++ y352)) else (none))) else (none)) = some (r1,r2,r3,r4,r5,r6,r7) := zR
     have Ny348 := Aside0.mk hyy
     clear hyy
     obtain ⟨c112,H⟩ := ifp H
     have c112b0 : decide (ji83 < ((rd_L4 t324 x98_2).length : Int)) = true := decide_eq_true c112
     clear c112
     obtain ⟨y352,hyy⟩ : ∃ y_ : List Int,y_ = (([rd (rd_L4 t324 x98_2) ji83] : List Int)) := ⟨_,rfl⟩
     replace H : (if x336003_2.length + y352.length < 17592186044416 then (impl_ReadTable.l1 k2 ji83 t324 (t324.length : Int) (wrap64 (x98_2 + 1)) t331 (rdOf ByteArray.empty (rd_L2 t309 0) (ji83)) y348 (x336003_2 ++ y352)) else (none)) = some (r1,r2,r3,r4,r5,r6,r7) := zR
     have Ny352 := Aside0.mk hyy
     clear hyy
     obtain ⟨c113,H⟩ := ifp H
     have LMc113 := Aside0.mk c113
     clear c113
     obtain ⟨y355,hyy⟩ : ∃ y_ : List Int,y_ = (x336003_2 ++ y352) := ⟨_,rfl⟩
     replace H : (impl_ReadTable.l1 k2 ji83 t324 (t324.length : Int) (wrap64 (x98_2 + 1)) t331 (rdOf ByteArray.empty (rd_L2 t309 0) (ji83)) y348 y355) = some (r1,r2,r3,r4,r5,r6,r7) := zR
     have Ny355 := Aside0.mk hyy
     clear hyy
     have H' := Aside0.mk H
     clear H
     have p336 : 0 ≤ (x98_2 : Int) := of_decide_eq_true Z330
     have q336 : x98_2 < (t324.length : Int) := of_decide_eq_true Z330
     obtain ⟨ad336,A336_0,c336_0,e336,hx336_0,hl336_0,hi336_0⟩ := at_L4 (Kd.N_reads' HO_96.out).2.2 x98_2 p336 q336
     cases e336
     obtain ⟨ce336,hce336,hMe336,hcc336⟩ := Kd.N_get HO_96.out [] x98_2 p336 (by first | exact q336 | exact of_decide_eq_true Z330 | (have e_ := (Kd.N_reads' HO_96.out).1;omega))
     obtain ⟨ua336_0,uc336_0,rfl,ul336_0,ge336_0⟩ := Kd.FK_slice_open hMe336
     have hv336_0 := hcc336 0 _ rfl
     rw [Nat.add_zero,show ((Kd.slice 3 (Kd.int .i64))).sz = 1 from rfl,Nat.mul_one] at hv336_0
     replace hv336_0 := Option.some.inj (hv336_0.symm.trans hx336_0)
     injection hv336_0 with hva_ hvn_ hvc_
     rw [hva_] at ge336_0
     rw [hvc_] at ul336_0
     have HL336_0 := Aside0.mk (show Kd.V (Kd.int .i64) 3 _ w.heap.size _ _ (rd_L4 t324 x98_2) from Kd.V_mk ul336_0 ge336_0)
     clear hva_ hvn_ hvc_ ge336_0 ul336_0
     clear hcc336 hce336
     have HR336_0 := Aside0.mk hi336_0
     have HC336_0 := Aside0.mk hl336_0
     clear hi336_0 hl336_0
     replace p336 := eq_true p336
     replace q336 := eq_true q336
     obtain ⟨Ao114,co114,eo114⟩ := Zn_slice HO_336002.out
     subst eo114
     obtain ⟨Ao115,co115,eo115⟩ := Kd.R_slice HO_336003.out
     subst eo115
     try go_wp2
     have n_ := jA (Kd.N_drew HO_96.out) (jA (Kd.R_drew HO_336000.out) (jA (Zn_drew HO_336002.out) (jA (Kd.R_drew HO_336003.out) (jA (Kd.V_drew HL336_0.out) (jA (blk_drew BK307.out) (jA (blk_drew BK308.out) (jA (blk_drew BK315.out) (jA (blk_drew BK335.out) (jA (Kd.C_drew HR336_0.out) (Aside0.mk (below_drew1 HB.out)))))))))))
     clear HO_96 HO_336000 HO_336002 HO_336003 HL336_0 BK307 BK308 BK315 BK335 HR336_0 HB
     obtain ⟨HO_96,HO_336000,HO_336002,HO_336003,HL336_0,BK307,BK308,BK315,BK335,HR336_0,HB⟩ := n_
     have q117 : (ji83 : Int) ≤ (((rd_L4 t324 x98_2).length : Int) : Int) := of_decide_eq_true Z330
     obtain ⟨i0117,hi0117,_,hsz117,_⟩ := info_parts info3
     have hroom117 : (rd_L4 t324 x98_2).length ≤ c336_0 := HC336_0.out
     have hC117 : Kd.F (Kd.int .i64) _ _ A336_0 (rd_L4 t324 x98_2).length (rd_L4 t324 x98_2) := (Kd.V_at (base := w.heap.size) HL336_0.out).2.2
     have hcut117 := cut_to (P := Tryd.prog) 24 3 .i64 Tryd.underlying24 hi0117 A336_0 (rd_L4 t324 x98_2).length c336_0 ji83 (of_decide_eq_true Z330) q117 hroom117
     have hr117 := Kd.F_take (m := (ji83 : Int).toNat) hC117 Z254
     have hy117 : y337.length = (ji83 : Int).toNat := (by rw [Ny337.out,List.length_take];omega)
     rw [← Ny337.out] at hr117
     rw [← hy117] at hcut117
     have HO341 := Aside0.mk (show Kd.V (Kd.int .i64) 3 _ w.heap.size _ (.slice A336_0 y337.length c336_0) y337 from Kd.V_mk Z254 hr117)
     have HC341 := Aside0.mk (show y337.length ≤ c336_0 from Z254)
     clear hr117 hC117 hroom117 hi0117 hsz117
     have KY117 := Aside0.mk hy117
     clear hy117
     replace q117 := eq_true q117
     have p351 : 0 ≤ (ji83 : Int) := of_decide_eq_true Z330
     have q351 : ji83 < ((rd_L4 t324 x98_2).length : Int) := of_decide_eq_true Z330
     obtain ⟨ad351,e351,hx351_0⟩ := Kd.at_int Z122 ji83 p351 q351
     cases e351
     replace p351 := eq_true p351
     replace q351 := eq_true q351
     refine start_ (n := 20) (S := fun w' => w'.cell? ⟨gb335,0,none⟩ = some (.slice Ao99 t331.length co99) ∧ w'.cell? ⟨gb335,1,none⟩ = some (.string (rdOf ByteArray.empty (rd_L2 t309 0) (ji83))) ∧ w'.cell? ⟨gb335,2,none⟩ = some (.slice Ao114 x336002_2.length co114) ∧ w'.cell? ⟨gb335,3,none⟩ = some (.slice Ao115 x336003_2.length co115) ∧ w'.cell? (ad351.add (ji83).toNat) = some (.int .i64 (rd (rd_L4 t324 x98_2) ji83))) (ds := [17,19]) (qM 20 0) Z253 rfl (by kernel_rfl) ⟨bc BK335 0,bc BK335 1,bc BK335 2,bc BK335 3,hx351_0⟩ (fun hHeld => ?_);refine with_tabW impl_ReadTable.tab27 impl_ReadTable.bits27 (fun HT_ HW_ => ?_)
     generalize wr.drew = w116 at HO_96 HO_336000 HO_336002 HO_336003 HL336_0 BK307 BK308 BK315 BK335 HR336_0 HB HO341 hx351_0 hHeld ⊢
     refine rP 0 102 20 1 HT_ (h := ?_)
     refine rP 2 104 20 5 HT_ (h := ?_)
     refine rP 3 105 20 13 HT_ (h := ?_)
     refine rP 4 106 20 29 HT_ (h := ?_)
     refine rP 8 110 20 285 HT_ (h := ?_)
     refine rP 10 112 20 1309 HT_ (h := ?_)
     refine rP 11 113 20 3357 HT_ (h := ?_)
     refine rP 12 114 20 7453 HT_ (h := ?_)
     refine rT5 1 103 20 7455 HT_ HW_ hHeld (h := ?_)
     refine rT5 9 111 20 7967 HT_ HW_ hHeld (h := ?_)
     refine rT5 13 115 20 16159 HT_ HW_ hHeld (h := ?_)
     refine join_ (σ := Value × Value × Value × Value) 4 (qM 20 98303) (fun s_ => [(107,s_.1),(108,s_.2.1),(109,s_.2.2.1),(116,s_.2.2.2),(118,.pointer (some ⟨gb335,2,none⟩))]) (fun s_ w' => (w'.cell? ⟨gb335,0,none⟩ = some (.slice Ao99 t331.length co99) ∧ w'.cell? ⟨gb335,1,none⟩ = some (.string (rdOf ByteArray.empty (rd_L2 t309 0) (ji83))) ∧ w'.cell? ⟨gb335,2,none⟩ = some (.slice Ao114 x336002_2.length co114) ∧ w'.cell? ⟨gb335,3,none⟩ = some (.slice Ao115 x336003_2.length co115) ∧ w'.cell? (ad351.add (ji83).toNat) = some (.int .i64 (rd (rd_L4 t324 x98_2) ji83))) ∧ (Kd.V (Kd.int .i64) 3 w' w.heap.size (fun k_ => (w.heap.size ≤ k_) ∧ some k_ ≠ (s_.2.1 : Value).ownBlock ∧ some k_ ≠ (s_.2.2.1 : Value).ownBlock ∧ some k_ ≠ (s_.2.2.2 : Value).ownBlock ∧ some k_ ≠ (.slice Ao99 t331.length co99 : Value).ownBlock ∧ some k_ ≠ (.slice Ao115 x336003_2.length co115 : Value).ownBlock ∧ some k_ ≠ (.slice (some ad336) t324.length co104 : Value).ownBlock ∧ k_ ≠ gb307 ∧ k_ ≠ gb308 ∧ k_ ≠ gb315 ∧ k_ ≠ gb335) (.slice (some ad351) (rd_L4 t324 x98_2).length c336_0) (rd_L4 t324 x98_2)) ∧ (Kd.V (Kd.int .i64) 3 w' w.heap.size (fun k_ => (w.heap.size ≤ k_) ∧ some k_ ≠ (s_.2.1 : Value).ownBlock ∧ some k_ ≠ (s_.2.2.1 : Value).ownBlock ∧ some k_ ≠ (s_.2.2.2 : Value).ownBlock ∧ some k_ ≠ (.slice Ao99 t331.length co99 : Value).ownBlock ∧ some k_ ≠ (.slice Ao115 x336003_2.length co115 : Value).ownBlock ∧ some k_ ≠ (.slice (some ad336) t324.length co104 : Value).ownBlock ∧ k_ ≠ gb307 ∧ k_ ≠ gb308 ∧ k_ ≠ gb315 ∧ k_ ≠ gb335) (.slice (some ad351) y337.length c336_0) y337) ∧ (Zn w.heap.size (fun k_ => some k_ = (s_.1 : Value).ownBlock) (Kd.slice 3 (Kd.int .i64)) 24 w' w.heap.size (fun k_ => (w.heap.size ≤ k_) ∧ some k_ ≠ (s_.2.2.1 : Value).ownBlock ∧ some k_ ≠ (s_.2.2.2 : Value).ownBlock ∧ some k_ ≠ (.slice Ao99 t331.length co99 : Value).ownBlock ∧ some k_ ≠ (.slice Ao115 x336003_2.length co115 : Value).ownBlock ∧ some k_ ≠ (.slice (some ad336) t324.length co104 : Value).ownBlock ∧ k_ ≠ gb307 ∧ k_ ≠ gb308 ∧ k_ ≠ gb315 ∧ k_ ≠ gb335) s_.2.1 y345) ∧ (Zn w.heap.size (fun k_ => (fun k_ => P0_ k_ ∧ some k_ ≠ (s_.1 : Value).ownBlock) k_ ∨ (fun k_ => some k_ = (s_.1 : Value).ownBlock) k_) (Kd.slice 3 (Kd.int .i64)) 24 w' w.heap.size (fun k_ => (w.heap.size ≤ k_) ∧ some k_ ≠ (s_.2.2.2 : Value).ownBlock ∧ some k_ ≠ (.slice Ao99 t331.length co99 : Value).ownBlock ∧ some k_ ≠ (.slice Ao115 x336003_2.length co115 : Value).ownBlock ∧ some k_ ≠ (.slice (some ad336) t324.length co104 : Value).ownBlock ∧ k_ ≠ gb307 ∧ k_ ≠ gb308 ∧ k_ ≠ gb315 ∧ k_ ≠ gb335) s_.2.2.1 y348) ∧ (Kd.R (Kd.int .i64) 3 w' w.heap.size (fun k_ => (w.heap.size ≤ k_) ∧ some k_ ≠ (.slice Ao115 x336003_2.length co115 : Value).ownBlock) s_.2.2.2 y352) ∧ (Kd.R Kd.string 9 w' w.heap.size (fun k_ => (w.heap.size ≤ k_)) (.slice Ao99 t331.length co99) t331) ∧ (Kd.R (Kd.int .i64) 3 w' w.heap.size (fun k_ => (w.heap.size ≤ k_) ∧ some k_ ≠ (s_.2.2.2 : Value).ownBlock) (.slice Ao115 x336003_2.length co115) x336003_2) ∧ (Kd.N (Kd.slice 3 (Kd.int .i64)) 24 w' w.heap.size (fun k_ => (w.heap.size ≤ k_) ∧ some k_ ≠ (s_.2.1 : Value).ownBlock ∧ some k_ ≠ (s_.2.2.1 : Value).ownBlock ∧ some k_ ≠ (s_.2.2.2 : Value).ownBlock ∧ some k_ ≠ (.slice Ao99 t331.length co99 : Value).ownBlock ∧ some k_ ≠ (.slice Ao115 x336003_2.length co115 : Value).ownBlock ∧ k_ ≠ gb307 ∧ k_ ≠ gb308 ∧ k_ ≠ gb315 ∧ k_ ≠ gb335) (.slice (some ad336) t324.length co104) t324) ∧ (w'.heap[gb307]? = some (.cells #[.slice none 0 0,.string x308001_1,.slice none 0 0,.slice none 0 0] 26 (0,0))) ∧ (w'.heap[gb308]? = some (.cells #[.int .i64 x309000_1,.int .i64 x309001_1,.int .i64 x309002_1] 28 (0,0))) ∧ (w'.heap[gb315]? = some (.cells #[.int .i64 t327,.int .i64 t328,.int .i64 t329] 28 (0,0))) ∧ (w'.heap[gb335]? = some (.cells #[.slice Ao99 t331.length co99,.string (rdOf ByteArray.empty (rd_L2 t309 0) (ji83)),.slice Ao114 x336002_2.length co114,.slice Ao115 x336003_2.length co115] 26 (0,0))) ∧ (Below w.heap.size w w')) ?_ ?_
     rotate_left
     ·intro hCont
      refine two_ (i := 5) (j := 14) (Ni := some 107) (Nj := some 116) (qM 20 16191) (qM 20 32543) rfl rfl rfl rfl (two_of HT_.out Z253) Z355 Z355 (fun K hK => ?_) (fun K hK => ?_)
      ·skip
       refine goes_ Tryd.func20 Z253 rfl #[.slice (some ad351) y337.length c336_0] Z255 rfl rfl Z173 ?_
       with_reducible refine (slices_Clone_int_int.calls _ _ y337 t342 _ ?side1 ?side2 A110.out).mono ?_
       (case side1 => exact Z140)
       (case side2 => exact (Kd.V_reads' HO341.out).2.1)
       rintro e w118 ⟨v343,rfl,ho0,hb⟩
       have HS4_ := (hb.cell (World.block_lt_of_cell? _ _ (hHeld.2.2.2.2))).trans (hHeld.2.2.2.2)
       refine ⟨_,rfl,?_⟩
       have n_ := jA (Kd.N_elder' Z315 (Kd.R_base ho0) hb) (jA (Kd.R_below Z308 hb) (jA (Zn_elder' Z213 (Kd.R_base ho0) hb) (jA (Kd.R_elder' Z307 (Kd.R_base ho0) hb) (jA (Kd.V_elder' Z194 (Kd.R_base ho0) hb) (jA (Kd.V_elder' Z196 (Kd.R_base ho0) hb) (jA (Kd.R_lower (Kd.R_new' (Kd.R_newM (M := fun k_ => (w.heap.size ≤ k_)) ho0 (below_size Z262) (fun k_ h_ => h_)) (Kd.R_lt Z307)) (below_size Z262)) (jA (blk_below (g := gb307) (o := .cells #[.slice none 0 0,.string x308001_1,.slice none 0 0,.slice none 0 0] 26 (0,0)) Z352 hb) (jA (blk_below (g := gb308) (o := .cells #[.int .i64 x309000_1,.int .i64 x309001_1,.int .i64 x309002_1] 28 (0,0)) Z331 hb) (jA (blk_below (g := gb315) (o := .cells #[.int .i64 t327,.int .i64 t328,.int .i64 t329] 28 (0,0)) Z332 hb) (jA (blk_below (g := gb335) (o := .cells #[.slice Ao99 t331.length co99,.string (rdOf ByteArray.empty (rd_L2 t309 0) (ji83)),.slice Ao114 x336002_2.length co114,.slice Ao115 x336003_2.length co115] 26 (0,0)) Z333 hb) (jA (Kd.C_below Z122 hb) (Aside0.mk (below_step Z262 hb)))))))))))))
       clear HO_96 HO_336000 HO_336002 HO_336003 HL336_0 HO341 BK307 BK308 BK315 BK335 HR336_0 HB
       obtain ⟨HO_96,HO_336000,HO_336002,HO_336003,HL336_0,HO341,HO344,BK307,BK308,BK315,BK335,HR336_0,HB⟩ := n_
       (try clear hb)
       (try clear hb2)
       (try clear hk)
       (try clear hi)
       (try clear ho0)
       obtain ⟨Ao119,co119,eo119⟩ := Kd.R_slice HO344.out
       (first | subst eo119 | (injection eo119 with f1_ f2_ f3_;have f4_ := f1_.symm;have f5_ := f3_.symm;clear f1_ f2_ f3_;subst f4_;subst f5_))
       refine hK.out _ _ ⟨bc BK335 0,bc BK335 1,bc BK335 2,bc BK335 3,HS4_⟩ (fun hHeld => ?_)
       clear hK K
       refine rN (h := ?_)
       refine two_ (i := 6) (j := 14) (Ni := some 108) (Nj := some 116) (qM 20 16255) (qM 20 32575) rfl rfl rfl rfl (two_of HT_.out Z253) Z355 Z355 (fun K hK => ?_) (fun K hK => ?_)
       ·skip
        refine Zn_lit_step (rb := w.heap.size) (Kd.slice 3 (Kd.int .i64)) _ 24 ?hg (N' := 108) ?hd (xs := ([t342] : List (List Int))) (C := (fun k_ => some k_ = (.slice Ao119 t342.length co119 : Value).ownBlock)) (inner := [.slice Ao119 t342.length co119]) (ok := (fun k_ => (w.heap.size ≤ k_) ∧ some k_ ≠ (.slice (some ad336) t324.length co104 : Value).ownBlock ∧ some k_ ≠ (.slice Ao99 t331.length co99 : Value).ownBlock ∧ some k_ ≠ (.slice Ao114 x336002_2.length co114 : Value).ownBlock ∧ some k_ ≠ (.slice Ao115 x336003_2.length co115 : Value).ownBlock ∧ k_ ≠ gb307 ∧ k_ ≠ gb308 ∧ k_ ≠ gb315 ∧ k_ ≠ gb335)) (okp := (fun k_ => (w.heap.size ≤ k_) ∧ some k_ ≠ (.slice (some ad336) t324.length co104 : Value).ownBlock ∧ some k_ ≠ (.slice Ao99 t331.length co99 : Value).ownBlock ∧ some k_ ≠ (.slice Ao114 x336002_2.length co114 : Value).ownBlock ∧ some k_ ≠ (.slice Ao115 x336003_2.length co115 : Value).ownBlock ∧ k_ ≠ gb307 ∧ k_ ≠ gb308 ∧ k_ ≠ gb315 ∧ k_ ≠ gb335)) ?hr ?hp (fun _ hk => hk) ((show ∀ k_,w118.heap.size ≤ k_ → (fun k_ => (w.heap.size ≤ k_) ∧ some k_ ≠ (.slice (some ad336) t324.length co104 : Value).ownBlock ∧ some k_ ≠ (.slice Ao99 t331.length co99 : Value).ownBlock ∧ some k_ ≠ (.slice Ao114 x336002_2.length co114 : Value).ownBlock ∧ some k_ ≠ (.slice Ao115 x336003_2.length co115 : Value).ownBlock ∧ k_ ≠ gb307 ∧ k_ ≠ gb308 ∧ k_ ≠ gb315 ∧ k_ ≠ gb335) k_ from fun k_ hk => ⟨(Nat.le_trans (below_size Z262) hk),Kd.fresh' (Kd.N_lt Z315) k_ hk,Kd.fresh' (Kd.R_lt Z308) k_ hk,Kd.fresh' (Zn_lt Z213) k_ hk,Kd.fresh' (Kd.R_lt Z307) k_ hk,Kd.freshB (g := gb307) (o := .cells #[.slice none 0 0,.string x308001_1,.slice none 0 0,.slice none 0 0] 26 (0,0)) Z352 k_ hk,Kd.freshB (g := gb308) (o := .cells #[.int .i64 x309000_1,.int .i64 x309001_1,.int .i64 x309002_1] 28 (0,0)) Z331 k_ hk,Kd.freshB (g := gb315) (o := .cells #[.int .i64 t327,.int .i64 t328,.int .i64 t329] 28 (0,0)) Z332 k_ hk,Kd.freshB (g := gb335) (o := .cells #[.slice Ao99 t331.length co99,.string (rdOf ByteArray.empty (rd_L2 t309 0) (ji83)),.slice Ao114 x336002_2.length co114,.slice Ao115 x336003_2.length co115] 26 (0,0)) Z333 k_ hk⟩) _ (Nat.le_refl _)) (Below.refl _ _) (Nat.le_refl _) Z342 ?_;(case hd => rfl);(case hg => rfl);(case hr => exact Z239);(case hp => exact (Reps.one (show Kd.M (Kd.slice 3 (Kd.int .i64)) _ _ _ t342 [.slice Ao119 t342.length co119] from ⟨_,rfl,Kd.R_mono (Kd.R_tight2 rfl (Kd.R_mono (ok' := (fun k_ => (w.heap.size ≤ k_) ∧ some k_ ≠ (.slice (some ad336) t324.length co104 : Value).ownBlock ∧ some k_ ≠ (.slice Ao99 t331.length co99 : Value).ownBlock ∧ some k_ ≠ (.slice Ao114 x336002_2.length co114 : Value).ownBlock ∧ some k_ ≠ (.slice Ao115 x336003_2.length co115 : Value).ownBlock ∧ k_ ≠ gb307 ∧ k_ ≠ gb308 ∧ k_ ≠ gb315 ∧ k_ ≠ gb335)) (Kd.R_types (Kd.R_types (Kd.R_types (Kd.R_types (Kd.R_apart' (Kd.R_apart' (Kd.R_apart' (HO344.out) (Kd.N_typed HO_96.out) Z355) (Kd.R_typed HO_336000.out) Z355) (Zn_typed HO_336002.out) Z355) BK307.out Z355) BK308.out Z355) BK315.out Z355) BK335.out Z355) (fun k_ hk => ⟨hk.1.1.1.1.1.1.1.1.1,⟨hk.1.1.1.1.1.1.2,⟨hk.1.1.1.1.1.2,⟨hk.1.1.1.1.2,⟨hk.1.1.1.1.1.1.1.2,⟨hk.1.1.1.2,⟨hk.1.1.2,⟨hk.1.2,hk.2⟩⟩⟩⟩⟩⟩⟩⟩))) (fun k_ hk_ => ⟨hk_.2,hk_.1⟩)⟩) (Reps.none _ _)))
        intro v346 w120 ho121 hb hg_ hnew_
        have HS4_ := (hb.cell (World.block_lt_of_cell? _ _ (hHeld.2.2.2.2))).trans (hHeld.2.2.2.2)
        clear hg_ hnew_
        (first | rw [← Ny345.out] at ho121 | (simp only [Int.reduceToNat] at ho121;rw [← Ny345.out] at ho121))
        have n_ := jA (Kd.N_elder' Z315 (Zn_base ho121) hb) (jA (Kd.R_below Z308 hb) (jA (Zn_elder' Z213 (Zn_base ho121) hb) (jA (Kd.R_below Z307 hb) (jA (Kd.V_elder' Z194 (Zn_base ho121) hb) (jA (Kd.V_elder' Z196 (Zn_base ho121) hb) (jA (Zn_lower ho121 (below_size Z262)) (jA (blk_below (g := gb307) (o := .cells #[.slice none 0 0,.string x308001_1,.slice none 0 0,.slice none 0 0] 26 (0,0)) Z352 hb) (jA (blk_below (g := gb308) (o := .cells #[.int .i64 x309000_1,.int .i64 x309001_1,.int .i64 x309002_1] 28 (0,0)) Z331 hb) (jA (blk_below (g := gb315) (o := .cells #[.int .i64 t327,.int .i64 t328,.int .i64 t329] 28 (0,0)) Z332 hb) (jA (blk_below (g := gb335) (o := .cells #[.slice Ao99 t331.length co99,.string (rdOf ByteArray.empty (rd_L2 t309 0) (ji83)),.slice Ao114 x336002_2.length co114,.slice Ao115 x336003_2.length co115] 26 (0,0)) Z333 hb) (jA (Kd.C_below Z122 hb) (Aside0.mk (below_step Z262 hb)))))))))))))
        clear HO_96 HO_336000 HO_336002 HO_336003 HL336_0 HO341 BK307 BK308 BK315 BK335 HR336_0 HB HO344
        obtain ⟨HO_96,HO_336000,HO_336002,HO_336003,HL336_0,HO341,HO347,BK307,BK308,BK315,BK335,HR336_0,HB⟩ := n_
        clear hb ho121
        obtain ⟨Ao123,co123,eo123⟩ := Zn_slice HO347.out
        (first | subst eo123 | (injection eo123 with f1_ f2_ f3_;have f4_ := f1_.symm;have f5_ := f3_.symm;clear f1_ f2_ f3_;subst f4_;subst f5_))
        refine hK.out _ _ ⟨bc BK335 0,bc BK335 1,bc BK335 2,bc BK335 3,HS4_⟩ (fun hHeld => ?_)
        clear hK K
        refine rN (h := ?_)
        refine two_ (i := 7) (j := 14) (Ni := some 109) (Nj := some 116) (qM 20 16383) (qM 20 32639) rfl rfl rfl rfl (two_of HT_.out Z253) Z355 Z355 (fun K hK => ?_) (fun K hK => ?_)
        ·skip
         refine Zn_append_rows_step (rb := w.heap.size) (base2 := w.heap.size) (Ca := (fun k_ => P0_ k_ ∧ some k_ ≠ (.slice Ao119 t342.length co119 : Value).ownBlock)) (Cb := (fun k_ => some k_ = (.slice Ao119 t342.length co119 : Value).ownBlock)) (Kd.slice 3 (Kd.int .i64)) (w0 := w) w.heap.size Z255 (.tmp 103) (.tmp 108) 23 24 (.slice none 0 0) 24 rfl Tryd.underlying23 info24 rfl Z355 Z254 (.slice Ao114 x336002_2.length co114) x336002_2 y345 _ _ _ (fun k_ => (w.heap.size ≤ k_) ∧ some k_ ≠ (.slice (some ad336) t324.length co104 : Value).ownBlock ∧ some k_ ≠ (.slice Ao99 t331.length co99 : Value).ownBlock ∧ some k_ ≠ (.slice Ao115 x336003_2.length co115 : Value).ownBlock ∧ k_ ≠ gb307 ∧ k_ ≠ gb308 ∧ k_ ≠ gb315 ∧ k_ ≠ gb335) (fun k_ => ((fun k_ => (w.heap.size ≤ k_) ∧ some k_ ≠ (.slice (some ad336) t324.length co104 : Value).ownBlock ∧ some k_ ≠ (.slice Ao99 t331.length co99 : Value).ownBlock ∧ some k_ ≠ (.slice Ao115 x336003_2.length co115 : Value).ownBlock ∧ k_ ≠ gb307 ∧ k_ ≠ gb308 ∧ k_ ≠ gb315 ∧ k_ ≠ gb335)) k_ ∧ some k_ ≠ (.slice Ao114 x336002_2.length co114 : Value).ownBlock) rfl rfl ?aO ?aR (fun _ hk => hk) ?aF ?aB ?aS ?aL ?aC ?_
         (case aC => exact Z243)
         (case aR => exact (by skip;exact Zn_F (Zn_mono (ok' := (fun k_ => ((fun k_ => (w.heap.size ≤ k_) ∧ some k_ ≠ (.slice (some ad336) t324.length co104 : Value).ownBlock ∧ some k_ ≠ (.slice Ao99 t331.length co99 : Value).ownBlock ∧ some k_ ≠ (.slice Ao115 x336003_2.length co115 : Value).ownBlock ∧ k_ ≠ gb307 ∧ k_ ≠ gb308 ∧ k_ ≠ gb315 ∧ k_ ≠ gb335)) k_ ∧ some k_ ≠ (.slice Ao114 x336002_2.length co114 : Value).ownBlock)) (HO347.out) (fun k_ hk => ⟨⟨hk.1,⟨hk.2.1,⟨hk.2.2.1,⟨hk.2.2.2.2.1,⟨hk.2.2.2.2.2.1,⟨hk.2.2.2.2.2.2.1,⟨hk.2.2.2.2.2.2.2.1,hk.2.2.2.2.2.2.2.2⟩⟩⟩⟩⟩⟩⟩,hk.2.2.2.1⟩))))
         (case aB => exact Z98)
         (case aF => exact (fun k_ hk => ⟨(Nat.le_trans (below_size Z262) hk),Kd.fresh' (Kd.N_lt Z315) k_ hk,Kd.fresh' (Kd.R_lt Z308) k_ hk,Kd.fresh' (Kd.R_lt Z307) k_ hk,Kd.freshB (g := gb307) (o := .cells #[.slice none 0 0,.string x308001_1,.slice none 0 0,.slice none 0 0] 26 (0,0)) Z352 k_ hk,Kd.freshB (g := gb308) (o := .cells #[.int .i64 x309000_1,.int .i64 x309001_1,.int .i64 x309002_1] 28 (0,0)) Z331 k_ hk,Kd.freshB (g := gb315) (o := .cells #[.int .i64 t327,.int .i64 t328,.int .i64 t329] 28 (0,0)) Z332 k_ hk,Kd.freshB (g := gb335) (o := .cells #[.slice Ao99 t331.length co99,.string (rdOf ByteArray.empty (rd_L2 t309 0) (ji83)),.slice Ao114 x336002_2.length co114,.slice Ao115 x336003_2.length co115] 26 (0,0)) Z333 k_ hk⟩))
         (case aO => exact (by (with_reducible repeat (first | apply Zn_alloc | apply Zn_drewN | apply Zn_drew));exact Zn_mono (Zn_color HO_336002.out (C' := (fun k_ => P0_ k_ ∧ some k_ ≠ (.slice Ao119 t342.length co119 : Value).ownBlock)) (fun k_ h_ h2_ => ⟨h2_,Z171⟩)) (fun _ hk => ⟨hk.1.1.1,⟨hk.1.1.2.1,⟨hk.1.1.2.2.1,⟨hk.1.1.2.2.2.1,⟨hk.1.1.2.2.2.2.1,⟨hk.1.1.2.2.2.2.2.1,⟨hk.1.1.2.2.2.2.2.2.1,hk.1.1.2.2.2.2.2.2.2⟩⟩⟩⟩⟩⟩⟩)))
         (case aS => exact Z95)
         (case aL => have := LMc111.out;omega)
         intro v349 w122 ho hb hg hat
         have HS4_ := cell_grown hg (hHeld.2.2.2.2) (have hk := F_cell_ok (Kd.V_F HL336_0.out) ji83 (of_eq_true p351) (of_eq_true q351); hk.1.1.1.2.2.1)
         rw [← Ny348.out] at ho
         have n_ := jA (Kd.N_afterv (ok := (fun k_ => (w.heap.size ≤ k_) ∧ some k_ ≠ (.slice Ao99 t331.length co99 : Value).ownBlock ∧ some k_ ≠ (.slice Ao115 x336003_2.length co115 : Value).ownBlock ∧ some k_ ≠ (.slice Ao123 y345.length co123 : Value).ownBlock ∧ k_ ≠ gb307 ∧ k_ ≠ gb308 ∧ k_ ≠ gb315 ∧ k_ ≠ gb335)) (by (with_reducible repeat (first | apply Kd.N_alloc | apply Kd.N_drewN | apply Kd.N_drew));exact Kd.N_mono HO_96.out (fun _ hk => ⟨⟨hk.1.1.1,⟨hk.1.1.2.1,⟨hk.1.1.2.2.2.1,⟨hk.2,⟨hk.1.1.2.2.2.2.1,⟨hk.1.1.2.2.2.2.2.1,⟨hk.1.1.2.2.2.2.2.2.1,hk.1.1.2.2.2.2.2.2.2⟩⟩⟩⟩⟩⟩⟩,hk.1.1.2.2.1⟩)) hg hat) (jA (Kd.R_over' Z308 (Zn_typed Z213) Z355 hg) (jA (Kd.R_over' Z307 (Zn_typed Z213) Z355 hg) (jA (blk_grown (g := gb307) (o := .cells #[.slice none 0 0,.string x308001_1,.slice none 0 0,.slice none 0 0] 26 (0,0)) Z352 hg (Zn_ne HO_336002.out BK307.out Z355)) (jA (blk_grown (g := gb308) (o := .cells #[.int .i64 x309000_1,.int .i64 x309001_1,.int .i64 x309002_1] 28 (0,0)) Z331 hg (Zn_ne HO_336002.out BK308.out Z355)) (jA (blk_grown (g := gb315) (o := .cells #[.int .i64 t327,.int .i64 t328,.int .i64 t329] 28 (0,0)) Z332 hg (Zn_ne HO_336002.out BK315.out Z355)) (jA (blk_grown (g := gb335) (o := .cells #[.slice Ao99 t331.length co99,.string (rdOf ByteArray.empty (rd_L2 t309 0) (ji83)),.slice Ao114 x336002_2.length co114,.slice Ao115 x336003_2.length co115] 26 (0,0)) Z333 hg (Zn_ne HO_336002.out BK335.out Z355)) (jA (Kd.V_afterv (ok := (fun k_ => (w.heap.size ≤ k_) ∧ some k_ ≠ (.slice (some ad336) t324.length co104 : Value).ownBlock ∧ some k_ ≠ (.slice Ao99 t331.length co99 : Value).ownBlock ∧ some k_ ≠ (.slice Ao115 x336003_2.length co115 : Value).ownBlock ∧ some k_ ≠ (.slice Ao123 y345.length co123 : Value).ownBlock ∧ k_ ≠ gb307 ∧ k_ ≠ gb308 ∧ k_ ≠ gb315 ∧ k_ ≠ gb335)) (by (with_reducible repeat (first | apply Kd.V_alloc | apply Kd.V_drewN | apply Kd.V_drew));exact Kd.V_mono HL336_0.out (fun _ hk => ⟨⟨hk.1.1.1.1,⟨hk.1.1.2,⟨hk.1.1.1.2.1,⟨hk.1.1.1.2.2.2.1,⟨hk.2,⟨hk.1.1.1.2.2.2.2.1,⟨hk.1.1.1.2.2.2.2.2.1,⟨hk.1.1.1.2.2.2.2.2.2.1,hk.1.1.1.2.2.2.2.2.2.2⟩⟩⟩⟩⟩⟩⟩⟩,hk.1.1.1.2.2.1⟩)) hg hat) (jA (Kd.V_afterv (ok := (fun k_ => (w.heap.size ≤ k_) ∧ some k_ ≠ (.slice (some ad336) t324.length co104 : Value).ownBlock ∧ some k_ ≠ (.slice Ao99 t331.length co99 : Value).ownBlock ∧ some k_ ≠ (.slice Ao115 x336003_2.length co115 : Value).ownBlock ∧ some k_ ≠ (.slice Ao123 y345.length co123 : Value).ownBlock ∧ k_ ≠ gb307 ∧ k_ ≠ gb308 ∧ k_ ≠ gb315 ∧ k_ ≠ gb335)) (by (with_reducible repeat (first | apply Kd.V_alloc | apply Kd.V_drewN | apply Kd.V_drew));exact Kd.V_mono HO341.out (fun _ hk => ⟨⟨hk.1.1.1.1,⟨hk.1.1.2,⟨hk.1.1.1.2.1,⟨hk.1.1.1.2.2.2.1,⟨hk.2,⟨hk.1.1.1.2.2.2.2.1,⟨hk.1.1.1.2.2.2.2.2.1,⟨hk.1.1.1.2.2.2.2.2.2.1,hk.1.1.1.2.2.2.2.2.2.2⟩⟩⟩⟩⟩⟩⟩⟩,hk.1.1.1.2.2.1⟩)) hg hat) (jA (Zn_afterv (ok := (fun k_ => (w.heap.size ≤ k_) ∧ some k_ ≠ (.slice (some ad336) t324.length co104 : Value).ownBlock ∧ some k_ ≠ (.slice Ao99 t331.length co99 : Value).ownBlock ∧ some k_ ≠ (.slice Ao115 x336003_2.length co115 : Value).ownBlock ∧ k_ ≠ gb307 ∧ k_ ≠ gb308 ∧ k_ ≠ gb315 ∧ k_ ≠ gb335)) (by (with_reducible repeat (first | apply Zn_alloc | apply Zn_drewN | apply Zn_drew));exact Zn_mono HO347.out (fun _ hk => ⟨⟨hk.1,⟨hk.2.1,⟨hk.2.2.1,⟨hk.2.2.2.2.1,⟨hk.2.2.2.2.2.1,⟨hk.2.2.2.2.2.2.1,⟨hk.2.2.2.2.2.2.2.1,hk.2.2.2.2.2.2.2.2⟩⟩⟩⟩⟩⟩⟩,hk.2.2.2.1⟩)) hg hat) (jA (hb) (Aside0.mk (ho))))))))))))
         clear HO_96 HO_336000 HO_336003 BK307 BK308 BK315 BK335 HL336_0 HO341 HO347 HB HO_336002
         obtain ⟨HO_96,HO_336000,HO_336003,BK307,BK308,BK315,BK335,HL336_0,HO341,HO347,HB,HO350⟩ := n_
         clear ho hb hg hat
         refine hK.out _ _ ⟨bc BK335 0,bc BK335 1,bc BK335 2,bc BK335 3,HS4_⟩ (fun hHeld => ?_)
         clear hK K
         refine rN (h := ?_)
         refine rP 16 118 20 81919 HT_ (h := ?_)
         refine rO 14 116 20 98303 HT_ (h := fun K hK => ?_)
         refine Kd.R_lit_step (Kd.int .i64) _ 3 ?hg (N := 116) ?hd (xs := ([rd (rd_L4 t324 x98_2) ji83] : List Int)) (inner := [.int .i64 (rd (rd_L4 t324 x98_2) ji83)]) (ok := fun _ => True) (okp := fun _ => True) ?hr ?hp (fun _ hk => hk) trivial (Below.refl _ _) (Nat.le_refl _) Z342 ?_;(case hd => rfl);(case hg => rfl);(case hr => exact Z239);(case hp => exact Z167)
         intro v353 w124 ho125 hb hg_ hnew_
         have HS4_ := (hb.cell (World.block_lt_of_cell? _ _ (hHeld.2.2.2.2))).trans (hHeld.2.2.2.2)
         clear hg_ hnew_
         (first | rw [← Ny352.out] at ho125 | (simp only [Int.reduceToNat] at ho125;rw [← Ny352.out] at ho125))
         have n_ := jA (Kd.N_elder' Z315 (Kd.R_base ho125) hb) (jA (Kd.R_below Z308 hb) (jA (Kd.R_elder' Z307 (Kd.R_base ho125) hb) (jA (Kd.V_elder' Z194 (Kd.R_base ho125) hb) (jA (Kd.V_elder' Z196 (Kd.R_base ho125) hb) (jA (Zn_elder' Z217 (Kd.R_base ho125) hb) (jA (Zn_elder' (by (with_reducible repeat (first | apply Zn_alloc | apply Zn_drewN | apply Zn_drew));exact HO350.out) (Kd.R_base ho125) hb) (jA (Kd.R_lower (Kd.R_new' (Kd.R_newM (M := fun k_ => (w.heap.size ≤ k_)) ho125 (below_size Z262) (fun k_ h_ => h_)) (Kd.R_lt Z307)) (below_size Z262)) (jA (blk_below (g := gb307) (o := .cells #[.slice none 0 0,.string x308001_1,.slice none 0 0,.slice none 0 0] 26 (0,0)) Z352 hb) (jA (blk_below (g := gb308) (o := .cells #[.int .i64 x309000_1,.int .i64 x309001_1,.int .i64 x309002_1] 28 (0,0)) Z331 hb) (jA (blk_below (g := gb315) (o := .cells #[.int .i64 t327,.int .i64 t328,.int .i64 t329] 28 (0,0)) Z332 hb) (jA (blk_below (g := gb335) (o := .cells #[.slice Ao99 t331.length co99,.string (rdOf ByteArray.empty (rd_L2 t309 0) (ji83)),.slice Ao114 x336002_2.length co114,.slice Ao115 x336003_2.length co115] 26 (0,0)) Z333 hb) (Aside0.mk (below_step Z262 hb)))))))))))))
         clear HO_96 HO_336000 HO_336003 HL336_0 HO341 HO347 HO350 BK307 BK308 BK315 BK335 HB
         obtain ⟨HO_96,HO_336000,HO_336003,HL336_0,HO341,HO347,HO350,HO354,BK307,BK308,BK315,BK335,HB⟩ := n_
         clear hb ho125
         refine hK.out _ _ ⟨bc BK335 0,bc BK335 1,bc BK335 2,bc BK335 3,HS4_⟩ (fun hHeld => ?_)
         clear hK K
         refine rN (h := ?_)
         exact norm_ Z219 (hCont (.slice Ao119 t342.length co119,.slice Ao123 y345.length co123,v349,v353) _ ⟨hHeld,(by (with_reducible repeat (first | apply Kd.V_alloc | apply Kd.V_drewN | apply Kd.V_drew));exact Kd.V_mono HL336_0.out (fun _ hk => ⟨hk.1.1.1,⟨hk.1.1.2.2.2.2.1,⟨hk.1.2,⟨hk.2,⟨hk.1.1.2.2.1,⟨hk.1.1.2.2.2.1,⟨hk.1.1.2.1,⟨hk.1.1.2.2.2.2.2.1,⟨hk.1.1.2.2.2.2.2.2.1,⟨hk.1.1.2.2.2.2.2.2.2.1,hk.1.1.2.2.2.2.2.2.2.2⟩⟩⟩⟩⟩⟩⟩⟩⟩⟩)),(by (with_reducible repeat (first | apply Kd.V_alloc | apply Kd.V_drewN | apply Kd.V_drew));exact Kd.V_mono HO341.out (fun _ hk => ⟨hk.1.1.1,⟨hk.1.1.2.2.2.2.1,⟨hk.1.2,⟨hk.2,⟨hk.1.1.2.2.1,⟨hk.1.1.2.2.2.1,⟨hk.1.1.2.1,⟨hk.1.1.2.2.2.2.2.1,⟨hk.1.1.2.2.2.2.2.2.1,⟨hk.1.1.2.2.2.2.2.2.2.1,hk.1.1.2.2.2.2.2.2.2.2⟩⟩⟩⟩⟩⟩⟩⟩⟩⟩)),(by (with_reducible repeat (first | apply Zn_alloc | apply Zn_drewN | apply Zn_drew));exact Zn_mono HO347.out (fun _ hk => ⟨hk.1.1.1,⟨hk.1.2,⟨hk.2,⟨hk.1.1.2.2.1,⟨hk.1.1.2.2.2.1,⟨hk.1.1.2.1,⟨hk.1.1.2.2.2.2.1,⟨hk.1.1.2.2.2.2.2.1,⟨hk.1.1.2.2.2.2.2.2.1,hk.1.1.2.2.2.2.2.2.2⟩⟩⟩⟩⟩⟩⟩⟩⟩)),(by (with_reducible repeat (first | apply Zn_alloc | apply Zn_drewN | apply Zn_drew));exact Zn_mono HO350.out (fun _ hk => ⟨hk.1.1,⟨hk.2,⟨hk.1.2.2.1,⟨hk.1.2.2.2.1,⟨hk.1.2.1,⟨hk.1.2.2.2.2.1,⟨hk.1.2.2.2.2.2.1,⟨hk.1.2.2.2.2.2.2.1,hk.1.2.2.2.2.2.2.2⟩⟩⟩⟩⟩⟩⟩⟩)),Z163,Z308,Z159,(by (with_reducible repeat (first | apply Kd.N_alloc | apply Kd.N_drewN | apply Kd.N_drew));exact Kd.N_mono HO_96.out (fun _ hk => ⟨hk.1.1.1,⟨hk.1.1.2.2.2.1,⟨hk.1.2,⟨hk.2,⟨hk.1.1.2.1,⟨hk.1.1.2.2.1,⟨hk.1.1.2.2.2.2.1,⟨hk.1.1.2.2.2.2.2.1,⟨hk.1.1.2.2.2.2.2.2.1,hk.1.1.2.2.2.2.2.2.2⟩⟩⟩⟩⟩⟩⟩⟩⟩)),Z352,Z331,Z332,Z333,Z262⟩)
        skip
        refine Kd.R_lit_step (Kd.int .i64) _ 3 ?hg (N := 116) ?hd (xs := ([rd (rd_L4 t324 x98_2) ji83] : List Int)) (inner := [.int .i64 (rd (rd_L4 t324 x98_2) ji83)]) (ok := fun _ => True) (okp := fun _ => True) ?hr ?hp (fun _ hk => hk) trivial (Below.refl _ _) (Nat.le_refl _) Z342 ?_;(case hd => rfl);(case hg => rfl);(case hr => exact Z239);(case hp => exact Z167)
        intro v353 w122 ho123 hb hg_ hnew_
        have HS4_ := (hb.cell (World.block_lt_of_cell? _ _ (hHeld.2.2.2.2))).trans (hHeld.2.2.2.2)
        clear hg_ hnew_
        (first | rw [← Ny352.out] at ho123 | (simp only [Int.reduceToNat] at ho123;rw [← Ny352.out] at ho123))
        have n_ := jA (Kd.N_elder' Z315 (Kd.R_base ho123) hb) (jA (Kd.R_below Z308 hb) (jA (Zn_elder' Z213 (Kd.R_base ho123) hb) (jA (Kd.R_elder' Z307 (Kd.R_base ho123) hb) (jA (Kd.V_elder' Z194 (Kd.R_base ho123) hb) (jA (Kd.V_elder' Z196 (Kd.R_base ho123) hb) (jA (Zn_elder' Z217 (Kd.R_base ho123) hb) (jA (Kd.R_lower (Kd.R_new' (Kd.R_newM (M := fun k_ => (w.heap.size ≤ k_)) ho123 (below_size Z262) (fun k_ h_ => h_)) (Kd.R_lt Z307)) (below_size Z262)) (jA (blk_below (g := gb307) (o := .cells #[.slice none 0 0,.string x308001_1,.slice none 0 0,.slice none 0 0] 26 (0,0)) Z352 hb) (jA (blk_below (g := gb308) (o := .cells #[.int .i64 x309000_1,.int .i64 x309001_1,.int .i64 x309002_1] 28 (0,0)) Z331 hb) (jA (blk_below (g := gb315) (o := .cells #[.int .i64 t327,.int .i64 t328,.int .i64 t329] 28 (0,0)) Z332 hb) (jA (blk_below (g := gb335) (o := .cells #[.slice Ao99 t331.length co99,.string (rdOf ByteArray.empty (rd_L2 t309 0) (ji83)),.slice Ao114 x336002_2.length co114,.slice Ao115 x336003_2.length co115] 26 (0,0)) Z333 hb) (jA (Kd.C_below Z122 hb) (Aside0.mk (below_step Z262 hb))))))))))))))
        clear HO_96 HO_336000 HO_336002 HO_336003 HL336_0 HO341 HO347 BK307 BK308 BK315 BK335 HR336_0 HB
        obtain ⟨HO_96,HO_336000,HO_336002,HO_336003,HL336_0,HO341,HO347,HO354,BK307,BK308,BK315,BK335,HR336_0,HB⟩ := n_
        clear hb ho123
        obtain ⟨Ao125,co125,eo125⟩ := Zn_slice HO347.out
        (first | subst eo125 | (injection eo125 with f1_ f2_ f3_;have f4_ := f1_.symm;have f5_ := f3_.symm;clear f1_ f2_ f3_;subst f4_;subst f5_))
        refine hK.out _ _ ⟨bc BK335 0,bc BK335 1,bc BK335 2,bc BK335 3,HS4_⟩ (fun hHeld => ?_)
        clear hK K
        refine rN (h := ?_)
        refine rO 7 109 20 32767 HT_ (h := fun K hK => ?_)
        refine Zn_append_rows_step (rb := w.heap.size) (base2 := w.heap.size) (Ca := (fun k_ => P0_ k_ ∧ some k_ ≠ (.slice Ao119 t342.length co119 : Value).ownBlock)) (Cb := (fun k_ => some k_ = (.slice Ao119 t342.length co119 : Value).ownBlock)) (Kd.slice 3 (Kd.int .i64)) (w0 := w) w.heap.size Z255 (.tmp 103) (.tmp 108) 23 24 (.slice none 0 0) 24 rfl Tryd.underlying23 info24 rfl Z355 Z254 (.slice Ao114 x336002_2.length co114) x336002_2 y345 _ _ _ (fun k_ => (w.heap.size ≤ k_) ∧ some k_ ≠ (.slice (some ad336) t324.length co104 : Value).ownBlock ∧ some k_ ≠ (.slice Ao99 t331.length co99 : Value).ownBlock ∧ some k_ ≠ (.slice Ao115 x336003_2.length co115 : Value).ownBlock ∧ some k_ ≠ (v353 : Value).ownBlock ∧ k_ ≠ gb307 ∧ k_ ≠ gb308 ∧ k_ ≠ gb315 ∧ k_ ≠ gb335) (fun k_ => ((fun k_ => (w.heap.size ≤ k_) ∧ some k_ ≠ (.slice (some ad336) t324.length co104 : Value).ownBlock ∧ some k_ ≠ (.slice Ao99 t331.length co99 : Value).ownBlock ∧ some k_ ≠ (.slice Ao115 x336003_2.length co115 : Value).ownBlock ∧ some k_ ≠ (v353 : Value).ownBlock ∧ k_ ≠ gb307 ∧ k_ ≠ gb308 ∧ k_ ≠ gb315 ∧ k_ ≠ gb335)) k_ ∧ some k_ ≠ (.slice Ao114 x336002_2.length co114 : Value).ownBlock) rfl rfl ?aO ?aR (fun _ hk => hk) ?aF ?aB ?aS ?aL ?aC ?_
        (case aC => exact Z243)
        (case aR => exact (by skip;exact Zn_F (Zn_mono (ok' := (fun k_ => ((fun k_ => (w.heap.size ≤ k_) ∧ some k_ ≠ (.slice (some ad336) t324.length co104 : Value).ownBlock ∧ some k_ ≠ (.slice Ao99 t331.length co99 : Value).ownBlock ∧ some k_ ≠ (.slice Ao115 x336003_2.length co115 : Value).ownBlock ∧ some k_ ≠ (v353 : Value).ownBlock ∧ k_ ≠ gb307 ∧ k_ ≠ gb308 ∧ k_ ≠ gb315 ∧ k_ ≠ gb335)) k_ ∧ some k_ ≠ (.slice Ao114 x336002_2.length co114 : Value).ownBlock)) (HO347.out) (fun k_ hk => ⟨⟨hk.1.1,⟨hk.1.2.1,⟨hk.1.2.2.1,⟨hk.1.2.2.2.2.1,⟨hk.2,⟨hk.1.2.2.2.2.2.1,⟨hk.1.2.2.2.2.2.2.1,⟨hk.1.2.2.2.2.2.2.2.1,hk.1.2.2.2.2.2.2.2.2⟩⟩⟩⟩⟩⟩⟩⟩,hk.1.2.2.2.1⟩))))
        (case aB => exact Z98)
        (case aF => exact Z7)
        (case aO => exact (by (with_reducible repeat (first | apply Zn_alloc | apply Zn_drewN | apply Zn_drew));exact Zn_mono (Zn_color HO_336002.out (C' := (fun k_ => P0_ k_ ∧ some k_ ≠ (.slice Ao119 t342.length co119 : Value).ownBlock)) (fun k_ h_ h2_ => ⟨h2_,Z171⟩)) (fun _ hk => ⟨hk.1.1.1.1,⟨hk.1.1.1.2.1,⟨hk.1.1.1.2.2.1,⟨hk.1.1.1.2.2.2.1,⟨hk.2,⟨hk.1.1.1.2.2.2.2.1,⟨hk.1.1.1.2.2.2.2.2.1,⟨hk.1.1.1.2.2.2.2.2.2.1,hk.1.1.1.2.2.2.2.2.2.2⟩⟩⟩⟩⟩⟩⟩⟩)))
        (case aS => exact Z95)
        (case aL => have := LMc111.out;omega)
        intro v349 w124 ho hb hg hat
        have HS4_ := cell_grown hg (hHeld.2.2.2.2) (have hk := F_cell_ok (Kd.V_F HL336_0.out) ji83 (of_eq_true p351) (of_eq_true q351); hk.1.1.1.1.2.2.1)
        rw [← Ny348.out] at ho
        have n_ := jA (Kd.N_afterv (ok := (fun k_ => (w.heap.size ≤ k_) ∧ some k_ ≠ (.slice Ao99 t331.length co99 : Value).ownBlock ∧ some k_ ≠ (.slice Ao115 x336003_2.length co115 : Value).ownBlock ∧ some k_ ≠ (.slice Ao125 y345.length co125 : Value).ownBlock ∧ some k_ ≠ (v353 : Value).ownBlock ∧ k_ ≠ gb307 ∧ k_ ≠ gb308 ∧ k_ ≠ gb315 ∧ k_ ≠ gb335)) Z77 hg hat) (jA (Kd.R_over' Z308 (Zn_typed Z213) Z355 hg) (jA (Kd.R_over' Z307 (Zn_typed Z213) Z355 hg) (jA (blk_grown (g := gb307) (o := .cells #[.slice none 0 0,.string x308001_1,.slice none 0 0,.slice none 0 0] 26 (0,0)) Z352 hg (Zn_ne HO_336002.out BK307.out Z355)) (jA (blk_grown (g := gb308) (o := .cells #[.int .i64 x309000_1,.int .i64 x309001_1,.int .i64 x309002_1] 28 (0,0)) Z331 hg (Zn_ne HO_336002.out BK308.out Z355)) (jA (blk_grown (g := gb315) (o := .cells #[.int .i64 t327,.int .i64 t328,.int .i64 t329] 28 (0,0)) Z332 hg (Zn_ne HO_336002.out BK315.out Z355)) (jA (blk_grown (g := gb335) (o := .cells #[.slice Ao99 t331.length co99,.string (rdOf ByteArray.empty (rd_L2 t309 0) (ji83)),.slice Ao114 x336002_2.length co114,.slice Ao115 x336003_2.length co115] 26 (0,0)) Z333 hg (Zn_ne HO_336002.out BK335.out Z355)) (jA (Kd.V_afterv (ok := (fun k_ => (w.heap.size ≤ k_) ∧ some k_ ≠ (.slice (some ad336) t324.length co104 : Value).ownBlock ∧ some k_ ≠ (.slice Ao99 t331.length co99 : Value).ownBlock ∧ some k_ ≠ (.slice Ao115 x336003_2.length co115 : Value).ownBlock ∧ some k_ ≠ (.slice Ao125 y345.length co125 : Value).ownBlock ∧ some k_ ≠ (v353 : Value).ownBlock ∧ k_ ≠ gb307 ∧ k_ ≠ gb308 ∧ k_ ≠ gb315 ∧ k_ ≠ gb335)) Z64 hg hat) (jA (Kd.V_afterv (ok := (fun k_ => (w.heap.size ≤ k_) ∧ some k_ ≠ (.slice (some ad336) t324.length co104 : Value).ownBlock ∧ some k_ ≠ (.slice Ao99 t331.length co99 : Value).ownBlock ∧ some k_ ≠ (.slice Ao115 x336003_2.length co115 : Value).ownBlock ∧ some k_ ≠ (.slice Ao125 y345.length co125 : Value).ownBlock ∧ some k_ ≠ (v353 : Value).ownBlock ∧ k_ ≠ gb307 ∧ k_ ≠ gb308 ∧ k_ ≠ gb315 ∧ k_ ≠ gb335)) Z67 hg hat) (jA (Zn_afterv (ok := (fun k_ => (w.heap.size ≤ k_) ∧ some k_ ≠ (.slice (some ad336) t324.length co104 : Value).ownBlock ∧ some k_ ≠ (.slice Ao99 t331.length co99 : Value).ownBlock ∧ some k_ ≠ (.slice Ao115 x336003_2.length co115 : Value).ownBlock ∧ some k_ ≠ (v353 : Value).ownBlock ∧ k_ ≠ gb307 ∧ k_ ≠ gb308 ∧ k_ ≠ gb315 ∧ k_ ≠ gb335)) (by (with_reducible repeat (first | apply Zn_alloc | apply Zn_drewN | apply Zn_drew));exact Zn_mono HO347.out (fun _ hk => ⟨⟨hk.1.1,⟨hk.1.2.1,⟨hk.1.2.2.1,⟨hk.1.2.2.2.2.1,⟨hk.2,⟨hk.1.2.2.2.2.2.1,⟨hk.1.2.2.2.2.2.2.1,⟨hk.1.2.2.2.2.2.2.2.1,hk.1.2.2.2.2.2.2.2.2⟩⟩⟩⟩⟩⟩⟩⟩,hk.1.2.2.2.1⟩)) hg hat) (jA (Kd.R_over' Z317 (Zn_typed Z213) Z355 hg) (jA (hb) (Aside0.mk (ho)))))))))))))
        clear HO_96 HO_336000 HO_336003 BK307 BK308 BK315 BK335 HL336_0 HO341 HO347 HO354 HB HO_336002
        obtain ⟨HO_96,HO_336000,HO_336003,BK307,BK308,BK315,BK335,HL336_0,HO341,HO347,HO354,HB,HO350⟩ := n_
        clear ho hb hg hat
        refine hK.out _ _ ⟨bc BK335 0,bc BK335 1,bc BK335 2,bc BK335 3,HS4_⟩ (fun hHeld => ?_)
        clear hK K
        refine rN (h := ?_)
        refine rP 16 118 20 98303 HT_ (h := ?_)
        exact norm_ Z219 (hCont (.slice Ao119 t342.length co119,.slice Ao125 y345.length co125,v349,v353) _ ⟨hHeld,(by (with_reducible repeat (first | apply Kd.V_alloc | apply Kd.V_drewN | apply Kd.V_drew));exact Kd.V_mono HL336_0.out (fun _ hk => ⟨hk.1.1,⟨hk.1.2.2.2.2.1,⟨hk.2,⟨hk.1.2.2.2.2.2.1,⟨hk.1.2.2.1,⟨hk.1.2.2.2.1,⟨hk.1.2.1,⟨hk.1.2.2.2.2.2.2.1,⟨hk.1.2.2.2.2.2.2.2.1,⟨hk.1.2.2.2.2.2.2.2.2.1,hk.1.2.2.2.2.2.2.2.2.2⟩⟩⟩⟩⟩⟩⟩⟩⟩⟩)),(by (with_reducible repeat (first | apply Kd.V_alloc | apply Kd.V_drewN | apply Kd.V_drew));exact Kd.V_mono HO341.out (fun _ hk => ⟨hk.1.1,⟨hk.1.2.2.2.2.1,⟨hk.2,⟨hk.1.2.2.2.2.2.1,⟨hk.1.2.2.1,⟨hk.1.2.2.2.1,⟨hk.1.2.1,⟨hk.1.2.2.2.2.2.2.1,⟨hk.1.2.2.2.2.2.2.2.1,⟨hk.1.2.2.2.2.2.2.2.2.1,hk.1.2.2.2.2.2.2.2.2.2⟩⟩⟩⟩⟩⟩⟩⟩⟩⟩)),Z85,Z96,Z163,Z308,Z159,(by (with_reducible repeat (first | apply Kd.N_alloc | apply Kd.N_drewN | apply Kd.N_drew));exact Kd.N_mono HO_96.out (fun _ hk => ⟨hk.1.1,⟨hk.1.2.2.2.1,⟨hk.2,⟨hk.1.2.2.2.2.1,⟨hk.1.2.1,⟨hk.1.2.2.1,⟨hk.1.2.2.2.2.2.1,⟨hk.1.2.2.2.2.2.2.1,⟨hk.1.2.2.2.2.2.2.2.1,hk.1.2.2.2.2.2.2.2.2⟩⟩⟩⟩⟩⟩⟩⟩⟩)),Z352,Z331,Z332,Z333,Z262⟩)
       skip
       refine Kd.R_lit_step (Kd.int .i64) _ 3 ?hg (N := 116) ?hd (xs := ([rd (rd_L4 t324 x98_2) ji83] : List Int)) (inner := [.int .i64 (rd (rd_L4 t324 x98_2) ji83)]) (ok := fun _ => True) (okp := fun _ => True) ?hr ?hp (fun _ hk => hk) trivial (Below.refl _ _) (Nat.le_refl _) Z342 ?_;(case hd => rfl);(case hg => rfl);(case hr => exact Z239);(case hp => exact Z167)
       intro v353 w119 ho120 hb hg_ hnew_
       have HS4_ := (hb.cell (World.block_lt_of_cell? _ _ (hHeld.2.2.2.2))).trans (hHeld.2.2.2.2)
       clear hg_ hnew_
       (first | rw [← Ny352.out] at ho120 | (simp only [Int.reduceToNat] at ho120;rw [← Ny352.out] at ho120))
       have n_ := jA (Kd.N_elder' Z315 (Kd.R_base ho120) hb) (jA (Kd.R_below Z308 hb) (jA (Zn_elder' Z213 (Kd.R_base ho120) hb) (jA (Kd.R_elder' Z307 (Kd.R_base ho120) hb) (jA (Kd.V_elder' Z194 (Kd.R_base ho120) hb) (jA (Kd.V_elder' Z196 (Kd.R_base ho120) hb) (jA (Kd.R_elder' Z208 (Kd.R_base ho120) hb) (jA (Kd.R_lower (Kd.R_new' (Kd.R_new' (Kd.R_newM (M := fun k_ => (w.heap.size ≤ k_)) ho120 (below_size Z262) (fun k_ h_ => h_)) (Kd.R_lt Z307)) (Kd.R_lt Z208)) (below_size Z262)) (jA (blk_below (g := gb307) (o := .cells #[.slice none 0 0,.string x308001_1,.slice none 0 0,.slice none 0 0] 26 (0,0)) Z352 hb) (jA (blk_below (g := gb308) (o := .cells #[.int .i64 x309000_1,.int .i64 x309001_1,.int .i64 x309002_1] 28 (0,0)) Z331 hb) (jA (blk_below (g := gb315) (o := .cells #[.int .i64 t327,.int .i64 t328,.int .i64 t329] 28 (0,0)) Z332 hb) (jA (blk_below (g := gb335) (o := .cells #[.slice Ao99 t331.length co99,.string (rdOf ByteArray.empty (rd_L2 t309 0) (ji83)),.slice Ao114 x336002_2.length co114,.slice Ao115 x336003_2.length co115] 26 (0,0)) Z333 hb) (jA (Kd.C_below Z122 hb) (Aside0.mk (below_step Z262 hb))))))))))))))
       clear HO_96 HO_336000 HO_336002 HO_336003 HL336_0 HO341 HO344 BK307 BK308 BK315 BK335 HR336_0 HB
       obtain ⟨HO_96,HO_336000,HO_336002,HO_336003,HL336_0,HO341,HO344,HO354,BK307,BK308,BK315,BK335,HR336_0,HB⟩ := n_
       clear hb ho120
       obtain ⟨Ao121,co121,eo121⟩ := Kd.R_slice HO344.out
       (first | subst eo121 | (injection eo121 with f1_ f2_ f3_;have f4_ := f1_.symm;have f5_ := f3_.symm;clear f1_ f2_ f3_;subst f4_;subst f5_))
       refine hK.out _ _ ⟨bc BK335 0,bc BK335 1,bc BK335 2,bc BK335 3,HS4_⟩ (fun hHeld => ?_)
       clear hK K
       refine rN (h := ?_)
       refine rO 6 108 20 32639 HT_ (h := fun K hK => ?_)
       refine Zn_lit_step (rb := w.heap.size) (Kd.slice 3 (Kd.int .i64)) _ 24 ?hg (N' := 108) ?hd (xs := ([t342] : List (List Int))) (C := (fun k_ => some k_ = (.slice Ao121 t342.length co121 : Value).ownBlock)) (inner := [.slice Ao121 t342.length co121]) (ok := (fun k_ => (w.heap.size ≤ k_) ∧ some k_ ≠ (.slice (some ad336) t324.length co104 : Value).ownBlock ∧ some k_ ≠ (.slice Ao99 t331.length co99 : Value).ownBlock ∧ some k_ ≠ (.slice Ao114 x336002_2.length co114 : Value).ownBlock ∧ some k_ ≠ (.slice Ao115 x336003_2.length co115 : Value).ownBlock ∧ some k_ ≠ (v353 : Value).ownBlock ∧ k_ ≠ gb307 ∧ k_ ≠ gb308 ∧ k_ ≠ gb315 ∧ k_ ≠ gb335)) (okp := (fun k_ => (w.heap.size ≤ k_) ∧ some k_ ≠ (.slice (some ad336) t324.length co104 : Value).ownBlock ∧ some k_ ≠ (.slice Ao99 t331.length co99 : Value).ownBlock ∧ some k_ ≠ (.slice Ao114 x336002_2.length co114 : Value).ownBlock ∧ some k_ ≠ (.slice Ao115 x336003_2.length co115 : Value).ownBlock ∧ some k_ ≠ (v353 : Value).ownBlock ∧ k_ ≠ gb307 ∧ k_ ≠ gb308 ∧ k_ ≠ gb315 ∧ k_ ≠ gb335)) ?hr ?hp (fun _ hk => hk) ((show ∀ k_,w119.heap.size ≤ k_ → (fun k_ => (w.heap.size ≤ k_) ∧ some k_ ≠ (.slice (some ad336) t324.length co104 : Value).ownBlock ∧ some k_ ≠ (.slice Ao99 t331.length co99 : Value).ownBlock ∧ some k_ ≠ (.slice Ao114 x336002_2.length co114 : Value).ownBlock ∧ some k_ ≠ (.slice Ao115 x336003_2.length co115 : Value).ownBlock ∧ some k_ ≠ (v353 : Value).ownBlock ∧ k_ ≠ gb307 ∧ k_ ≠ gb308 ∧ k_ ≠ gb315 ∧ k_ ≠ gb335) k_ from fun k_ hk => ⟨(Nat.le_trans (below_size Z262) hk),Kd.fresh' (Kd.N_lt Z315) k_ hk,Kd.fresh' (Kd.R_lt Z308) k_ hk,Kd.fresh' (Zn_lt Z213) k_ hk,Kd.fresh' (Kd.R_lt Z307) k_ hk,Kd.fresh' (Kd.R_lt Z317) k_ hk,Kd.freshB (g := gb307) (o := .cells #[.slice none 0 0,.string x308001_1,.slice none 0 0,.slice none 0 0] 26 (0,0)) Z352 k_ hk,Kd.freshB (g := gb308) (o := .cells #[.int .i64 x309000_1,.int .i64 x309001_1,.int .i64 x309002_1] 28 (0,0)) Z331 k_ hk,Kd.freshB (g := gb315) (o := .cells #[.int .i64 t327,.int .i64 t328,.int .i64 t329] 28 (0,0)) Z332 k_ hk,Kd.freshB (g := gb335) (o := .cells #[.slice Ao99 t331.length co99,.string (rdOf ByteArray.empty (rd_L2 t309 0) (ji83)),.slice Ao114 x336002_2.length co114,.slice Ao115 x336003_2.length co115] 26 (0,0)) Z333 k_ hk⟩) _ (Nat.le_refl _)) (Below.refl _ _) (Nat.le_refl _) Z342 ?_;(case hd => rfl);(case hg => rfl);(case hr => exact Z239);(case hp => exact Z17)
       intro v346 w122 ho123 hb hg_ hnew_
       have HS4_ := (hb.cell (World.block_lt_of_cell? _ _ (hHeld.2.2.2.2))).trans (hHeld.2.2.2.2)
       clear hg_ hnew_
       (first | rw [← Ny345.out] at ho123 | (simp only [Int.reduceToNat] at ho123;rw [← Ny345.out] at ho123))
       have n_ := jA (Kd.N_elder' Z315 (Zn_base ho123) hb) (jA (Kd.R_below Z308 hb) (jA (Zn_elder' Z213 (Zn_base ho123) hb) (jA (Kd.R_below Z307 hb) (jA (Kd.V_elder' Z194 (Zn_base ho123) hb) (jA (Kd.V_elder' Z196 (Zn_base ho123) hb) (jA (Kd.R_below Z317 hb) (jA (Zn_lower ho123 (below_size Z262)) (jA (blk_below (g := gb307) (o := .cells #[.slice none 0 0,.string x308001_1,.slice none 0 0,.slice none 0 0] 26 (0,0)) Z352 hb) (jA (blk_below (g := gb308) (o := .cells #[.int .i64 x309000_1,.int .i64 x309001_1,.int .i64 x309002_1] 28 (0,0)) Z331 hb) (jA (blk_below (g := gb315) (o := .cells #[.int .i64 t327,.int .i64 t328,.int .i64 t329] 28 (0,0)) Z332 hb) (jA (blk_below (g := gb335) (o := .cells #[.slice Ao99 t331.length co99,.string (rdOf ByteArray.empty (rd_L2 t309 0) (ji83)),.slice Ao114 x336002_2.length co114,.slice Ao115 x336003_2.length co115] 26 (0,0)) Z333 hb) (jA (Kd.C_below Z122 hb) (Aside0.mk (below_step Z262 hb))))))))))))))
       clear HO_96 HO_336000 HO_336002 HO_336003 HL336_0 HO341 HO354 BK307 BK308 BK315 BK335 HR336_0 HB HO344
       obtain ⟨HO_96,HO_336000,HO_336002,HO_336003,HL336_0,HO341,HO354,HO347,BK307,BK308,BK315,BK335,HR336_0,HB⟩ := n_
       clear hb ho123
       obtain ⟨Ao125,co125,eo125⟩ := Zn_slice HO347.out
       (first | subst eo125 | (injection eo125 with f1_ f2_ f3_;have f4_ := f1_.symm;have f5_ := f3_.symm;clear f1_ f2_ f3_;subst f4_;subst f5_))
       refine hK.out _ _ ⟨bc BK335 0,bc BK335 1,bc BK335 2,bc BK335 3,HS4_⟩ (fun hHeld => ?_)
       clear hK K
       refine rN (h := ?_)
       refine rO 7 109 20 32767 HT_ (h := fun K hK => ?_)
       refine Zn_append_rows_step (rb := w.heap.size) (base2 := w.heap.size) (Ca := (fun k_ => P0_ k_ ∧ some k_ ≠ (.slice Ao121 t342.length co121 : Value).ownBlock)) (Cb := (fun k_ => some k_ = (.slice Ao121 t342.length co121 : Value).ownBlock)) (Kd.slice 3 (Kd.int .i64)) (w0 := w) w.heap.size Z255 (.tmp 103) (.tmp 108) 23 24 (.slice none 0 0) 24 rfl Tryd.underlying23 info24 rfl Z355 Z254 (.slice Ao114 x336002_2.length co114) x336002_2 y345 _ _ _ (fun k_ => (w.heap.size ≤ k_) ∧ some k_ ≠ (.slice (some ad336) t324.length co104 : Value).ownBlock ∧ some k_ ≠ (.slice Ao99 t331.length co99 : Value).ownBlock ∧ some k_ ≠ (.slice Ao115 x336003_2.length co115 : Value).ownBlock ∧ some k_ ≠ (v353 : Value).ownBlock ∧ k_ ≠ gb307 ∧ k_ ≠ gb308 ∧ k_ ≠ gb315 ∧ k_ ≠ gb335) (fun k_ => ((fun k_ => (w.heap.size ≤ k_) ∧ some k_ ≠ (.slice (some ad336) t324.length co104 : Value).ownBlock ∧ some k_ ≠ (.slice Ao99 t331.length co99 : Value).ownBlock ∧ some k_ ≠ (.slice Ao115 x336003_2.length co115 : Value).ownBlock ∧ some k_ ≠ (v353 : Value).ownBlock ∧ k_ ≠ gb307 ∧ k_ ≠ gb308 ∧ k_ ≠ gb315 ∧ k_ ≠ gb335)) k_ ∧ some k_ ≠ (.slice Ao114 x336002_2.length co114 : Value).ownBlock) rfl rfl ?aO ?aR (fun _ hk => hk) ?aF ?aB ?aS ?aL ?aC ?_
       (case aC => exact Z243)
       (case aR => exact Z37)
       (case aB => exact Z98)
       (case aF => exact Z7)
       (case aO => exact (by (with_reducible repeat (first | apply Zn_alloc | apply Zn_drewN | apply Zn_drew));exact Zn_mono (Zn_color HO_336002.out (C' := (fun k_ => P0_ k_ ∧ some k_ ≠ (.slice Ao121 t342.length co121 : Value).ownBlock)) (fun k_ h_ h2_ => ⟨h2_,Z171⟩)) (fun _ hk => ⟨hk.1.1.1.1,⟨hk.1.1.1.2.1,⟨hk.1.1.1.2.2.1,⟨hk.1.1.1.2.2.2.1,⟨hk.1.2,⟨hk.1.1.1.2.2.2.2.1,⟨hk.1.1.1.2.2.2.2.2.1,⟨hk.1.1.1.2.2.2.2.2.2.1,hk.1.1.1.2.2.2.2.2.2.2⟩⟩⟩⟩⟩⟩⟩⟩)))
       (case aS => exact Z95)
       (case aL => have := LMc111.out;omega)
       intro v349 w124 ho hb hg hat
       have HS4_ := cell_grown hg (hHeld.2.2.2.2) (have hk := F_cell_ok (Kd.V_F HL336_0.out) ji83 (of_eq_true p351) (of_eq_true q351); hk.1.1.1.1.2.2.1)
       rw [← Ny348.out] at ho
       have n_ := jA (Kd.N_afterv (ok := (fun k_ => (w.heap.size ≤ k_) ∧ some k_ ≠ (.slice Ao99 t331.length co99 : Value).ownBlock ∧ some k_ ≠ (.slice Ao115 x336003_2.length co115 : Value).ownBlock ∧ some k_ ≠ (v353 : Value).ownBlock ∧ some k_ ≠ (.slice Ao125 y345.length co125 : Value).ownBlock ∧ k_ ≠ gb307 ∧ k_ ≠ gb308 ∧ k_ ≠ gb315 ∧ k_ ≠ gb335)) Z77 hg hat) (jA (Kd.R_over' Z308 (Zn_typed Z213) Z355 hg) (jA (Kd.R_over' Z307 (Zn_typed Z213) Z355 hg) (jA (blk_grown (g := gb307) (o := .cells #[.slice none 0 0,.string x308001_1,.slice none 0 0,.slice none 0 0] 26 (0,0)) Z352 hg (Zn_ne HO_336002.out BK307.out Z355)) (jA (blk_grown (g := gb308) (o := .cells #[.int .i64 x309000_1,.int .i64 x309001_1,.int .i64 x309002_1] 28 (0,0)) Z331 hg (Zn_ne HO_336002.out BK308.out Z355)) (jA (blk_grown (g := gb315) (o := .cells #[.int .i64 t327,.int .i64 t328,.int .i64 t329] 28 (0,0)) Z332 hg (Zn_ne HO_336002.out BK315.out Z355)) (jA (blk_grown (g := gb335) (o := .cells #[.slice Ao99 t331.length co99,.string (rdOf ByteArray.empty (rd_L2 t309 0) (ji83)),.slice Ao114 x336002_2.length co114,.slice Ao115 x336003_2.length co115] 26 (0,0)) Z333 hg (Zn_ne HO_336002.out BK335.out Z355)) (jA (Kd.V_afterv (ok := (fun k_ => (w.heap.size ≤ k_) ∧ some k_ ≠ (.slice (some ad336) t324.length co104 : Value).ownBlock ∧ some k_ ≠ (.slice Ao99 t331.length co99 : Value).ownBlock ∧ some k_ ≠ (.slice Ao115 x336003_2.length co115 : Value).ownBlock ∧ some k_ ≠ (v353 : Value).ownBlock ∧ some k_ ≠ (.slice Ao125 y345.length co125 : Value).ownBlock ∧ k_ ≠ gb307 ∧ k_ ≠ gb308 ∧ k_ ≠ gb315 ∧ k_ ≠ gb335)) Z64 hg hat) (jA (Kd.V_afterv (ok := (fun k_ => (w.heap.size ≤ k_) ∧ some k_ ≠ (.slice (some ad336) t324.length co104 : Value).ownBlock ∧ some k_ ≠ (.slice Ao99 t331.length co99 : Value).ownBlock ∧ some k_ ≠ (.slice Ao115 x336003_2.length co115 : Value).ownBlock ∧ some k_ ≠ (v353 : Value).ownBlock ∧ some k_ ≠ (.slice Ao125 y345.length co125 : Value).ownBlock ∧ k_ ≠ gb307 ∧ k_ ≠ gb308 ∧ k_ ≠ gb315 ∧ k_ ≠ gb335)) Z67 hg hat) (jA (Kd.R_over' Z317 (Zn_typed Z213) Z355 hg) (jA (Zn_afterv (ok := (fun k_ => (w.heap.size ≤ k_) ∧ some k_ ≠ (.slice (some ad336) t324.length co104 : Value).ownBlock ∧ some k_ ≠ (.slice Ao99 t331.length co99 : Value).ownBlock ∧ some k_ ≠ (.slice Ao115 x336003_2.length co115 : Value).ownBlock ∧ some k_ ≠ (v353 : Value).ownBlock ∧ k_ ≠ gb307 ∧ k_ ≠ gb308 ∧ k_ ≠ gb315 ∧ k_ ≠ gb335)) Z86 hg hat) (jA (hb) (Aside0.mk (ho)))))))))))))
       clear HO_96 HO_336000 HO_336003 BK307 BK308 BK315 BK335 HL336_0 HO341 HO354 HO347 HB HO_336002
       obtain ⟨HO_96,HO_336000,HO_336003,BK307,BK308,BK315,BK335,HL336_0,HO341,HO354,HO347,HB,HO350⟩ := n_
       clear ho hb hg hat
       refine hK.out _ _ ⟨bc BK335 0,bc BK335 1,bc BK335 2,bc BK335 3,HS4_⟩ (fun hHeld => ?_)
       clear hK K
       refine rN (h := ?_)
       refine rP 16 118 20 98303 HT_ (h := ?_)
       exact norm_ Z219 (hCont (.slice Ao121 t342.length co121,.slice Ao125 y345.length co125,v349,v353) _ ⟨hHeld,Z70,Z71,Z85,Z96,Z160,Z308,Z159,Z80,Z352,Z331,Z332,Z333,Z262⟩)
      skip
      refine Kd.R_lit_step (Kd.int .i64) _ 3 ?hg (N := 116) ?hd (xs := ([rd (rd_L4 t324 x98_2) ji83] : List Int)) (inner := [.int .i64 (rd (rd_L4 t324 x98_2) ji83)]) (ok := fun _ => True) (okp := fun _ => True) ?hr ?hp (fun _ hk => hk) trivial (Below.refl _ _) (Nat.le_refl _) Z342 ?_;(case hd => rfl);(case hg => rfl);(case hr => exact Z239);(case hp => exact Z167)
      intro v353 w118 ho119 hb hg_ hnew_
      have HS4_ := (hb.cell (World.block_lt_of_cell? _ _ (hHeld.2.2.2.2))).trans (hHeld.2.2.2.2)
      clear hg_ hnew_
      (first | rw [← Ny352.out] at ho119 | (simp only [Int.reduceToNat] at ho119;rw [← Ny352.out] at ho119))
      have n_ := jA (Kd.N_elder' Z315 (Kd.R_base ho119) hb) (jA (Kd.R_below Z308 hb) (jA (Zn_elder' Z213 (Kd.R_base ho119) hb) (jA (Kd.R_elder' Z307 (Kd.R_base ho119) hb) (jA (Kd.V_elder' Z194 (Kd.R_base ho119) hb) (jA (Kd.V_elder' Z196 (Kd.R_base ho119) hb) (jA (Kd.R_lower (Kd.R_new' (Kd.R_newM (M := fun k_ => (w.heap.size ≤ k_)) ho119 (below_size Z262) (fun k_ h_ => h_)) (Kd.R_lt Z307)) (below_size Z262)) (jA (blk_below (g := gb307) (o := .cells #[.slice none 0 0,.string x308001_1,.slice none 0 0,.slice none 0 0] 26 (0,0)) Z352 hb) (jA (blk_below (g := gb308) (o := .cells #[.int .i64 x309000_1,.int .i64 x309001_1,.int .i64 x309002_1] 28 (0,0)) Z331 hb) (jA (blk_below (g := gb315) (o := .cells #[.int .i64 t327,.int .i64 t328,.int .i64 t329] 28 (0,0)) Z332 hb) (jA (blk_below (g := gb335) (o := .cells #[.slice Ao99 t331.length co99,.string (rdOf ByteArray.empty (rd_L2 t309 0) (ji83)),.slice Ao114 x336002_2.length co114,.slice Ao115 x336003_2.length co115] 26 (0,0)) Z333 hb) (jA (Kd.C_below Z122 hb) (Aside0.mk (below_step Z262 hb)))))))))))))
      clear HO_96 HO_336000 HO_336002 HO_336003 HL336_0 HO341 BK307 BK308 BK315 BK335 HR336_0 HB
      obtain ⟨HO_96,HO_336000,HO_336002,HO_336003,HL336_0,HO341,HO354,BK307,BK308,BK315,BK335,HR336_0,HB⟩ := n_
      clear hb ho119
      refine hK.out _ _ ⟨bc BK335 0,bc BK335 1,bc BK335 2,bc BK335 3,HS4_⟩ (fun hHeld => ?_)
      clear hK K
      refine rN (h := ?_)
      refine rO 5 107 20 32575 HT_ (h := fun K hK => ?_)
      refine goes_ Tryd.func20 Z253 rfl #[.slice (some ad351) y337.length c336_0] Z255 rfl rfl Z173 ?_
      with_reducible refine (slices_Clone_int_int.calls _ _ y337 t342 _ ?side1 ?side2 A110.out).mono ?_
      (case side1 => exact Z140)
      (case side2 => exact (Kd.V_reads' HO341.out).2.1)
      rintro e w120 ⟨v343,rfl,ho0,hb⟩
      have HS4_ := (hb.cell (World.block_lt_of_cell? _ _ (hHeld.2.2.2.2))).trans (hHeld.2.2.2.2)
      refine ⟨_,rfl,?_⟩
      have n_ := jA (Kd.N_elder' Z315 (Kd.R_base ho0) hb) (jA (Kd.R_below Z308 hb) (jA (Zn_elder' Z213 (Kd.R_base ho0) hb) (jA (Kd.R_elder' Z307 (Kd.R_base ho0) hb) (jA (Kd.V_elder' Z194 (Kd.R_base ho0) hb) (jA (Kd.V_elder' Z196 (Kd.R_base ho0) hb) (jA (Kd.R_elder' Z317 (Kd.R_base ho0) hb) (jA (Kd.R_lower (Kd.R_new' (Kd.R_new' (Kd.R_newM (M := fun k_ => (w.heap.size ≤ k_)) ho0 (below_size Z262) (fun k_ h_ => h_)) (Kd.R_lt Z307)) (Kd.R_lt Z317)) (below_size Z262)) (jA (blk_below (g := gb307) (o := .cells #[.slice none 0 0,.string x308001_1,.slice none 0 0,.slice none 0 0] 26 (0,0)) Z352 hb) (jA (blk_below (g := gb308) (o := .cells #[.int .i64 x309000_1,.int .i64 x309001_1,.int .i64 x309002_1] 28 (0,0)) Z331 hb) (jA (blk_below (g := gb315) (o := .cells #[.int .i64 t327,.int .i64 t328,.int .i64 t329] 28 (0,0)) Z332 hb) (jA (blk_below (g := gb335) (o := .cells #[.slice Ao99 t331.length co99,.string (rdOf ByteArray.empty (rd_L2 t309 0) (ji83)),.slice Ao114 x336002_2.length co114,.slice Ao115 x336003_2.length co115] 26 (0,0)) Z333 hb) (jA (Kd.C_below Z122 hb) (Aside0.mk (below_step Z262 hb))))))))))))))
      clear HO_96 HO_336000 HO_336002 HO_336003 HL336_0 HO341 HO354 BK307 BK308 BK315 BK335 HR336_0 HB
      obtain ⟨HO_96,HO_336000,HO_336002,HO_336003,HL336_0,HO341,HO354,HO344,BK307,BK308,BK315,BK335,HR336_0,HB⟩ := n_
      (try clear hb)
      (try clear hb2)
      (try clear hk)
      (try clear hi)
      (try clear ho0)
      obtain ⟨Ao121,co121,eo121⟩ := Kd.R_slice HO344.out
      (first | subst eo121 | (injection eo121 with f1_ f2_ f3_;have f4_ := f1_.symm;have f5_ := f3_.symm;clear f1_ f2_ f3_;subst f4_;subst f5_))
      refine hK.out _ _ ⟨bc BK335 0,bc BK335 1,bc BK335 2,bc BK335 3,HS4_⟩ (fun hHeld => ?_)
      clear hK K
      refine rN (h := ?_)
      refine rO 6 108 20 32639 HT_ (h := fun K hK => ?_)
      refine Zn_lit_step (rb := w.heap.size) (Kd.slice 3 (Kd.int .i64)) _ 24 ?hg (N' := 108) ?hd (xs := ([t342] : List (List Int))) (C := (fun k_ => some k_ = (.slice Ao121 t342.length co121 : Value).ownBlock)) (inner := [.slice Ao121 t342.length co121]) (ok := (fun k_ => (w.heap.size ≤ k_) ∧ some k_ ≠ (.slice (some ad336) t324.length co104 : Value).ownBlock ∧ some k_ ≠ (.slice Ao99 t331.length co99 : Value).ownBlock ∧ some k_ ≠ (.slice Ao114 x336002_2.length co114 : Value).ownBlock ∧ some k_ ≠ (.slice Ao115 x336003_2.length co115 : Value).ownBlock ∧ some k_ ≠ (v353 : Value).ownBlock ∧ k_ ≠ gb307 ∧ k_ ≠ gb308 ∧ k_ ≠ gb315 ∧ k_ ≠ gb335)) (okp := (fun k_ => (w.heap.size ≤ k_) ∧ some k_ ≠ (.slice (some ad336) t324.length co104 : Value).ownBlock ∧ some k_ ≠ (.slice Ao99 t331.length co99 : Value).ownBlock ∧ some k_ ≠ (.slice Ao114 x336002_2.length co114 : Value).ownBlock ∧ some k_ ≠ (.slice Ao115 x336003_2.length co115 : Value).ownBlock ∧ some k_ ≠ (v353 : Value).ownBlock ∧ k_ ≠ gb307 ∧ k_ ≠ gb308 ∧ k_ ≠ gb315 ∧ k_ ≠ gb335)) ?hr ?hp (fun _ hk => hk) ((show ∀ k_,w120.heap.size ≤ k_ → (fun k_ => (w.heap.size ≤ k_) ∧ some k_ ≠ (.slice (some ad336) t324.length co104 : Value).ownBlock ∧ some k_ ≠ (.slice Ao99 t331.length co99 : Value).ownBlock ∧ some k_ ≠ (.slice Ao114 x336002_2.length co114 : Value).ownBlock ∧ some k_ ≠ (.slice Ao115 x336003_2.length co115 : Value).ownBlock ∧ some k_ ≠ (v353 : Value).ownBlock ∧ k_ ≠ gb307 ∧ k_ ≠ gb308 ∧ k_ ≠ gb315 ∧ k_ ≠ gb335) k_ from fun k_ hk => ⟨(Nat.le_trans (below_size Z262) hk),Kd.fresh' (Kd.N_lt Z315) k_ hk,Kd.fresh' (Kd.R_lt Z308) k_ hk,Kd.fresh' (Zn_lt Z213) k_ hk,Kd.fresh' (Kd.R_lt Z307) k_ hk,Kd.fresh' (Kd.R_lt Z317) k_ hk,Kd.freshB (g := gb307) (o := .cells #[.slice none 0 0,.string x308001_1,.slice none 0 0,.slice none 0 0] 26 (0,0)) Z352 k_ hk,Kd.freshB (g := gb308) (o := .cells #[.int .i64 x309000_1,.int .i64 x309001_1,.int .i64 x309002_1] 28 (0,0)) Z331 k_ hk,Kd.freshB (g := gb315) (o := .cells #[.int .i64 t327,.int .i64 t328,.int .i64 t329] 28 (0,0)) Z332 k_ hk,Kd.freshB (g := gb335) (o := .cells #[.slice Ao99 t331.length co99,.string (rdOf ByteArray.empty (rd_L2 t309 0) (ji83)),.slice Ao114 x336002_2.length co114,.slice Ao115 x336003_2.length co115] 26 (0,0)) Z333 k_ hk⟩) _ (Nat.le_refl _)) (Below.refl _ _) (Nat.le_refl _) Z342 ?_;(case hd => rfl);(case hg => rfl);(case hr => exact Z239);(case hp => exact Z17)
      intro v346 w122 ho123 hb hg_ hnew_
      have HS4_ := (hb.cell (World.block_lt_of_cell? _ _ (hHeld.2.2.2.2))).trans (hHeld.2.2.2.2)
      clear hg_ hnew_
      (first | rw [← Ny345.out] at ho123 | (simp only [Int.reduceToNat] at ho123;rw [← Ny345.out] at ho123))
      have n_ := jA (Kd.N_elder' Z315 (Zn_base ho123) hb) (jA (Kd.R_below Z308 hb) (jA (Zn_elder' Z213 (Zn_base ho123) hb) (jA (Kd.R_below Z307 hb) (jA (Kd.V_elder' Z194 (Zn_base ho123) hb) (jA (Kd.V_elder' Z196 (Zn_base ho123) hb) (jA (Kd.R_below Z317 hb) (jA (Zn_lower ho123 (below_size Z262)) (jA (blk_below (g := gb307) (o := .cells #[.slice none 0 0,.string x308001_1,.slice none 0 0,.slice none 0 0] 26 (0,0)) Z352 hb) (jA (blk_below (g := gb308) (o := .cells #[.int .i64 x309000_1,.int .i64 x309001_1,.int .i64 x309002_1] 28 (0,0)) Z331 hb) (jA (blk_below (g := gb315) (o := .cells #[.int .i64 t327,.int .i64 t328,.int .i64 t329] 28 (0,0)) Z332 hb) (jA (blk_below (g := gb335) (o := .cells #[.slice Ao99 t331.length co99,.string (rdOf ByteArray.empty (rd_L2 t309 0) (ji83)),.slice Ao114 x336002_2.length co114,.slice Ao115 x336003_2.length co115] 26 (0,0)) Z333 hb) (jA (Kd.C_below Z122 hb) (Aside0.mk (below_step Z262 hb))))))))))))))
      clear HO_96 HO_336000 HO_336002 HO_336003 HL336_0 HO341 HO354 BK307 BK308 BK315 BK335 HR336_0 HB HO344
      obtain ⟨HO_96,HO_336000,HO_336002,HO_336003,HL336_0,HO341,HO354,HO347,BK307,BK308,BK315,BK335,HR336_0,HB⟩ := n_
      clear hb ho123
      obtain ⟨Ao125,co125,eo125⟩ := Zn_slice HO347.out
      (first | subst eo125 | (injection eo125 with f1_ f2_ f3_;have f4_ := f1_.symm;have f5_ := f3_.symm;clear f1_ f2_ f3_;subst f4_;subst f5_))
      refine hK.out _ _ ⟨bc BK335 0,bc BK335 1,bc BK335 2,bc BK335 3,HS4_⟩ (fun hHeld => ?_)
      clear hK K
      refine rN (h := ?_)
      refine rO 7 109 20 32767 HT_ (h := fun K hK => ?_)
      refine Zn_append_rows_step (rb := w.heap.size) (base2 := w.heap.size) (Ca := (fun k_ => P0_ k_ ∧ some k_ ≠ (.slice Ao121 t342.length co121 : Value).ownBlock)) (Cb := (fun k_ => some k_ = (.slice Ao121 t342.length co121 : Value).ownBlock)) (Kd.slice 3 (Kd.int .i64)) (w0 := w) w.heap.size Z255 (.tmp 103) (.tmp 108) 23 24 (.slice none 0 0) 24 rfl Tryd.underlying23 info24 rfl Z355 Z254 (.slice Ao114 x336002_2.length co114) x336002_2 y345 _ _ _ (fun k_ => (w.heap.size ≤ k_) ∧ some k_ ≠ (.slice (some ad336) t324.length co104 : Value).ownBlock ∧ some k_ ≠ (.slice Ao99 t331.length co99 : Value).ownBlock ∧ some k_ ≠ (.slice Ao115 x336003_2.length co115 : Value).ownBlock ∧ some k_ ≠ (v353 : Value).ownBlock ∧ k_ ≠ gb307 ∧ k_ ≠ gb308 ∧ k_ ≠ gb315 ∧ k_ ≠ gb335) (fun k_ => ((fun k_ => (w.heap.size ≤ k_) ∧ some k_ ≠ (.slice (some ad336) t324.length co104 : Value).ownBlock ∧ some k_ ≠ (.slice Ao99 t331.length co99 : Value).ownBlock ∧ some k_ ≠ (.slice Ao115 x336003_2.length co115 : Value).ownBlock ∧ some k_ ≠ (v353 : Value).ownBlock ∧ k_ ≠ gb307 ∧ k_ ≠ gb308 ∧ k_ ≠ gb315 ∧ k_ ≠ gb335)) k_ ∧ some k_ ≠ (.slice Ao114 x336002_2.length co114 : Value).ownBlock) rfl rfl ?aO ?aR (fun _ hk => hk) ?aF ?aB ?aS ?aL ?aC ?_
      (case aC => exact Z243)
      (case aR => exact Z37)
      (case aB => exact Z98)
      (case aF => exact Z7)
      (case aO => exact (by (with_reducible repeat (first | apply Zn_alloc | apply Zn_drewN | apply Zn_drew));exact Zn_mono (Zn_color HO_336002.out (C' := (fun k_ => P0_ k_ ∧ some k_ ≠ (.slice Ao121 t342.length co121 : Value).ownBlock)) (fun k_ h_ h2_ => ⟨h2_,Z171⟩)) (fun _ hk => ⟨hk.1.1.1.1,⟨hk.1.1.1.2.1,⟨hk.1.1.1.2.2.1,⟨hk.1.1.1.2.2.2.1,⟨hk.1.1.2,⟨hk.1.1.1.2.2.2.2.1,⟨hk.1.1.1.2.2.2.2.2.1,⟨hk.1.1.1.2.2.2.2.2.2.1,hk.1.1.1.2.2.2.2.2.2.2⟩⟩⟩⟩⟩⟩⟩⟩)))
      (case aS => exact Z95)
      (case aL => have := LMc111.out;omega)
      intro v349 w124 ho hb hg hat
      have HS4_ := cell_grown hg (hHeld.2.2.2.2) (have hk := F_cell_ok (Kd.V_F HL336_0.out) ji83 (of_eq_true p351) (of_eq_true q351); hk.1.1.1.1.2.2.1)
      rw [← Ny348.out] at ho
      have n_ := jA (Kd.N_afterv (ok := (fun k_ => (w.heap.size ≤ k_) ∧ some k_ ≠ (.slice Ao99 t331.length co99 : Value).ownBlock ∧ some k_ ≠ (.slice Ao115 x336003_2.length co115 : Value).ownBlock ∧ some k_ ≠ (v353 : Value).ownBlock ∧ some k_ ≠ (.slice Ao125 y345.length co125 : Value).ownBlock ∧ k_ ≠ gb307 ∧ k_ ≠ gb308 ∧ k_ ≠ gb315 ∧ k_ ≠ gb335)) (by (with_reducible repeat (first | apply Kd.N_alloc | apply Kd.N_drewN | apply Kd.N_drew));exact Kd.N_mono HO_96.out (fun _ hk => ⟨⟨hk.1.1.1.1,⟨hk.1.1.1.2.1,⟨hk.1.1.1.2.2.2.1,⟨hk.1.1.2,⟨hk.2,⟨hk.1.1.1.2.2.2.2.1,⟨hk.1.1.1.2.2.2.2.2.1,⟨hk.1.1.1.2.2.2.2.2.2.1,hk.1.1.1.2.2.2.2.2.2.2⟩⟩⟩⟩⟩⟩⟩⟩,hk.1.1.1.2.2.1⟩)) hg hat) (jA (Kd.R_over' Z308 (Zn_typed Z213) Z355 hg) (jA (Kd.R_over' Z307 (Zn_typed Z213) Z355 hg) (jA (blk_grown (g := gb307) (o := .cells #[.slice none 0 0,.string x308001_1,.slice none 0 0,.slice none 0 0] 26 (0,0)) Z352 hg (Zn_ne HO_336002.out BK307.out Z355)) (jA (blk_grown (g := gb308) (o := .cells #[.int .i64 x309000_1,.int .i64 x309001_1,.int .i64 x309002_1] 28 (0,0)) Z331 hg (Zn_ne HO_336002.out BK308.out Z355)) (jA (blk_grown (g := gb315) (o := .cells #[.int .i64 t327,.int .i64 t328,.int .i64 t329] 28 (0,0)) Z332 hg (Zn_ne HO_336002.out BK315.out Z355)) (jA (blk_grown (g := gb335) (o := .cells #[.slice Ao99 t331.length co99,.string (rdOf ByteArray.empty (rd_L2 t309 0) (ji83)),.slice Ao114 x336002_2.length co114,.slice Ao115 x336003_2.length co115] 26 (0,0)) Z333 hg (Zn_ne HO_336002.out BK335.out Z355)) (jA (Kd.V_afterv (ok := (fun k_ => (w.heap.size ≤ k_) ∧ some k_ ≠ (.slice (some ad336) t324.length co104 : Value).ownBlock ∧ some k_ ≠ (.slice Ao99 t331.length co99 : Value).ownBlock ∧ some k_ ≠ (.slice Ao115 x336003_2.length co115 : Value).ownBlock ∧ some k_ ≠ (v353 : Value).ownBlock ∧ some k_ ≠ (.slice Ao125 y345.length co125 : Value).ownBlock ∧ k_ ≠ gb307 ∧ k_ ≠ gb308 ∧ k_ ≠ gb315 ∧ k_ ≠ gb335)) (by (with_reducible repeat (first | apply Kd.V_alloc | apply Kd.V_drewN | apply Kd.V_drew));exact Kd.V_mono HL336_0.out (fun _ hk => ⟨⟨hk.1.1.1.1.1,⟨hk.1.1.1.2,⟨hk.1.1.1.1.2.1,⟨hk.1.1.1.1.2.2.2.1,⟨hk.1.1.2,⟨hk.2,⟨hk.1.1.1.1.2.2.2.2.1,⟨hk.1.1.1.1.2.2.2.2.2.1,⟨hk.1.1.1.1.2.2.2.2.2.2.1,hk.1.1.1.1.2.2.2.2.2.2.2⟩⟩⟩⟩⟩⟩⟩⟩⟩,hk.1.1.1.1.2.2.1⟩)) hg hat) (jA (Kd.V_afterv (ok := (fun k_ => (w.heap.size ≤ k_) ∧ some k_ ≠ (.slice (some ad336) t324.length co104 : Value).ownBlock ∧ some k_ ≠ (.slice Ao99 t331.length co99 : Value).ownBlock ∧ some k_ ≠ (.slice Ao115 x336003_2.length co115 : Value).ownBlock ∧ some k_ ≠ (v353 : Value).ownBlock ∧ some k_ ≠ (.slice Ao125 y345.length co125 : Value).ownBlock ∧ k_ ≠ gb307 ∧ k_ ≠ gb308 ∧ k_ ≠ gb315 ∧ k_ ≠ gb335)) (by (with_reducible repeat (first | apply Kd.V_alloc | apply Kd.V_drewN | apply Kd.V_drew));exact Kd.V_mono HO341.out (fun _ hk => ⟨⟨hk.1.1.1.1.1,⟨hk.1.1.1.2,⟨hk.1.1.1.1.2.1,⟨hk.1.1.1.1.2.2.2.1,⟨hk.1.1.2,⟨hk.2,⟨hk.1.1.1.1.2.2.2.2.1,⟨hk.1.1.1.1.2.2.2.2.2.1,⟨hk.1.1.1.1.2.2.2.2.2.2.1,hk.1.1.1.1.2.2.2.2.2.2.2⟩⟩⟩⟩⟩⟩⟩⟩⟩,hk.1.1.1.1.2.2.1⟩)) hg hat) (jA (Kd.R_over' Z317 (Zn_typed Z213) Z355 hg) (jA (Zn_afterv (ok := (fun k_ => (w.heap.size ≤ k_) ∧ some k_ ≠ (.slice (some ad336) t324.length co104 : Value).ownBlock ∧ some k_ ≠ (.slice Ao99 t331.length co99 : Value).ownBlock ∧ some k_ ≠ (.slice Ao115 x336003_2.length co115 : Value).ownBlock ∧ some k_ ≠ (v353 : Value).ownBlock ∧ k_ ≠ gb307 ∧ k_ ≠ gb308 ∧ k_ ≠ gb315 ∧ k_ ≠ gb335)) Z86 hg hat) (jA (hb) (Aside0.mk (ho)))))))))))))
      clear HO_96 HO_336000 HO_336003 BK307 BK308 BK315 BK335 HL336_0 HO341 HO354 HO347 HB HO_336002
      obtain ⟨HO_96,HO_336000,HO_336003,BK307,BK308,BK315,BK335,HL336_0,HO341,HO354,HO347,HB,HO350⟩ := n_
      clear ho hb hg hat
      refine hK.out _ _ ⟨bc BK335 0,bc BK335 1,bc BK335 2,bc BK335 3,HS4_⟩ (fun hHeld => ?_)
      clear hK K
      refine rN (h := ?_)
      refine rP 16 118 20 98303 HT_ (h := ?_)
      exact norm_ Z219 (hCont (.slice Ao121 t342.length co121,.slice Ao125 y345.length co125,v349,v353) _ ⟨hHeld,Z70,Z71,Z85,Z96,Z160,Z308,(by (with_reducible repeat (first | apply Kd.R_alloc | apply Kd.R_drewN | apply Kd.R_drew));exact Kd.R_mono HO_336003.out (fun _ hk => ⟨hk.1.1,hk.1.2⟩)),Z80,Z352,Z331,Z332,Z333,Z262⟩)
     rintro ⟨v343,v346,v349,v353⟩ w126 ⟨hS_,h0_,h1_,h2_,h3_,h4_,h5_,h6_,h7_,h8_,h9_,h10_,h11_,h12_⟩
     have n0_ : Aside0 (Kd.V (Kd.int .i64) 3 w126 w.heap.size (fun k_ => (w.heap.size ≤ k_) ∧ some k_ ≠ (v346 : Value).ownBlock ∧ some k_ ≠ (v349 : Value).ownBlock ∧ some k_ ≠ (v353 : Value).ownBlock ∧ some k_ ≠ (.slice Ao99 t331.length co99 : Value).ownBlock ∧ some k_ ≠ (.slice Ao115 x336003_2.length co115 : Value).ownBlock ∧ some k_ ≠ (.slice (some ad336) t324.length co104 : Value).ownBlock ∧ k_ ≠ gb307 ∧ k_ ≠ gb308 ∧ k_ ≠ gb315 ∧ k_ ≠ gb335) (.slice (some ad351) (rd_L4 t324 x98_2).length c336_0) (rd_L4 t324 x98_2)) := ⟨h0_⟩
     have n1_ : Aside0 (Kd.V (Kd.int .i64) 3 w126 w.heap.size (fun k_ => (w.heap.size ≤ k_) ∧ some k_ ≠ (v346 : Value).ownBlock ∧ some k_ ≠ (v349 : Value).ownBlock ∧ some k_ ≠ (v353 : Value).ownBlock ∧ some k_ ≠ (.slice Ao99 t331.length co99 : Value).ownBlock ∧ some k_ ≠ (.slice Ao115 x336003_2.length co115 : Value).ownBlock ∧ some k_ ≠ (.slice (some ad336) t324.length co104 : Value).ownBlock ∧ k_ ≠ gb307 ∧ k_ ≠ gb308 ∧ k_ ≠ gb315 ∧ k_ ≠ gb335) (.slice (some ad351) y337.length c336_0) y337) := ⟨h1_⟩
     have n2_ : Aside0 (Zn w.heap.size (fun k_ => some k_ = (((v343 : Value)) : Value).ownBlock) (Kd.slice 3 (Kd.int .i64)) 24 w126 w.heap.size (fun k_ => (w.heap.size ≤ k_) ∧ some k_ ≠ (v349 : Value).ownBlock ∧ some k_ ≠ (v353 : Value).ownBlock ∧ some k_ ≠ (.slice Ao99 t331.length co99 : Value).ownBlock ∧ some k_ ≠ (.slice Ao115 x336003_2.length co115 : Value).ownBlock ∧ some k_ ≠ (.slice (some ad336) t324.length co104 : Value).ownBlock ∧ k_ ≠ gb307 ∧ k_ ≠ gb308 ∧ k_ ≠ gb315 ∧ k_ ≠ gb335) v346 y345) := ⟨h2_⟩
     have n3_ : Aside0 (Zn w.heap.size (fun k_ => (fun k_ => P0_ k_ ∧ some k_ ≠ (((v343 : Value)) : Value).ownBlock) k_ ∨ (fun k_ => some k_ = (((v343 : Value)) : Value).ownBlock) k_) (Kd.slice 3 (Kd.int .i64)) 24 w126 w.heap.size (fun k_ => (w.heap.size ≤ k_) ∧ some k_ ≠ (v353 : Value).ownBlock ∧ some k_ ≠ (.slice Ao99 t331.length co99 : Value).ownBlock ∧ some k_ ≠ (.slice Ao115 x336003_2.length co115 : Value).ownBlock ∧ some k_ ≠ (.slice (some ad336) t324.length co104 : Value).ownBlock ∧ k_ ≠ gb307 ∧ k_ ≠ gb308 ∧ k_ ≠ gb315 ∧ k_ ≠ gb335) v349 y348) := ⟨h3_⟩
     have n4_ : Aside0 (Kd.R (Kd.int .i64) 3 w126 w.heap.size (fun k_ => (w.heap.size ≤ k_) ∧ some k_ ≠ (.slice Ao115 x336003_2.length co115 : Value).ownBlock) v353 y352) := ⟨h4_⟩
     have n5_ : Aside0 (Kd.R Kd.string 9 w126 w.heap.size (fun k_ => (w.heap.size ≤ k_)) (.slice Ao99 t331.length co99) t331) := ⟨h5_⟩
     have n6_ : Aside0 (Kd.R (Kd.int .i64) 3 w126 w.heap.size (fun k_ => (w.heap.size ≤ k_) ∧ some k_ ≠ (v353 : Value).ownBlock) (.slice Ao115 x336003_2.length co115) x336003_2) := ⟨h6_⟩
     have n7_ : Aside0 (Kd.N (Kd.slice 3 (Kd.int .i64)) 24 w126 w.heap.size (fun k_ => (w.heap.size ≤ k_) ∧ some k_ ≠ (v346 : Value).ownBlock ∧ some k_ ≠ (v349 : Value).ownBlock ∧ some k_ ≠ (v353 : Value).ownBlock ∧ some k_ ≠ (.slice Ao99 t331.length co99 : Value).ownBlock ∧ some k_ ≠ (.slice Ao115 x336003_2.length co115 : Value).ownBlock ∧ k_ ≠ gb307 ∧ k_ ≠ gb308 ∧ k_ ≠ gb315 ∧ k_ ≠ gb335) (.slice (some ad336) t324.length co104) t324) := ⟨h7_⟩
     have n8_ : Aside0 (w126.heap[gb307]? = some (.cells #[.slice none 0 0,.string x308001_1,.slice none 0 0,.slice none 0 0] 26 (0,0))) := ⟨h8_⟩
     have n9_ : Aside0 (w126.heap[gb308]? = some (.cells #[.int .i64 x309000_1,.int .i64 x309001_1,.int .i64 x309002_1] 28 (0,0))) := ⟨h9_⟩
     have n10_ : Aside0 (w126.heap[gb315]? = some (.cells #[.int .i64 t327,.int .i64 t328,.int .i64 t329] 28 (0,0))) := ⟨h10_⟩
     have n11_ : Aside0 (w126.heap[gb335]? = some (.cells #[.slice Ao99 t331.length co99,.string (rdOf ByteArray.empty (rd_L2 t309 0) (ji83)),.slice Ao114 x336002_2.length co114,.slice Ao115 x336003_2.length co115] 26 (0,0))) := ⟨h11_⟩
     have n12_ : Aside0 (Below w.heap.size w w126) := ⟨h12_⟩
     clear HO_96
     clear HO_336000
     clear HO_336002
     clear HO_336003
     clear HL336_0
     clear BK307
     clear BK308
     clear BK315
     clear BK335
     clear HR336_0
     clear HB
     clear h0_ h1_ h2_ h3_ h4_ h5_ h6_ h7_ h8_ h9_ h10_ h11_ h12_
     have HL336_0 := n0_
     have HO341 := n1_
     have HO347 := n2_
     have HO350 := n3_
     have HO354 := n4_
     have HO_336000 := n5_
     have HO_336003 := n6_
     have HO_96 := n7_
     have BK307 := n8_
     have BK308 := n9_
     have BK315 := n10_
     have BK335 := n11_
     have HB := n12_
     clear n0_ n1_ n2_ n3_ n4_ n5_ n6_ n7_ n8_ n9_ n10_ n11_ n12_
     have hHeld : w126.cell? ⟨gb335,0,none⟩ = some (.slice Ao99 t331.length co99) ∧ w126.cell? ⟨gb335,1,none⟩ = some (.string (rdOf ByteArray.empty (rd_L2 t309 0) (ji83))) ∧ w126.cell? ⟨gb335,2,none⟩ = some (.slice Ao114 x336002_2.length co114) ∧ w126.cell? ⟨gb335,3,none⟩ = some (.slice Ao115 x336003_2.length co115) ∧ w126.cell? (ad351.add (ji83).toNat) = some (.int .i64 (rd (rd_L4 t324 x98_2) ji83)) := hS_
     obtain ⟨Ao128,co128,eo128⟩ := Kd.R_slice HO354.out
     (first | subst eo128 | (injection eo128 with f1_ f2_ f3_;have f4_ := f1_.symm;have f5_ := f3_.symm;clear f1_ f2_ f3_;subst f4_;subst f5_))
     refine norm_ (a' := ?_) ?_ ?_
     rotate_left
     ·simp only [putAll,Act.put,List.setIfInBounds_toArray,List.set_cons_zero,List.set_cons_succ]
      rfl
     refine rO 15 117 20 131071 HT_ (h := fun K hK => ?_)
     refine Kd.R_append_rows_step (Kd.int .i64) (w0 := w) w.heap.size Z255 (.tmp 111) (.tmp 116) 24 3 (.int .i64 0) 8 rfl Tryd.underlying24 info3 rfl Z355 Z254 (.slice Ao115 x336003_2.length co115) x336003_2 y352 _ _ _ (fun k_ => (w.heap.size ≤ k_) ∧ some k_ ≠ (.slice Ao128 y352.length co128 : Value).ownBlock) (fun _ => False) rfl rfl ?aO ?aR (fun _ _ h => h) (fun _ h => h.elim) ?aF ?aB ?aS ?aL ?_
     (case aR => repeat (first | exact (Kd.R_reads' HO354.out).2.2 | (with_reducible refine Kd.C_alloc ?_ _) | (with_reducible refine Kd.C_drewN ?_ _) | (with_reducible refine Kd.C_drew ?_)))
     (case aB => exact Z98)
     (case aF => exact (fun k_ hk => ⟨(Nat.le_trans (below_size Z262) hk),Kd.fresh' (Kd.R_lt Z317) k_ hk⟩))
     (case aO => exact Z307)
     (case aS => exact Z95)
     (case aL => have := LMc113.out;omega)
     intro v356 w127 ho hb hg hat
     have HS4_ := cell_grown hg (hHeld.2.2.2.2) (have hk := F_cell_ok (Kd.V_F HL336_0.out) ji83 (of_eq_true p351) (of_eq_true q351); hk.2.2.2.2.2.1)
     rw [← Ny355.out] at ho
     have n_ := jA (Kd.N_afterv (ok := (fun k_ => (w.heap.size ≤ k_) ∧ some k_ ≠ (.slice Ao99 t331.length co99 : Value).ownBlock ∧ some k_ ≠ (v346 : Value).ownBlock ∧ some k_ ≠ (v349 : Value).ownBlock ∧ some k_ ≠ (.slice Ao128 y352.length co128 : Value).ownBlock ∧ k_ ≠ gb307 ∧ k_ ≠ gb308 ∧ k_ ≠ gb315 ∧ k_ ≠ gb335)) (by (with_reducible repeat (first | apply Kd.N_alloc | apply Kd.N_drewN | apply Kd.N_drew));exact Kd.N_mono HO_96.out (fun _ hk => ⟨⟨hk.1,⟨hk.2.2.2.2.1,⟨hk.2.1,⟨hk.2.2.1,⟨hk.2.2.2.1,⟨hk.2.2.2.2.2.2.1,⟨hk.2.2.2.2.2.2.2.1,⟨hk.2.2.2.2.2.2.2.2.1,hk.2.2.2.2.2.2.2.2.2⟩⟩⟩⟩⟩⟩⟩⟩,hk.2.2.2.2.2.1⟩)) hg hat) (jA (Kd.R_over' Z308 (Kd.R_typed Z307) Z355 hg) (jA (blk_grown (g := gb307) (o := .cells #[.slice none 0 0,.string x308001_1,.slice none 0 0,.slice none 0 0] 26 (0,0)) Z352 hg (Kd.R_ne HO_336003.out BK307.out Z355)) (jA (blk_grown (g := gb308) (o := .cells #[.int .i64 x309000_1,.int .i64 x309001_1,.int .i64 x309002_1] 28 (0,0)) Z331 hg (Kd.R_ne HO_336003.out BK308.out Z355)) (jA (blk_grown (g := gb315) (o := .cells #[.int .i64 t327,.int .i64 t328,.int .i64 t329] 28 (0,0)) Z332 hg (Kd.R_ne HO_336003.out BK315.out Z355)) (jA (blk_grown (g := gb335) (o := .cells #[.slice Ao99 t331.length co99,.string (rdOf ByteArray.empty (rd_L2 t309 0) (ji83)),.slice Ao114 x336002_2.length co114,.slice Ao115 x336003_2.length co115] 26 (0,0)) Z333 hg (Kd.R_ne HO_336003.out BK335.out Z355)) (jA (Kd.V_afterv (ok := (fun k_ => (w.heap.size ≤ k_) ∧ some k_ ≠ (.slice (some ad336) t324.length co104 : Value).ownBlock ∧ some k_ ≠ (.slice Ao99 t331.length co99 : Value).ownBlock ∧ some k_ ≠ (v346 : Value).ownBlock ∧ some k_ ≠ (v349 : Value).ownBlock ∧ some k_ ≠ (.slice Ao128 y352.length co128 : Value).ownBlock ∧ k_ ≠ gb307 ∧ k_ ≠ gb308 ∧ k_ ≠ gb315 ∧ k_ ≠ gb335)) (by (with_reducible repeat (first | apply Kd.V_alloc | apply Kd.V_drewN | apply Kd.V_drew));exact Kd.V_mono HL336_0.out (fun _ hk => ⟨⟨hk.1,⟨hk.2.2.2.2.2.2.1,⟨hk.2.2.2.2.1,⟨hk.2.1,⟨hk.2.2.1,⟨hk.2.2.2.1,⟨hk.2.2.2.2.2.2.2.1,⟨hk.2.2.2.2.2.2.2.2.1,⟨hk.2.2.2.2.2.2.2.2.2.1,hk.2.2.2.2.2.2.2.2.2.2⟩⟩⟩⟩⟩⟩⟩⟩⟩,hk.2.2.2.2.2.1⟩)) hg hat) (jA (Kd.V_afterv (ok := (fun k_ => (w.heap.size ≤ k_) ∧ some k_ ≠ (.slice (some ad336) t324.length co104 : Value).ownBlock ∧ some k_ ≠ (.slice Ao99 t331.length co99 : Value).ownBlock ∧ some k_ ≠ (v346 : Value).ownBlock ∧ some k_ ≠ (v349 : Value).ownBlock ∧ some k_ ≠ (.slice Ao128 y352.length co128 : Value).ownBlock ∧ k_ ≠ gb307 ∧ k_ ≠ gb308 ∧ k_ ≠ gb315 ∧ k_ ≠ gb335)) (by (with_reducible repeat (first | apply Kd.V_alloc | apply Kd.V_drewN | apply Kd.V_drew));exact Kd.V_mono HO341.out (fun _ hk => ⟨⟨hk.1,⟨hk.2.2.2.2.2.2.1,⟨hk.2.2.2.2.1,⟨hk.2.1,⟨hk.2.2.1,⟨hk.2.2.2.1,⟨hk.2.2.2.2.2.2.2.1,⟨hk.2.2.2.2.2.2.2.2.1,⟨hk.2.2.2.2.2.2.2.2.2.1,hk.2.2.2.2.2.2.2.2.2.2⟩⟩⟩⟩⟩⟩⟩⟩⟩,hk.2.2.2.2.2.1⟩)) hg hat) (jA (Zn_afterv (ok := (fun k_ => (w.heap.size ≤ k_) ∧ some k_ ≠ (.slice (some ad336) t324.length co104 : Value).ownBlock ∧ some k_ ≠ (.slice Ao99 t331.length co99 : Value).ownBlock ∧ some k_ ≠ (v349 : Value).ownBlock ∧ some k_ ≠ (.slice Ao128 y352.length co128 : Value).ownBlock ∧ k_ ≠ gb307 ∧ k_ ≠ gb308 ∧ k_ ≠ gb315 ∧ k_ ≠ gb335)) (by (with_reducible repeat (first | apply Zn_alloc | apply Zn_drewN | apply Zn_drew));exact Zn_mono HO347.out (fun _ hk => ⟨⟨hk.1,⟨hk.2.2.2.2.2.1,⟨hk.2.2.2.1,⟨hk.2.1,⟨hk.2.2.1,⟨hk.2.2.2.2.2.2.1,⟨hk.2.2.2.2.2.2.2.1,⟨hk.2.2.2.2.2.2.2.2.1,hk.2.2.2.2.2.2.2.2.2⟩⟩⟩⟩⟩⟩⟩⟩,hk.2.2.2.2.1⟩)) hg hat) (jA (Zn_afterv (ok := (fun k_ => (w.heap.size ≤ k_) ∧ some k_ ≠ (.slice (some ad336) t324.length co104 : Value).ownBlock ∧ some k_ ≠ (.slice Ao99 t331.length co99 : Value).ownBlock ∧ some k_ ≠ (.slice Ao128 y352.length co128 : Value).ownBlock ∧ k_ ≠ gb307 ∧ k_ ≠ gb308 ∧ k_ ≠ gb315 ∧ k_ ≠ gb335)) (by (with_reducible repeat (first | apply Zn_alloc | apply Zn_drewN | apply Zn_drew));exact Zn_mono HO350.out (fun _ hk => ⟨⟨hk.1,⟨hk.2.2.2.2.1,⟨hk.2.2.1,⟨hk.2.1,⟨hk.2.2.2.2.2.1,⟨hk.2.2.2.2.2.2.1,⟨hk.2.2.2.2.2.2.2.1,hk.2.2.2.2.2.2.2.2⟩⟩⟩⟩⟩⟩⟩,hk.2.2.2.1⟩)) hg hat) (jA (Kd.R_after (ok := (fun k_ => (w.heap.size ≤ k_))) Z317 hg hat) (jA (hb) (Aside0.mk (ho)))))))))))))
     clear HO_96 HO_336000 BK307 BK308 BK315 BK335 HL336_0 HO341 HO347 HO350 HO354 HB HO_336003
     obtain ⟨HO_96,HO_336000,BK307,BK308,BK315,BK335,HL336_0,HO341,HO347,HO350,HO354,HB,HO357⟩ := n_
     clear ho hb hg hat
     obtain ⟨Ao129,co129,eo129⟩ := Zn_slice HO350.out
     (first | subst eo129 | (injection eo129 with f1_ f2_ f3_;have f4_ := f1_.symm;have f5_ := f3_.symm;clear f1_ f2_ f3_;subst f4_;subst f5_))
     obtain ⟨Ao131,co131,eo131⟩ := Kd.R_slice HO357.out
     (first | subst eo131 | (injection eo131 with f1_ f2_ f3_;have f4_ := f1_.symm;have f5_ := f3_.symm;clear f1_ f2_ f3_;subst f4_;subst f5_))
     refine hK.out _ _ ⟨bc BK335 0,bc BK335 1,bc BK335 2,bc BK335 3,HS4_⟩ (fun hHeld => ?_)
     clear hK K
     refine rN (h := ?_)
     refine last_ (i := 17) (N := none) (qM 20 262143) rfl rfl (one_of HT_.out Z253) Z355 (fun K hK => ?_)
     have hs130 : w127.cell? ⟨gb335,2,none⟩ = some (.slice Ao114 x336002_2.length co114) := bc BK335 2
     have hfs130 := blk_frozen BK335.out 2
     have hns130_0 := NB307_335.out
     have hns130_1 := NB308_335.out
     have hns130_2 := NB315_335.out
     have hms130_0 := NB335_307.out
     have hms130_1 := NB335_308.out
     have hms130_2 := NB335_315.out
     refine skip_ (w1 := ?_) Z255 rfl ?_ ?_
     rotate_left
     ·go_simp
      rfl
     refine hK.out _ _ ?_
     clear hK K
     refine rP 18 119 20 524287 HT_ (h := ?_)
     refine last_ (i := 19) (N := none) (qM 20 1048575) rfl rfl (one_of HT_.out Z253) Z355 (fun K hK => ?_)
     have hs132 : w127.cell? ⟨gb335,3,none⟩ = some (.slice Ao115 x336003_2.length co115) := bc BK335 3
     have hfs132 := blk_frozen BK335.out 3
     have hns132_0 := NB307_335.out
     have hns132_1 := NB308_335.out
     have hns132_2 := NB315_335.out
     have hms132_0 := NB335_307.out
     have hms132_1 := NB335_308.out
     have hms132_2 := NB335_315.out
     refine skip_ (w1 := ?_) Z255 rfl ?_ ?_
     rotate_left
     ·go_simp
      rfl
     refine hK.out _ _ ?_
     clear hK K
     refine done_ (done_of HT_.out Z253) ?_
     try go_wp2
     go_roundg k2
     case measure => have := HK1.out;have := HK2.out;omega
     case rel => exact ⟨(wrap64 (x98_2 + 1)),(y348),(y355),(.slice Ao129 y348.length co129),(.slice Ao131 y355.length co131),(fun k_ => (fun k_ => P0_ k_ ∧ some k_ ≠ (v343 : Value).ownBlock) k_ ∨ (fun k_ => some k_ = (v343 : Value).ownBlock) k_),Z238,H',⟨Z240⟩,⟨by (with_reducible repeat (first | apply Kd.N_alloc | apply Kd.N_drewN | apply Kd.N_drew));exact Kd.N_mono (Kd.N_far (p := ⟨gb335,3,none⟩) (Kd.N_far (p := ⟨gb335,2,none⟩) (Kd.N_mono HO_96.out (fun k_ hk => (⟨hk,hk.1.2.2.2.2.2.2.2.2⟩ : _ ∧ k_ ≠ gb335))) (fun _ hk => hk.2) (.slice Ao129 y348.length co129)) (fun _ hk => hk.2) (.slice Ao131 y355.length co131)) (fun _ hk => ⟨hk.1.1.1,⟨hk.1.1.2.1,⟨hk.1.1.2.2.2.1,⟨hk.1.2,⟨hk.1.1.2.2.2.2.2.1,⟨hk.1.1.2.2.2.2.2.2.1,⟨hk.1.1.2.2.2.2.2.2.2.1,hk.1.1.2.2.2.2.2.2.2.2⟩⟩⟩⟩⟩⟩⟩)⟩,⟨by (with_reducible repeat (first | apply Kd.R_alloc | apply Kd.R_drewN | apply Kd.R_drew));exact Kd.R_mono (Kd.R_far (p := ⟨gb335,3,none⟩) (Kd.R_far (p := ⟨gb335,2,none⟩) (Kd.R_types HO_336000.out BK335.out Z355) (fun _ hk => hk.2) (.slice Ao129 y348.length co129)) (fun _ hk => hk.2) (.slice Ao131 y355.length co131)) (fun _ hk => hk.1)⟩,⟨by (with_reducible repeat (first | apply Zn_alloc | apply Zn_drewN | apply Zn_drew));exact Zn_mono (Zn_far (p := ⟨gb335,3,none⟩) (Zn_far (p := ⟨gb335,2,none⟩) (Zn_mono HO350.out (fun k_ hk => (⟨hk,hk.1.2.2.2.2.2.2.2⟩ : _ ∧ k_ ≠ gb335))) (fun _ hk => hk.2) (.slice Ao129 y348.length co129)) (fun _ hk => hk.2) (.slice Ao131 y355.length co131)) (fun _ hk => ⟨hk.1.1.1,⟨hk.1.1.2.1,⟨hk.1.1.2.2.1,⟨hk.1.2,⟨hk.1.1.2.2.2.2.1,⟨hk.1.1.2.2.2.2.2.1,⟨hk.1.1.2.2.2.2.2.2.1,hk.1.1.2.2.2.2.2.2.2⟩⟩⟩⟩⟩⟩⟩)⟩,⟨by (with_reducible repeat (first | apply Kd.R_alloc | apply Kd.R_drewN | apply Kd.R_drew));exact Kd.R_mono (Kd.R_far (p := ⟨gb335,3,none⟩) (Kd.R_far (p := ⟨gb335,2,none⟩) (Kd.R_types HO357.out BK335.out Z355) (fun _ hk => hk.2) (.slice Ao129 y348.length co129)) (fun _ hk => hk.2) (.slice Ao131 y355.length co131)) (fun _ hk => hk.1.1)⟩,⟨by refine bP ?_;refine blk_far ?_ NB307_335.out _;refine bP ?_;refine blk_far ?_ NB307_335.out _;refine bP ?_;exact BK307.out⟩,⟨by refine bP ?_;refine blk_far ?_ NB308_335.out _;refine bP ?_;refine blk_far ?_ NB308_335.out _;refine bP ?_;exact BK308.out⟩,⟨by refine bP ?_;refine blk_far ?_ NB315_335.out _;refine bP ?_;refine blk_far ?_ NB315_335.out _;refine bP ?_;exact BK315.out⟩,⟨by refine bP ?_;refine blk_put (cs := #[.slice Ao99 t331.length co99,.string (rdOf ByteArray.empty (rd_L2 t309 0) (ji83)),.slice Ao129 y348.length co129,.slice Ao115 x336003_2.length co115]) ?_ 3 _ rfl;refine bP ?_;refine blk_put (cs := #[.slice Ao99 t331.length co99,.string (rdOf ByteArray.empty (rd_L2 t309 0) (ji83)),.slice Ao114 x336002_2.length co114,.slice Ao115 x336003_2.length co115]) ?_ 2 _ rfl;refine bP ?_;exact BK335.out⟩,⟨Z262⟩⟩
theorem impl_ReadTable.calls (k : Nat) (a0 : ByteArray) (r1 : List ByteArray) (r2 : ByteArray) (r3 : List (List Int)) (r4 : List Int) (r5 : Int) (r6 : Int) (r7 : Int) (w : World) (hG : GT w) (h : impl_ReadTable.f k a0 = some (r1,r2,r3,r4,r5,r6,r7)) :
  Calls Tryd.prog 5 #[.string a0] w fun e w' => ∃ v0_ v2_ v3_ : Value,e = .returned (.tuple #[.agg #[v0_,.string r2,v2_,v3_],.agg #[.int .i64 r5,.int .i64 r6,.int .i64 r7]]) ∧ Kd.R Kd.string 9 w' w.heap.size (fun _ => True) v0_ r1 ∧ Kd.S (Kd.slice 3 (Kd.int .i64)) 24 w' w.heap.size (fun k_ => some k_ ≠ (v3_ : Value).ownBlock) v2_ r3 ∧ Kd.R (Kd.int .i64) 3 w' w.heap.size (fun _ => True) v3_ r4 ∧ Below w.heap.size w w' :=
 (impl_ReadTable.calls0 k a0 r1 r2 r3 r4 r5 r6 r7 w hG h).mono fun e w' ⟨v0_,v2_,v3_,he,h0,h2,h3,hb⟩ => ⟨v0_,v2_,v3_,he,Kd.R_mono h0 (fun _ _ => trivial),h2,Kd.R_mono h3 (fun _ _ => trivial),hb⟩

end Go.Proofs.YtepnbcdbagjmbaaDoor.QFnExactReadTable
