/- The machine side of FnTable: what each Go function that it reaches comes to. Conditions: none. -/
import Derived.Test.YtkjbbnijhpldhaaGreatDoorQFnTablex14
import Derived.Test.YtkjbbnijhpldhaaGreatDoorQFnTablex26
namespace Go.Proofs.YtkjbbnijhpldhaaGreatDoor.QFnTable
open Go.RowKit Go.Proofs.YtkjbbnijhpldhaaGreatDoorW.PrintWords Go.Proofs.YtkjbbnijhpldhaaGreatDoorW.PrintLast Go.Proofs.YtkjbbnijhpldhaaGreatDoorW.PrintMore
attribute [local go_sem] oq ou qN qO mr mD ow oz
set_option linter.unusedVariables false
set_option linter.unusedSimpArgs false
set_option maxHeartbeats 8000000
set_option maxRecDepth 100000
def fF.f (bi:List Int) (gL:Int) (mG:Int) (a1:ByteArray):Option (ByteArray × Int × Int):=(bf.f bi gL mG (wrap64 ((a1.size:Int)+1))).bind fun DU=>((bf.f bi DU.2.1 DU.2.2 6).bind fun Lb=>(if Lb.1=0 then (if 0≤DU.1 then (if DU.1≤(a1.size:Int) then ((lH.f bi Lb.2.1 Lb.2.2 (([(⟨#[34]⟩:ByteArray),(⟨#[44]⟩:ByteArray),(⟨#[10]⟩:ByteArray),(⟨#[13]⟩:ByteArray),(⟨#[13,10]⟩:ByteArray),(⟨#[120]⟩:ByteArray),(⟨#[34,34]⟩:ByteArray),(⟨#[48]⟩:ByteArray),(⟨#[46]⟩:ByteArray)]:List ByteArray))).bind fun Vp=>(if (a1.extract 0 (DU.1:Int).toNat).size+Vp.1.size≤9223372036854775807 then (if ((a1.extract 0 (DU.1:Int).toNat)++Vp.1).size+(a1.extract (DU.1:Int).toNat a1.size).size≤9223372036854775807 then (some (((a1.extract 0 (DU.1:Int).toNat)++Vp.1)++(a1.extract (DU.1:Int).toNat a1.size),Vp.2.1,Vp.2.2)) else (none)) else (none))) else (none)) else (none)) else (if Lb.1=1 then (if 0≤DU.1 then (if DU.1≤(a1.size:Int) then (some (a1.extract 0 (DU.1:Int).toNat,Lb.2.1,Lb.2.2)) else (none)) else (none)) else (some (a1,Lb.2.1,Lb.2.2)))))
def fF.T4:Bool × List (List Nat × List Nat):=(true,[([],[]),([],[]),([0,1],[0,1]),([],[]),([],[]),([3,4],[3,4]),([2,5],[2,5]),([],[]),([],[]),([7,8],[7,8]),([6,9],[6,9]),([10,5,0,1,2,3,4,5,6,7,8,9,10],[10])])
def fF.B4:List Nat:=[0,0,3,0,0,24,63,0,0,384,1023,2047]
theorem fF.aj1:o_ .any (opsOf Tryz.f45 4)=fF.T4:=by kernel_rfl
theorem fF.Zq:lq fF.T4.2 fF.B4=true:=by kernel_rfl
theorem fF.calls {g:Nat} {bi:List Int} {gL:Int} {mG:Int} {a1:ByteArray} {r1:ByteArray} {r2:Int} {r3:Int} (w0 w:World) (hI:ag w0 w g bi gL mG) (hB:Below w0.heap.size w0 w) (h:fF.f bi gL mG a1=some (r1,r2,r3)):
  Calls Tryz.prog 45 #[.pointer (some ⟨g,0,none⟩),.string a1] w fun e w'=>e=.returned (.string r1)∧ag w0 w' g bi r2 r3∧Below w0.heap.size w0 w'∧aA w w' g none:=by
 have HI0:=jC hI;have HK:=jC (aA.refl w g none);have HL:=jC hB.size;clear hI;have HW0:=jC hB.size;have HB:=jC hB;clear hB;have H:=h;clear h;unfold fF.f at H;obtain ⟨⟨afY,a2R,a2S⟩,A3,H⟩:=bd H
 try dsimp only at H
 obtain ⟨⟨a2T,a2U,a2V⟩,A4,H⟩:=bd H
 try dsimp only at H
 replace H:=iE H;obtain ⟨oZ,GY,c5,H⟩|⟨oZ,GY,-,H⟩:=H
 ·replace H:=iE H;obtain ⟨yN,K7,c20,H⟩|⟨yN,K7,-,H⟩:=H
  ·simp only[Option.some.injEq,Prod.mk.injEq] at H;obtain ⟨rfl,rfl,rfl⟩:=H;go_enter Tryz.func45,Tryz.ntmps45
   go_wp2_with (first|(refine gC 10 Tryz.func42 #[.pointer (some ⟨g,0,none⟩),.int .i64 (wrap64 ((a1.size:Int)+1))] (bf.calls w0 _ ?ai ?aj A3.o) (h:=?_);(case ai=>exact nk);(case aj=>exact nQ);rintro e wC ⟨rfl,hi,hb,hk⟩;refine ⟨_,rfl,?_⟩;have n_:=vT;clear HK HB HI0;obtain ⟨HK,HB,HI0⟩:=n_)|(refine gC 12 Tryz.func42 #[.pointer (some ⟨g,0,none⟩),.int .i64 6] (bf.calls w0 _ ?ai ?aj A4.o) (h:=?_);(case ai=>exact nk);(case aj=>exact nQ);rintro e wq2 ⟨rfl,hi,hb,hk⟩;refine ⟨_,rfl,?_⟩;have n_:=vT;clear HK HB HI0;obtain ⟨HK,HB,HI0⟩:=n_))
   go_ret;exact ⟨fT,nk,nQ,qy⟩
  obtain ⟨c21,H⟩:=nD H;have Ii:=fO c21;have Qb:=rM c21;clear c21;obtain ⟨c22,H⟩:=nD H;have aoB:=fO c22;have aEt:=rM c22;clear c22;simp only[Option.some.injEq,Prod.mk.injEq] at H;obtain ⟨rfl,rfl,rfl⟩:=H;go_enter Tryz.func45,Tryz.ntmps45
  go_wp2_with (first|(refine gC 10 Tryz.func42 #[.pointer (some ⟨g,0,none⟩),.int .i64 (wrap64 ((a1.size:Int)+1))] (bf.calls w0 _ ?ai ?aj A3.o) (h:=?_);(case ai=>exact nk);(case aj=>exact nQ);rintro e wC ⟨rfl,hi,hb,hk⟩;refine ⟨_,rfl,?_⟩;have n_:=vT;clear HK HB HI0;obtain ⟨HK,HB,HI0⟩:=n_)|(refine gC 12 Tryz.func42 #[.pointer (some ⟨g,0,none⟩),.int .i64 6] (bf.calls w0 _ ?ai ?aj A4.o) (h:=?_);(case ai=>exact nk);(case aj=>exact nQ);rintro e wq2 ⟨rfl,hi,hb,hk⟩;refine ⟨_,rfl,?_⟩;have n_:=vT;clear HK HB HI0;obtain ⟨HK,HB,HI0⟩:=n_))
  go_ret;exact ⟨fT,nk,nQ,qy⟩
 obtain ⟨c6,H⟩:=nD H;have vU:=fO c6;have Us:=rM c6;clear c6;obtain ⟨c7,H⟩:=nD H;have D9:=fO c7;have Re:=rM c7;clear c7;generalize hyy:(([(⟨#[34]⟩:ByteArray),(⟨#[44]⟩:ByteArray),(⟨#[10]⟩:ByteArray),(⟨#[13]⟩:ByteArray),(⟨#[13,10]⟩:ByteArray),(⟨#[120]⟩:ByteArray),(⟨#[34,34]⟩:ByteArray),(⟨#[48]⟩:ByteArray),(⟨#[46]⟩:ByteArray)]:List ByteArray))=aRz at H;have aoC:=jC hyy.symm;clear hyy;obtain ⟨⟨aEu,a2W,a2X⟩,A8,H⟩:=bd H
 try dsimp only at H
 obtain ⟨c9,H⟩:=nD H;have G6:=fO c9;have ab5:=rM c9
 try have aNg:(9223372036854775807<(a1.extract 0 (afY:Int).toNat).size+aEu.size)=False:=eq_false (Nat.not_lt.2 c9)
 have vC:=fO (oT bL:0≤afY);have yA:=fO (oT bL:afY≤(a1.size:Int));obtain ⟨c12,H⟩:=nD H;have DL:=fO c12;have ayV:=rM c12
 try have amH:(9223372036854775807<((a1.extract 0 (afY:Int).toNat)++aEu).size+(a1.extract (afY:Int).toNat a1.size).size)=False:=eq_false (Nat.not_lt.2 c12)
 try (have adk:=amH;simp only[ByteArray.size_append] at adk)
 try (have aEv:=adk;simp only[show ∀b_:UInt8,(⟨#[b_]⟩:ByteArray).size=1 from fun _=>rfl] at aEv)
 simp only[Option.some.injEq,Prod.mk.injEq] at H;obtain ⟨rfl,rfl,rfl⟩:=H;go_enter Tryz.func45,Tryz.ntmps45
 try go_wp2_with (first|(refine gC 10 Tryz.func42 #[.pointer (some ⟨g,0,none⟩),.int .i64 (wrap64 ((a1.size:Int)+1))] (bf.calls w0 _ ?ai ?aj A3.o) (h:=?_);(case ai=>exact nk);(case aj=>exact nQ);rintro e Y9 ⟨rfl,hi,hb,hk⟩;refine ⟨_,rfl,?_⟩;have n_:=vT;clear HK HB HI0;obtain ⟨HK,HB,HI0⟩:=n_)|(refine gC 12 Tryz.func42 #[.pointer (some ⟨g,0,none⟩),.int .i64 6] (bf.calls w0 _ ?ai ?aj A4.o) (h:=?_);(case ai=>exact nk);(case aj=>exact nQ);rintro e Xi ⟨rfl,hi,hb,hk⟩;refine ⟨_,rfl,?_⟩;have n_:=vT;clear HK HB HI0;obtain ⟨HK,HB,HI0⟩:=n_))
 have n_:=jA (ag.drew HI0.o) (jA (oN HK.o) (jC (aU HB.o)));clear HI0 HK HB;obtain ⟨HI0,HK,HB⟩:=n_;refine iZ (n:=12) (S:=fun w'=>True) (ds:=[]) (qM 12 0) bD rfl (by kernel_rfl) trivial (fun hHeld=>?_);refine fZ fF.aj1 fF.Zq (fun HT_ HW_=>?_);generalize Xi.drew=Zf at HI0 HK HB hHeld ⊢;refine BN (i:=0) (N:=some 15) (v:=?_) (a':=?_) (qM 12 1) rfl rfl (y_ HT_.o bD) (fun _ _ _ h=>h) (Or.inl ⟨ek,?_⟩) ?_ ?_;rotate_left
 ·intro w'
  go_simp
  first
   |with_reducible rfl
   |(rw[if_neg Z21]<;>with_reducible rfl)
 rotate_left
 ·simp only[Act.put,List.setIfInBounds_toArray,List.set_cons_zero,List.set_cons_succ,jT,kS]
  rfl
 refine BN (i:=1) (N:=some 16) (v:=?_) (a':=?_) (qM 12 3) rfl rfl (y_ HT_.o bD) (fun _ _ _ h=>h) (Or.inl ⟨ek,?_⟩) ?_ ?_;rotate_left
 ·intro w'
  go_simp
  first
   |with_reducible rfl
   |(rw[if_neg Z21]<;>with_reducible rfl)
 rotate_left
 ·simp only[Act.put,List.setIfInBounds_toArray,List.set_cons_zero,List.set_cons_succ,jT,kS]
  rfl
 refine BN (i:=2) (N:=some 17) (v:=?_) (a':=?_) (qM 12 7) rfl rfl (y_ HT_.o bD) (fun _ _ _ h=>h) (Or.inl ⟨ek,?_⟩) ?_ ?_;rotate_left
 ·intro w'
  go_simp
  first
   |with_reducible rfl
   |(rw[if_neg Z21]<;>with_reducible rfl)
 rotate_left
 ·simp only[Act.put,List.setIfInBounds_toArray,List.set_cons_zero,List.set_cons_succ,jT,kS]
  rfl
 refine BN (i:=3) (N:=some 18) (v:=?_) (a':=?_) (qM 12 15) rfl rfl (y_ HT_.o bD) (fun _ _ _ h=>h) (Or.inl ⟨ek,?_⟩) ?_ ?_;rotate_left
 ·intro w'
  go_simp
  first
   |with_reducible rfl
   |(rw[if_neg Z21]<;>with_reducible rfl)
 rotate_left
 ·simp only[Act.put,List.setIfInBounds_toArray,List.set_cons_zero,List.set_cons_succ,jT,kS]
  rfl
 refine BN (i:=7) (N:=some 22) (v:=?_) (a':=?_) (qM 12 143) rfl rfl (y_ HT_.o bD) (fun _ _ _ h=>h) (Or.inl ⟨ek,?_⟩) ?_ ?_;rotate_left
 ·intro w'
  go_simp
  first
   |with_reducible rfl
   |(rw[if_neg Z21]<;>with_reducible rfl)
 rotate_left
 ·simp only[Act.put,List.setIfInBounds_toArray,List.set_cons_zero,List.set_cons_succ,jT,kS]
  rfl
 refine BN (i:=8) (N:=some 23) (v:=?_) (a':=?_) (qM 12 399) rfl rfl (y_ HT_.o bD) (fun _ _ _ h=>h) (Or.inl ⟨ek,?_⟩) ?_ ?_;rotate_left
 ·intro w'
  go_simp
  first
   |with_reducible rfl
   |(rw[if_neg Z21]<;>with_reducible rfl)
 rotate_left
 ·simp only[Act.put,List.setIfInBounds_toArray,List.set_cons_zero,List.set_cons_succ,jT,kS]
  rfl
 refine BN (i:=9) (N:=some 24) (v:=?_) (a':=?_) (qM 12 911) rfl rfl (y_ HT_.o bD) (fun _ _ _ h=>h) (Or.inl ⟨ek,?_⟩) ?_ ?_;rotate_left
 ·intro w'
  go_simp
  first
   |with_reducible rfl
   |(rw[if_neg Z21]<;>with_reducible rfl)
 rotate_left
 ·simp only[Act.put,List.setIfInBounds_toArray,List.set_cons_zero,List.set_cons_succ,jT,kS]
  rfl
 refine rO 4 (h:=fun K hK=>?_);refine Kd.gJ Kd.string _ 9 ?hg (N:=19) ?hd (xs:=([(⟨#[34]⟩:ByteArray),(⟨#[44]⟩:ByteArray),(⟨#[10]⟩:ByteArray),(⟨#[13]⟩:ByteArray),(⟨#[13,10]⟩:ByteArray),(⟨#[120]⟩:ByteArray),(⟨#[34,34]⟩:ByteArray),(⟨#[48]⟩:ByteArray),(⟨#[46]⟩:ByteArray)]:List ByteArray)) (inner:=[.string (⟨#[34]⟩:ByteArray),.string (⟨#[44]⟩:ByteArray),.string (⟨#[10]⟩:ByteArray),.string (⟨#[13]⟩:ByteArray),.string (⟨#[13,10]⟩:ByteArray),.string (⟨#[120]⟩:ByteArray),.string (⟨#[34,34]⟩:ByteArray),.string (⟨#[48]⟩:ByteArray),.string (⟨#[46]⟩:ByteArray)]) (ok:=fun _=>True) (okp:=fun _=>True) ?hr ?hp rE trivial (Below.refl _ _) (Nat.le_refl _) gQ ?_;(case hd=>rfl);(case hg=>rfl);(case hr=>exact kz);(case hp=>exact (d_.one (show Kd.M Kd.string _ _ _ (⟨#[34]⟩:ByteArray) [.string (⟨#[34]⟩:ByteArray)] from rfl) (d_.one (show Kd.M Kd.string _ _ _ (⟨#[44]⟩:ByteArray) [.string (⟨#[44]⟩:ByteArray)] from rfl) (d_.one (show Kd.M Kd.string _ _ _ (⟨#[10]⟩:ByteArray) [.string (⟨#[10]⟩:ByteArray)] from rfl) (d_.one (show Kd.M Kd.string _ _ _ (⟨#[13]⟩:ByteArray) [.string (⟨#[13]⟩:ByteArray)] from rfl) (d_.one (show Kd.M Kd.string _ _ _ (⟨#[13,10]⟩:ByteArray) [.string (⟨#[13,10]⟩:ByteArray)] from rfl) (d_.one (show Kd.M Kd.string _ _ _ (⟨#[120]⟩:ByteArray) [.string (⟨#[120]⟩:ByteArray)] from rfl) (d_.one (show Kd.M Kd.string _ _ _ (⟨#[34,34]⟩:ByteArray) [.string (⟨#[34,34]⟩:ByteArray)] from rfl) (d_.one (show Kd.M Kd.string _ _ _ (⟨#[48]⟩:ByteArray) [.string (⟨#[48]⟩:ByteArray)] from rfl) (d_.one (show Kd.M Kd.string _ _ _ (⟨#[46]⟩:ByteArray) [.string (⟨#[46]⟩:ByteArray)] from rfl) (d_.none _ _)))))))))));intro a2Y w16 NQ hb hg_ hnew_;clear hg_ hnew_;(first|rw[←aoC.o] at NQ|(simp only[Int.reduceToNat] at NQ;rw[←aoC.o] at NQ));have n_:=jA (Kd.dC NQ (kY (w:=w) (g:=g) (row:=none) qy)) (jA (ag.below nk hb) (jA (aA.trans qy (aA.of_below hb g none) (.inl rfl)) (jC (ae nQ hb))));clear HI0 HK HB;obtain ⟨Vq,HI0,HK,HB⟩:=n_;clear hb NQ;obtain ⟨aeE,abV,Xl⟩:=Kd.bR Vq.o;(first|subst Xl|(injection Xl with lM qz lN;have qA:=lM.symm;have qC:=lN.symm;clear lM qz lN;subst qA;subst qC));refine hK.out _ _ trivial (fun hHeld=>?_);clear hK K;refine rN (h:=?_);refine rO 5 (h:=fun K hK=>?_);refine lY Tryz.func43 bD rfl #[.pointer (some ⟨g,0,none⟩),.slice aeE aRz.length abV] ek rfl rfl ql ?_
 with_reducible refine (lH.calls w0 _ ?ai ?aj ?fI ?gV ?nz A8.o).mono ?_
 (case ai=>exact nk)
 (case aj=>exact nQ)
 (case fI=>repeat (first|exact (Kd.a_ Vq.o).2.2|(with_reducible refine Kd.dF ?_ _)|(with_reducible refine Kd.dG ?_ _)|(with_reducible refine Kd.eQ ?_)))
 (case gV=>exact (Kd.a_ Vq.o).2.1)
 (case nz=>exact xG (ag.own_ne HI0.o Vq.o au))
 rintro e Zc ⟨rfl,hi,hb,hk⟩;refine ⟨_,rfl,?_⟩;have n_:=vT;clear Vq HK HB HI0;obtain ⟨HK,HB,HI0⟩:=n_;(try clear hb);(try clear hb2);(try clear hk);(try clear hi);refine hK.out _ _ trivial (fun hHeld=>?_);clear hK K;refine rN (h:=?_);refine BN (i:=6) (N:=some 21) (v:=?_) (a':=?_) (qM 12 1023) rfl rfl (y_ HT_.o bD) (fun _ _ _ h=>h) (Or.inl ⟨ek,?_⟩) ?_ ?_;rotate_left
 ·intro w'
  go_simp
  first
   |with_reducible rfl
   |(rw[if_neg Z21]<;>with_reducible rfl)
 rotate_left
 ·simp only[Act.put,List.setIfInBounds_toArray,List.set_cons_zero,List.set_cons_succ,jT,kS]
  rfl
 refine BN (i:=10) (N:=some 25) (v:=?_) (a':=?_) (qM 12 2047) rfl rfl (y_ HT_.o bD) (fun _ _ _ h=>h) (Or.inl ⟨ek,?_⟩) ?_ ?_;rotate_left
 ·intro w'
  go_simp
  first
   |with_reducible rfl
   |(rw[if_neg Z21]<;>with_reducible rfl)
 rotate_left
 ·simp only[Act.put,List.setIfInBounds_toArray,List.set_cons_zero,List.set_cons_succ,jT,kS]
  rfl
 refine BN (i:=11) (N:=some 4) (v:=?_) (a':=?_) (qM 12 4095) rfl rfl (y_ HT_.o bD) (fun _ _ _ h=>h) (Or.inl ⟨ek,?_⟩) ?_ ?_;rotate_left
 ·intro w'
  go_simp
  first
   |with_reducible rfl
   |(rw[if_neg Z21]<;>with_reducible rfl)
 rotate_left
 ·simp only[Act.put,List.setIfInBounds_toArray,List.set_cons_zero,List.set_cons_succ,jT,kS]
  rfl
 refine kT (jv HT_.o bD) ?_
 try go_wp2
 go_ret;exact ⟨fT,nk,nQ,qy⟩
def dO.j0:Nat→List (List ByteArray)→Int→Int→Int→List Int→Int→Int→Option (ByteArray)
 |0,_,_,_,_,_,_,_=>none
 |k+1,x5,x7,x8,x33,Fv,Ms,Mt=>if x33=0 then (if 0≤x7 then (if x7<(x5.length:Int) then ((lH.f Fv Ms Mt (([(⟨#[]⟩:ByteArray),(⟨#[120]⟩:ByteArray),(⟨#[97]⟩:ByteArray),(⟨#[49,46,50,51,52,53]⟩:ByteArray),(⟨#[48,49]⟩:ByteArray),(⟨#[45,48]⟩:ByteArray),(⟨#[50,49,52,55,52,56,51,46,54,52,56]⟩:ByteArray),(⟨#[121]⟩:ByteArray)]:List ByteArray))).bind fun afZ=>(if 0≤x8 then (if x8<((aN x5 x7).length:Int) then ((dM.f k (x5.set (x7:Int).toNat ((aN x5 x7).set (x8:Int).toNat afZ.1))).bind fun atl=>((fF.f Fv afZ.2.1 afZ.2.2 atl).bind fun aEw=>(some aEw.1))) else (none)) else (none))) else (none)) else (none)) else (if x33=1 then (if 0≤x7 then (if x7<(x5.length:Int) then (if (aN x5 x7).length<8796093022208 then ((dM.f k (x5.set (x7:Int).toNat ((aN x5 x7)++ [(⟨#[55]⟩:ByteArray)]))).bind fun atm=>((fF.f Fv Ms Mt atm).bind fun aEx=>(some aEx.1))) else (none)) else (none)) else (none)) else (if x33=2 then (if 0≤x7 then (if x7<(x5.length:Int) then (if 0≤x8 then (if x8≤((aN x5 x7).length:Int) then ((dM.f k (x5.set (x7:Int).toNat ((aN x5 x7).take (x8:Int).toNat))).bind fun atn=>((fF.f Fv Ms Mt atn).bind fun aEy=>(some aEy.1))) else (none)) else (none)) else (none)) else (none)) else ((bf.f Fv Ms Mt 2).bind fun Vr=>((vR.f 1 (wrap64 ((x5.length:Int) - 1))).bind fun ach=>(if 0≤(wrap64 (1+(wrap64 (Vr.1 * ach)))) then (if (wrap64 (1+(wrap64 (Vr.1 * ach))))≤(x5.length:Int) then ((dM.f k (x5.take ((wrap64 (1+(wrap64 (Vr.1 * ach)))):Int).toNat)).bind fun af0=>((fF.f Fv Vr.2.1 Vr.2.2 af0).bind fun af1=>(some af1.1))) else (none)) else (none))))))
def dO.f (k:Nat) (l0:List Int):Option (ByteArray):=(kN.f k l0).bind fun IK=>((aM.f k IK.1 IK.2.1 IK.2.2).bind fun Qn=>((bY.f k Qn.1 Qn.2.1 Qn.2.2.1 Qn.2.2.2.1).bind fun af2=>((iN.f IK.1 Qn.2.2.2.2.1 Qn.2.2.2.2.2 3).bind fun Vs=>(if Vs.1=true then ((dQ.f k af2).bind fun Z0=>((bf.f IK.1 Vs.2.1 Vs.2.2 (Z0.1.length:Int)).bind fun Qo=>(if 0≤Qo.1 then (if Qo.1<(Z0.1.length:Int) then ((bf.f IK.1 Qo.2.1 Qo.2.2 ((aN Z0.1 Qo.1).length:Int)).bind fun af3=>((bf.f IK.1 af3.2.1 af3.2.2 4).bind fun af4=>(dO.j0 k Z0.1 Qo.1 af3.1 af4.1 IK.1 af4.2.1 af4.2.2))) else (none)) else (none)))) else ((fF.f IK.1 Vs.2.1 Vs.2.2 af2).bind fun aEz=>(some aEz.1))))))
def dO.T10:Bool × List (List Nat × List Nat):=(true,[([],[]),([],[]),([0,1],[0,1]),([2],[2]),([],[]),([],[]),([],[]),([5,6],[5,6]),([3,4,0,1,2,3,4,5,6,7],[3,4]),([8,7,7,0,1,2,3,4,5,6,7],[7,8])])
def dO.B10:List Nat:=[0,0,3,7,0,0,0,96,255,511]
theorem dO.aEA:o_ .any (opsOf Tryz.f12 10)=dO.T10:=by kernel_rfl
theorem dO.ato:lq dO.T10.2 dO.B10=true:=by kernel_rfl
theorem dO.calls {k:Nat} {A0:Option Addr} {c0:Nat} {l0:List Int} {r:ByteArray} {w:World} (hr0:Kd.C (Kd.int .u8) w A0 l0.length l0) (hc0:l0.length≤c0) (h:dO.f k l0=some r):
  Calls Tryz.prog 12 #[.slice A0 l0.length c0] w fun e w'=>e=.returned (.string r)∧Below w.heap.size w w':=by
 have Xy:=Tryz.underlying33;have t_:=jC hr0;have BI:=jC hc0;clear hr0 hc0;have HB:=jC (Below.refl w.heap.size w);have H:=h;clear h;unfold dO.f at H;obtain ⟨⟨J4,a2Z,a3a⟩,A2,H⟩:=bd H
 try dsimp only at H
 obtain ⟨⟨aEB,aEC,aED,aEE,aRA,aRB⟩,A3,H⟩:=bd H
 try dsimp only at H
 obtain ⟨af2,A4,H⟩:=bd H;obtain ⟨⟨a3b,atp,atq⟩,A5,H⟩:=bd H
 try dsimp only at H
 replace H:=iB H;obtain ⟨rfl,G⟩|⟨rfl,G⟩:=H
 ·have H:=G;clear G;obtain ⟨⟨a3c,a3d,a3e⟩,A86,H⟩:=bd H
  try dsimp only at H
  obtain rfl:=Option.some.inj H;go_enter Tryz.func12,Tryz.ntmps12
  go_wp2_with (first|(refine gC 10 Tryz.func16 #[.slice A0 l0.length c0] (kN.calls w _ ?ai ?aj ?fI A2.o) (h:=?_);(case ai=>exact dn);(case aj=>exact t_.o);(case fI=>exact BI.o);rintro e wC ⟨gq2,rfl,hi,hb,a3f⟩;refine ⟨_,rfl,?_⟩;have n_:=jA (hb) (jC (hi));clear HB;obtain ⟨HB,gZ⟩:=n_)|(refine gC 12 Tryz.func39 #[.pointer (some ⟨gq2,0,none⟩)] (aM.calls w _ ?ai ?aj A3.o) (h:=?_);(case ai=>exact LA);(case aj=>exact D7);rintro e wq4 ⟨vq5,vq6,vq7,rfl,Ls,atr,Ai,hi,hb,hk⟩;refine ⟨_,rfl,?_⟩;have n_:=jA (Kd.dC Ls (ah D7)) (jA (Kd.sZ atr (ah D7)) (jA (Kd.dC Ai (ah D7)) (jA (hb) (jC (hi)))));clear HB gZ;obtain ⟨BR,KU,KV,HB,gZ⟩:=n_;obtain ⟨ae6,U2,U3⟩:=Kd.bR BR.o;subst U3;obtain ⟨Cj,Bc,NR⟩:=Kd.kX KU.o;subst NR;obtain ⟨aEF,aEG,aEH⟩:=Kd.bR KV.o;subst aEH)|(refine gR 13 Tryz.func7 #[.agg #[.slice ae6 aEB.length U2,.string aEC,.slice Cj aED.length Bc,.slice aEF aEE.length aEG]] (bY.calls ?ai ?aj ?fI ?gV ?nz ?tN A4.o) (h:=?_);(case ai=>exact axl);(case aj=>exact (Kd.a_ BR.o).2.1);(case fI=>exact axh);(case gV=>exact (Kd.fe KU.o).2.1);(case nz=>exact axk);(case tN=>exact (Kd.a_ KV.o).2.1);intro a3i hb;have n_:=jA (ag.below LA hb) (jC (ae D7 hb));clear BR KU KV gZ HB;obtain ⟨gZ,HB⟩:=n_)|(refine gC 15 Tryz.func40 #[.pointer (some ⟨gq2,0,none⟩),.int .i64 3] (iN.calls w _ ?ai ?aj A5.o) (h:=?_);(case ai=>exact LA);(case aj=>exact D7);rintro e a3j ⟨rfl,hi,hb,hk⟩;refine ⟨_,rfl,?_⟩;have n_:=jA (hb) (jC (hi));clear HB gZ;obtain ⟨HB,gZ⟩:=n_)|(refine gC 81 Tryz.func45 #[.pointer (some ⟨gq2,0,none⟩),.string af2] (fF.calls w _ ?ai ?aj A86.o) (h:=?_);(case ai=>exact LA);(case aj=>exact D7);rintro e a3k ⟨rfl,hi,hb,hk⟩;refine ⟨_,rfl,?_⟩;have n_:=jA (hb) (jC (hi));clear HB gZ;obtain ⟨HB,gZ⟩:=n_))
  go_ret;exact ⟨fT,D7⟩
 have H:=G;clear G;obtain ⟨⟨nC,aEI,aEJ,aEK⟩,A7,H⟩:=bd H
 try dsimp only at H
 obtain ⟨⟨mX,aRD,aRE⟩,A8,H⟩:=bd H
 try dsimp only at H
 obtain ⟨G6,-,H⟩:=l5 H;obtain ⟨vC,-,H⟩:=l5 H;obtain ⟨⟨LU,aRF,aRG⟩,Q6,H⟩:=bd H
 try dsimp only at H
 have att:=jC H;clear H;go_enter Tryz.func12,Tryz.ntmps12
 go_upto_region 7 with (first|(refine gC 10 Tryz.func16 #[.slice A0 l0.length c0] (kN.calls w _ ?ai ?aj ?fI A2.o) (h:=?_);(case ai=>exact dn);(case aj=>exact t_.o);(case fI=>exact BI.o);rintro e Y9 ⟨zi,rfl,hi,hb,hb2⟩;refine ⟨_,rfl,?_⟩;have n_:=jA (hb) (jC (hi));clear HB;obtain ⟨HB,gZ⟩:=n_)|(refine gC 12 Tryz.func39 #[.pointer (some ⟨zi,0,none⟩)] (aM.calls w _ ?ai ?aj A3.o) (h:=?_);(case ai=>exact LA);(case aj=>exact D7);rintro e Xi ⟨a3l,a3m,a3n,rfl,ho0,ho1,ho2,hi,hb,hk⟩;refine ⟨_,rfl,?_⟩;have n_:=jA (Kd.dC ho0 (ah D7)) (jA (Kd.sZ ho1 (ah D7)) (jA (Kd.dC ho2 (ah D7)) (jA (hb) (jC (hi)))));clear HB gZ;obtain ⟨BR,KU,KV,HB,gZ⟩:=n_;obtain ⟨Pb,LM,UV⟩:=Kd.bR BR.o;subst UV;obtain ⟨XN,XO,acf⟩:=Kd.kX KU.o;subst acf;obtain ⟨LJ,JO,abP⟩:=Kd.bR KV.o;subst abP)|(refine gR 13 Tryz.func7 #[.agg #[.slice Pb aEB.length LM,.string aEC,.slice XN aED.length XO,.slice LJ aEE.length JO]] (bY.calls ?ai ?aj ?fI ?gV ?nz ?tN A4.o) (h:=?_);(case ai=>exact axl);(case aj=>exact (Kd.a_ BR.o).2.1);(case fI=>exact axh);(case gV=>exact (Kd.fe KU.o).2.1);(case nz=>exact axk);(case tN=>exact (Kd.a_ KV.o).2.1);intro w18 hb;have n_:=jA (Kd.bX aqG hb) (jA (ag.below LA hb) (jC (ae D7 hb)));clear BR KU KV gZ HB;obtain ⟨BR,gZ,HB⟩:=n_)|(refine gC 15 Tryz.func40 #[.pointer (some ⟨zi,0,none⟩),.int .i64 3] (iN.calls w _ ?ai ?aj A5.o) (h:=?_);(case ai=>exact LA);(case aj=>exact D7);rintro e Zc ⟨rfl,hi,hb,hk⟩;refine ⟨_,rfl,?_⟩;have n_:=jA (Kd.aD (Kd.ky (ag.apart (show ag w _ zi J4 aRA aRB from LA) aqG au) hk mV) oI) (jA (hb) (jC (hi)));clear BR HB gZ;obtain ⟨BR,HB,gZ⟩:=n_)|(refine gC 18 Tryz.func41 #[.string af2] (dQ.calls A7.o) (h:=?_);rintro e w20 ⟨a3o,rfl,ho0,hb⟩;refine ⟨_,rfl,?_⟩;have n_:=jA (Kd.sZ (Kd.Dk ho0 (Kd.iY aqG)) (ah D7)) (jA (ag.below LA hb) (jC (ae D7 hb)));clear BR gZ HB;obtain ⟨Ac,gZ,HB⟩:=n_)|((with_reducible refine aG (N:=6) rfl ?_);refine bE 6 #[.int .i64 0,.int .i64 0,.int .i64 0] 33 (h:=?_);intro Vt hg w21 hbox hb;have n_:=jA (Kd.nY aqE hb) (jA (ag.below LA hb) (jA (ae D7 hb) (jA (hbox) (jA ((by rw[hg];exact (ah D7):w.heap.size≤Vt)) (jA ((by rw[hg];exact Nat.ne_of_lt (ag.lt (show ag w _ zi J4 atp atq from LA)):zi≠Vt)) (jC ((by rw[hg];exact Nat.ne_of_gt (ag.lt (show ag w _ zi J4 atp atq from LA)):Vt≠zi))))))));clear Ac gZ HB;obtain ⟨Ac,gZ,HB,yT,amX,BQ,Fw⟩:=n_;clear hb hbox hg;have ay4:=Fw.o;have ay5:=BQ.o;obtain ⟨_,_,_,_,_,_⟩:=cells3 yT.o;obtain ⟨akQ,J5,akR⟩:=Kd.kX Ac.o;subst akR)|(refine gC 24 Tryz.func42 #[.pointer (some ⟨zi,0,none⟩),.int .i64 (nC.length:Int)] (bf.calls w _ ?ai ?aj A8.o) (h:=?_);(case ai=>exact D6);(case aj=>exact CU);rintro e V9 ⟨rfl,hi,hb,hk⟩;refine ⟨_,rfl,?_⟩;have n_:=jA (Kd.gu (Kd.rC (ag.qD (show ag w _ zi J4 atp atq from D6) (by refine pS ?_;exact (fS3 Ac.o yT.o au)) au) hk mV) oI) (jA (aA.blk hk (g':=Vt) (o:=.cells #[.int .i64 aEI,.int .i64 aEJ,.int .i64 aEK] 33 (0,0)) (by refine bP ?_;exact sH (sH (sH (yT.o)))) Fw.o gQ) (jA (hb) (jC (hi))));clear Ac yT HB gZ;obtain ⟨Ac,yT,HB,gZ⟩:=n_;have akS:0≤(mX:Int):=oT bL;have akT:mX<(nC.length:Int):=oT bL;obtain ⟨Lc,aRH,aRI,aRJ,Mv,Z_,aaa⟩:=zu (Kd.fe Ac.o).2.2 mX akS akT;cases aRJ;obtain ⟨aYh,atu,atv,af5⟩:=Kd.Bd Ac.o [] mX akS (by first|exact akT|exact oT bL|(have e_:=(Kd.fe Ac.o).1;omega));obtain ⟨aL7,rfl,RS⟩:=atv;have IL:=af5 0 _ rfl;rw[Nat.add_zero,show ((Kd.slice 9 Kd.string)).sz=1 from rfl,Nat.mul_one] at IL;replace IL:=Option.some.inj (IL.symm.trans Mv);rw[IL] at RS;have akU:=jC (show Kd.R Kd.string 9 _ _ _ _ (aN nC mX) from RS);clear IL RS;have akV:=jC Mv;clear af5 atu;have aL8:=jC aaa;have aL9:=jC Z_;clear aaa Z_;replace akS:=fO akS;replace akT:=fO akT)|(refine gC 31 Tryz.func42 #[.pointer (some ⟨zi,0,none⟩),.int .i64 ((aN nC mX).length:Int)] (bf.calls w _ ?ai ?aj Q6.o) (h:=?_);(case ai=>exact D6);(case aj=>exact CU);rintro e w26 ⟨rfl,hi,hb,hk⟩;refine ⟨_,rfl,?_⟩;have n_:=jA (Kd.gu (Kd.rC (ag.qD (show ag w _ zi J4 aRD aRE from D6) aqE au) hk mV) oI) (jA (uz hk yT Fw.o gQ) (jA (hb) (jC (hi))));clear Ac yT akU akV HB gZ;obtain ⟨Ac,yT,HB,gZ⟩:=n_))
 (try simp only[Act.put,List.setIfInBounds_toArray,List.set_cons_zero,List.set_cons_succ])
 go_cut [33] (fun v33 wc=>∃(kq:Nat) (XQ:Int) (xP:Int) (xQ:Int),v33=.int .i64 XQ∧aa (dO.j0 kq nC mX LU XQ J4 xP xQ=some r)∧aa (kq≤k)∧aa (Kd.S (Kd.slice 9 Kd.string) 24 wc w.heap.size (fun _=>True) (.slice (some Lc) nC.length J5) nC)∧aa (wc.heap[Vt]?=some (.cells #[.int .i64 aEI,.int .i64 aEJ,.int .i64 aEK] 33 (0,0)))∧aa (ag w wc zi J4 xP xQ)∧aa (Below w.heap.size w wc))
 case first=>
  have H:=att.o;clear att;obtain ⟨⟨aRK,aRL,aRM⟩,A27,H⟩:=bd H
  try dsimp only at H
  have H':=jC H;clear H
  go_wp2_with (first|(refine gC 33 Tryz.func42 #[.pointer (some ⟨zi,0,none⟩),.int .i64 4] (bf.calls w _ ?ai ?aj A27.o) (h:=?_);(case ai=>exact D6);(case aj=>exact CU);rintro e w28 ⟨rfl,hi,hb,hk⟩;refine ⟨_,rfl,?_⟩;have n_:=jA (Kd.gu (Kd.rC (ag.qD (show ag w _ zi J4 aRF aRG from D6) aqE au) hk mV) oI) (jA (uz hk yT Fw.o gQ) (jA (hb) (jC (hi))));clear Ac yT HB gZ;obtain ⟨Ac,yT,HB,gZ⟩:=n_))
  go_meet
  case rel=>exact ⟨_,(aRK),(aRL),(aRM),bT,H',⟨Au⟩,⟨by refine pS ?_;exact Kd.gu Ac.o o8⟩,⟨by refine bP ?_;exact yT.o⟩,⟨D6⟩,⟨CU⟩⟩
 case rest=>
  clear att
  try clear hx7
  try clear Mv
  obtain ⟨kq,XQ,xP,xQ,rfl,HA,a3p,gK,yT,gZ,HB⟩:=hcut
  cases kq with
  |zero=>exact absurd HA.o (by simp [dO.j0])
  |succ aRN=>
   have H:=HA.o;clear HA;simp only[dO.j0] at H
   replace H:=jE H;obtain ⟨afP,aEL,-,H⟩|⟨afP,aEL,c29,H⟩:=H
   ·obtain ⟨aYi,-,H⟩:=l5 H;obtain ⟨P7,-,H⟩:=l5 H;generalize hyy:(([(⟨#[]⟩:ByteArray),(⟨#[120]⟩:ByteArray),(⟨#[97]⟩:ByteArray),(⟨#[49,46,50,51,52,53]⟩:ByteArray),(⟨#[48,49]⟩:ByteArray),(⟨#[45,48]⟩:ByteArray),(⟨#[50,49,52,55,52,56,51,46,54,52,56]⟩:ByteArray),(⟨#[121]⟩:ByteArray)]:List ByteArray))=atw at H;have aoD:=jC hyy.symm;clear hyy;obtain ⟨⟨atx,aRO,aRP⟩,A32,H⟩:=bd H
    try dsimp only at H
    obtain ⟨ZV,-,H⟩:=l5 H;obtain ⟨anf,-,H⟩:=l5 H;generalize hyy:((aN nC mX).set (LU:Int).toNat atx)=aEM at H;have aEN:=jC hyy.symm;clear hyy;generalize hyy:(nC.set (mX:Int).toNat aEM)=aty at H;have aEO:=jC hyy.symm;clear hyy;obtain ⟨atl,A36,H⟩:=bd H;obtain ⟨⟨a3s,a3t,a3u⟩,A37,H⟩:=bd H
    try dsimp only at H
    obtain rfl:=Option.some.inj H
    try go_wp2
    have n_:=jA (Kd.zZ gK.o) (jA (ag.drew gZ.o) (jC (aU HB.o)));clear gK yT gZ HB;obtain ⟨gK,gZ,HB⟩:=n_;obtain ⟨akW,akX⟩:=zdL (l:=nC) (i:=mX);obtain ⟨aEP,atz,atA,aRQ,IM,aab,aac⟩:=zu (Kd.fe gK.o).2.2 mX akW akX;obtain rfl:Lc=aEP:=(by injection aRQ);obtain ⟨aYj,atB,atC,af6⟩:=Kd.Bd gK.o [] mX akW (by first|exact akX|exact oT bL|(have e_:=(Kd.fe gK.o).1;omega));obtain ⟨aMa,rfl,RU⟩:=atC;have IP:=af6 0 _ rfl;rw[Nat.add_zero,show ((Kd.slice 9 Kd.string)).sz=1 from rfl,Nat.mul_one] at IP;replace IP:=Option.some.inj (IP.symm.trans IM);rw[IP] at RU;have zF:=jC (show Kd.R Kd.string 9 _ _ _ _ (aN nC mX) from RU);clear IP RU;have Be:=jC IM;clear af6 atB;have aad:=jC aac;have aMb:=jC aab;clear aac aab;replace akW:=fO akW;replace akX:=fO akX;refine iZ (n:=10) (S:=fun w'=>w'.cell? (Lc.add (mX).toNat)=some (.slice atz (aN nC mX).length atA)) (ds:=[9]) (qM 10 0) bD rfl (by kernel_rfl) (IM) (fun hHeld=>?_);refine fZ dO.aEA dO.ato (fun HT_ HW_=>?_);generalize wc.drew=S_ at gK gZ HB zF aad Be IM hHeld ⊢;refine rP 0 (h:=?_);refine rP 1 (h:=?_);refine rP 2 (h:=?_);refine rP 4 (h:=?_);refine rP 5 (h:=?_);refine DC (i:=3) (N:=some 49) (v:=?_) (a':=?_) (qM 10 63) rfl rfl (zY HT_.o HW_.o bD) (fun _ _ _ h=>h) (Or.inl ⟨ek,?_⟩) hHeld ?_ ?_;rotate_left
    ·intro w' s0
     go_simp
     with_reducible rfl
    rotate_left
    ·simp only[Act.put,List.setIfInBounds_toArray,List.set_cons_zero,List.set_cons_succ,jT,kS]
     rfl
    refine rO 6 (h:=fun K hK=>?_);refine Kd.gJ Kd.string _ 9 ?hg (N:=52) ?hd (xs:=([(⟨#[]⟩:ByteArray),(⟨#[120]⟩:ByteArray),(⟨#[97]⟩:ByteArray),(⟨#[49,46,50,51,52,53]⟩:ByteArray),(⟨#[48,49]⟩:ByteArray),(⟨#[45,48]⟩:ByteArray),(⟨#[50,49,52,55,52,56,51,46,54,52,56]⟩:ByteArray),(⟨#[121]⟩:ByteArray)]:List ByteArray)) (inner:=[.string (⟨#[]⟩:ByteArray),.string (⟨#[120]⟩:ByteArray),.string (⟨#[97]⟩:ByteArray),.string (⟨#[49,46,50,51,52,53]⟩:ByteArray),.string (⟨#[48,49]⟩:ByteArray),.string (⟨#[45,48]⟩:ByteArray),.string (⟨#[50,49,52,55,52,56,51,46,54,52,56]⟩:ByteArray),.string (⟨#[121]⟩:ByteArray)]) (ok:=fun _=>True) (okp:=fun _=>True) ?hr ?hp rE trivial (Below.refl _ _) (Nat.le_refl _) gQ ?_;(case hd=>rfl);(case hg=>rfl);(case hr=>exact kz);(case hp=>exact (d_.one (show Kd.M Kd.string _ _ _ (⟨#[]⟩:ByteArray) [.string (⟨#[]⟩:ByteArray)] from rfl) (d_.one (show Kd.M Kd.string _ _ _ (⟨#[120]⟩:ByteArray) [.string (⟨#[120]⟩:ByteArray)] from rfl) (d_.one (show Kd.M Kd.string _ _ _ (⟨#[97]⟩:ByteArray) [.string (⟨#[97]⟩:ByteArray)] from rfl) (d_.one (show Kd.M Kd.string _ _ _ (⟨#[49,46,50,51,52,53]⟩:ByteArray) [.string (⟨#[49,46,50,51,52,53]⟩:ByteArray)] from rfl) (d_.one (show Kd.M Kd.string _ _ _ (⟨#[48,49]⟩:ByteArray) [.string (⟨#[48,49]⟩:ByteArray)] from rfl) (d_.one (show Kd.M Kd.string _ _ _ (⟨#[45,48]⟩:ByteArray) [.string (⟨#[45,48]⟩:ByteArray)] from rfl) (d_.one (show Kd.M Kd.string _ _ _ (⟨#[50,49,52,55,52,56,51,46,54,52,56]⟩:ByteArray) [.string (⟨#[50,49,52,55,52,56,51,46,54,52,56]⟩:ByteArray)] from rfl) (d_.one (show Kd.M Kd.string _ _ _ (⟨#[121]⟩:ByteArray) [.string (⟨#[121]⟩:ByteArray)] from rfl) (d_.none _ _))))))))));intro a3w w39 XR hb hg_ hnew_;have Bw:=(hb.cell (World.block_lt_of_cell? _ _ (hHeld))).trans (hHeld);clear hg_ hnew_;(first|rw[←aoD.o] at XR|(simp only[Int.reduceToNat] at XR;rw[←aoD.o] at XR));have n_:=jA (Kd.tK Lt (Kd.dJ XR) hb) (jA (Kd.gq aqB (Kd.dJ XR) hb) (jA (Kd.dC (Kd.jh XR (Kd.iY aqB)) (ah CU)) (jA (ag.below D6 hb) (jA (rH hb Be.o) (jC (ae CU hb))))));clear gK zF gZ aad Be HB;obtain ⟨gK,zF,Vu,gZ,Be,HB⟩:=n_;clear hb XR;obtain ⟨Vn,Vo,RP⟩:=Kd.bR Vu.o;(first|subst RP|(injection RP with lM qz lN;have qA:=lM.symm;have qC:=lN.symm;clear lM qz lN;subst qA;subst qC));refine hK.out _ _ (Bw) (fun hHeld=>?_);clear hK K;refine rN (h:=?_);refine rO 7 (h:=fun K hK=>?_);refine lY Tryz.func43 bD rfl #[.pointer (some ⟨zi,0,none⟩),.slice Vn atw.length Vo] ek rfl rfl ql ?_
    with_reducible refine (lH.calls w _ ?ai ?aj ?fI ?gV ?nz A32.o).mono ?_
    (case ai=>exact D6)
    (case aj=>exact CU)
    (case fI=>repeat (first|exact (Kd.a_ Vu.o).2.2|(with_reducible refine Kd.dF ?_ _)|(with_reducible refine Kd.dG ?_ _)|(with_reducible refine Kd.eQ ?_)))
    (case gV=>exact (Kd.a_ Vu.o).2.1)
    (case nz=>exact xG (ag.own_ne gZ.o Vu.o au))
    rintro e w42 ⟨rfl,hi,hb,hk⟩;have Bw:=xE hk (hHeld) Z67;refine ⟨_,rfl,?_⟩;have n_:=jA (Kd.gu (Kd.rC (ag.qD (show ag w _ zi J4 xP xQ from D6) Lt au) hk mV) oI) (jA (Kd.aD (Kd.ky (ag.apart (show ag w _ zi J4 xP xQ from D6) aqB au) hk mV) oI) (jA (xE hk Be.o Z67) (jA (hb) (jC (hi)))));clear gK zF Be Vu HB gZ;obtain ⟨gK,zF,Be,HB,gZ⟩:=n_;(try clear hb);(try clear hb2);(try clear hk);(try clear hi);have p35:0≤(LU:Int):=oT bL;have q35:(LU:Int)<(((aN nC mX).length:Int):Int):=oT bL;obtain ⟨aEQ,z8,RV,aER,aRS,a3x,aES⟩:=Kd.NS zF.o bG;(first|cases RV|(injection RV with ea_ en_ ec_;(first|subst ea_|(injection ea_ with ea_;subst ea_));subst ec_;clear en_));have aRT:=jC aER;have a3y:=jC aES;clear aER aRS aES;obtain ⟨aRU,aRV⟩:=Kd.Mw (⟨#[]⟩:ByteArray) zF.o (LU:Int) p35 q35;replace p35:=fO p35;replace q35:=fO q35;replace gK:=jC (Kd.gu (ok':=(fun k_=>some k_≠(.slice Vn atw.length Vo:Value).ownBlock)) gK.o (fun k_ hk=>hk.2));have aRW:(mX:Int)<(nC.length:Int):=(by have h_:(mX:Int)<((nC.length:Int):Int):=oT bL;first|exact h_|(have e_:=(Kd.fe gK.o).1;omega)|simpa only[List.length_set,List.length_set] using h_);obtain ⟨aYk,a3z,aET,aRX,aoE,aEU,aoF⟩:=Kd.Vv gK.o [] (mX:Int) (oT bL) aRW;obtain ⟨aRY,rfl,RX⟩:=aRX;have akY:=aoE 0 _ rfl;rw[Nat.add_zero,show ((Kd.slice 9 Kd.string)).sz=1 from rfl,Nat.mul_one] at akY;replace akY:=Option.some.inj (akY.symm.trans Be.o);subst akY;clear aoE aET;replace RX:=(show Kd.R Kd.string 9 _ _ _ _ (aN nC mX) from RX);have akZ:=Kd.af7 RX (LU:Int) atx;have XT:=jC (show zi≠aEQ from by have h_:=ag.own_ne gZ.o zF.o au;intro e_;exact h_ EA);rw[←aEN.o] at akZ;have atD:=aoF akZ.2 (fun k_ e_=>by injection e_ with e_;subst e_;exact RX.1 _ rfl) (x':=aEM) (Kd.DF akZ.1);rw[←aEO.o] at atD;have atE:=jC atD;clear akZ atD aoF aEU;refine hK.out _ _ (Bw) (fun hHeld=>?_);clear hK K;refine rN (h:=?_);refine rP 8 (h:=?_);refine EP (i:=9) (N:=none) (qM 10 1023) rfl rfl (za HT_.o bD) au (fun K hK=>?_);refine sS (w1:=?_) ek rfl ?_ ?_;rotate_left
    ·go_simp
     rfl
    refine hK.out _ _ ?_;clear hK K;refine kT (jv HT_.o bD) ?_
    try go_wp2_with (first|(refine gC 78 Tryz.func22 #[.slice (some Lc) aty.length J5] (dM.calls ?ai ?aj A36.o) (h:=?_) (hargs:=(by (try simp only[List.map_toArray,List.map_cons,List.map_nil]);first|done|(rw[show aty.length=nC.length from (Kd.fe atE.o).1.symm]<;>rfl)|rfl|(simp only[List.length_drop,List.length_take];rfl)));(case ai=>refine (Kd.fe (e:=24) (base:=w.heap.size) (ok:=fun k_=>some k_≠(.slice Vn atw.length Vo:Value).ownBlock) (n:=nC.length) (c:=J5) ?_).2.2;exact (by refine pS ?_;exact atE.o));(case aj=>rw[show aty.length=nC.length from (Kd.fe atE.o).1.symm];exact (Kd.fe gK.o).2.1);rintro e w45 ⟨rfl,hb⟩;refine ⟨_,rfl,?_⟩;have n_:=jA (ag.below (show ag w (w42.setCell ⟨aEQ,(LU:Int).toNat,none⟩ (.string atx)) zi J4 aRO aRP from by repeat (first|(with_reducible first|exact gZ.o|apply ag.alloc|apply ag.drewN|apply ag.drew|apply ag.uZ|apply ag.yC|refine ag.far ?_ XT.o _|refine ag.far ?_ BQ.o _)|exact gZ.o)) hb) (jC (ae (by repeat (first|(with_reducible first|exact HB.o|apply bq|apply ak|apply aU|refine aJ ?_ aRT.o|refine aJ ?_ (ag.ge gZ.o)|refine aJ ?_ amX.o)|exact HB.o)) hb));clear gK gZ HB;obtain ⟨gZ,HB⟩:=n_)|(refine gC 81 Tryz.func45 #[.pointer (some ⟨zi,0,none⟩),.string atl] (fF.calls w _ ?ai ?aj A37.o) (h:=?_);(case ai=>exact D6);(case aj=>exact CU);rintro e Wd ⟨rfl,hi,hb,hk⟩;refine ⟨_,rfl,?_⟩;have n_:=jA (hb) (jC (hi));clear HB gZ;obtain ⟨HB,gZ⟩:=n_))
    go_ret;exact ⟨fT,CU⟩
   replace H:=jE H;obtain ⟨an0,aEV,-,H⟩|⟨an0,aEV,c47,H⟩:=H
   ·obtain ⟨aYl,-,H⟩:=l5 H;obtain ⟨aox,-,H⟩:=l5 H;obtain ⟨c50,H⟩:=nD H;have aEW:=jC c50;clear c50;generalize hyy:((aN nC mX)++ [(⟨#[55]⟩:ByteArray)])=ak0 at H;have aEX:=jC hyy.symm;clear hyy;generalize hyy:(nC.set (mX:Int).toNat ak0)=ak1 at H;have aEY:=jC hyy.symm;clear hyy;obtain ⟨atm,A52,H⟩:=bd H;obtain ⟨⟨a3A,a3B,a3C⟩,A53,H⟩:=bd H
    try dsimp only at H
    obtain rfl:=Option.some.inj H;obtain ⟨ak2,ak3⟩:=zdL (l:=nC) (i:=mX);obtain ⟨aEZ,af8,af9,aR1,RY,aae,aaf⟩:=zu (Kd.fe gK.o).2.2 mX ak2 ak3;obtain rfl:Lc=aEZ:=(by injection aR1);obtain ⟨aYn,atF,atG,aga⟩:=Kd.Bd gK.o [] mX ak2 (by first|exact ak3|exact oT bL|(have e_:=(Kd.fe gK.o).1;omega));obtain ⟨aMc,rfl,RZ⟩:=atG;have IQ:=aga 0 _ rfl;rw[Nat.add_zero,show ((Kd.slice 9 Kd.string)).sz=1 from rfl,Nat.mul_one] at IQ;replace IQ:=Option.some.inj (IQ.symm.trans RY);rw[IQ] at RZ;have aag:=jC (show Kd.R Kd.string 9 _ _ _ _ (aN nC mX) from RZ);clear IQ RZ;have ak4:=jC RY;clear aga atF;have aMd:=jC aaf;have aMe:=jC aae;clear aaf aae;replace ak2:=fO ak2;replace ak3:=fO ak3;obtain ⟨ak5,D_,Ra,aE0,aR2,a3D,aE1⟩:=Kd.R3 gK.o (by have h_:(mX:Int)<((nC.length:Int):Int):=oT bL;have Gi:0≤(mX:Int):=(oT bL);omega);(first|cases Ra|(injection Ra with ea_ en_ ec_;(first|subst ea_|(injection ea_ with ea_;subst ea_));subst ec_;clear en_));have aR3:=jC aE0;have a3E:=jC aE1;clear aE0 aR2 aE1;(first|simp only[add_plain] at Mv|skip);(first|simp only[add_plain] at IM|skip);(first|simp only[add_plain] at RY|skip);obtain ⟨aoG,a3F,aE2,aR4,aoH,_,_,aE3⟩:=Kd.NT gK.o [] (mX:Int) (oT bL) (by have h_:(mX:Int)<((nC.length:Int):Int):=oT bL;first|exact h_|(have e_:=(Kd.fe gK.o).1;omega)|simpa using h_);obtain ⟨aR5,rfl,agb⟩:=aR4;have agc:=aoH 0 _ rfl;have atH:=ak4.o;(try simp only[add_plain] at atH);(try simp only[Nat.add_zero] at agc);(try rw[show ((Kd.slice 9 Kd.string)).sz=1 from rfl,Nat.mul_one] at agc);replace agc:=Option.some.inj (agc.symm.trans atH);subst agc;clear atH aoH aE2;have atI:=jC (show Kd.R Kd.string 9 _ w.heap.size aoG (.slice af8 (aN nC mX).length af9) (aN nC mX) from agb);have XU:=jC aE3;have atJ:=jC (Kd.fe gK.o).1;clear aE3 agb
    go_wp2_with (first|((with_reducible refine bJ (b:=.append) (xs:=#[.tmp 62,.tmp 63]) rfl ?_);at_builtin;refine Kd.gH Kd.string (w0:=w) w.heap.size rfl (.tmp 62) (.tmp 63) 24 9 (.string ⟨#[]⟩) 16 rfl Tryz.underlying24 l_ rfl au bG (.slice af8 (aN nC mX).length af9) (aN nC mX) (⟨#[55]⟩:ByteArray) [.string (⟨#[55]⟩:ByteArray)] (fun k_=>aoG k_∨((fun _=>True)) k_∧wc.heap.size≤k_) (fun _=>False) rfl rfl ?aP (fun _ hk=>hk.elim) ?aF ?aO ?aB ?aS ?aL ?_;(case aP=>exact rfl);(case aB=>exact CU);(case aF=>exact (fun k_ hk=>.inr ⟨trivial,hk⟩));(case aO=>exact (by refine pR ?_;exact Kd.aD atI.o (fun _ hk=>.inl hk)));(case aS=>exact (ah CU));(case aL=>have:=aEW.o;omega);intro vq1 wq2 ho hb hg hat;rw[←aEX.o] at ho;have n_:=jA (ag.grown ap6 hg (ag.own_ne gZ.o aag.o au)) (jA (hb) (jA (Kd.R4 (Kd.aah (by repeat (first|exact XU.o|refine Kd.aai ?_ _|refine Kd.aaj ?_ _|refine Kd.agd ?_))) hg (fun k_ e_=>.inl (atI.o.1 k_ e_))) (jC (ho))));clear yT gZ HB XU gK atI aag;obtain ⟨gZ,HB,XU,age⟩:=n_;clear ho hb hg hat;have pq3:0≤(mX:Int):=oT bL;have qq3:(mX:Int)<((nC.length:Int):Int):=oT bL;replace pq3:=fO pq3;replace qq3:=fO qq3;obtain ⟨ak6,agf,aci⟩:=Kd.bR age.o;subst aci;obtain ⟨_,_,agh,_,_,aak,_⟩:=Kd.Vw XU.o (oT bL) (by have h_:(mX:Int)<((nC.length:Int):Int):=oT bL;first|exact h_|(have e_:=(atJ.o);omega)|simpa using h_);obtain ⟨_,aal⟩:=Kd.atK XU.o (oT bL) (by have h_:(mX:Int)<((nC.length:Int):Int):=oT bL;first|exact h_|(have e_:=(atJ.o);omega)|simpa using h_);have R5:=aak 0 _ rfl;have R6:=aal 0;(try simp only[Nat.add_zero] at R5 R6);(try rw[show ((Kd.slice 9 Kd.string)).sz=1 from rfl,Nat.mul_one] at R5);(try rw[show ((Kd.slice 9 Kd.string)).sz=1 from rfl,Nat.mul_one] at R6);have R7:=Kd.XV XU.o (oT bL) (by have h_:(mX:Int)<((nC.length:Int):Int):=oT bL;first|exact h_|(have e_:=(atJ.o);omega)|simpa using h_) (seg:=[.slice ak6 ak0.length agf]) (j:=0) (show 1≤1 from au) (x':=ak0) (Kd.DF age.o) rE;(try simp only[show ((Kd.slice 9 Kd.string)).sz=1 from rfl,Nat.mul_one,Nat.add_zero] at R7);clear aak aal)|((with_reducible refine uE (t:=24) (p:=65) rfl ?_);refine sU (t:=24) (p:=65) (v:=?aR6) (w1:=(wq2.setCell ⟨ak5,(mX:Int).toNat,none⟩ (.slice ak6 ak0.length agf))) ?hg ?ho ?hn ?hr ?_;(case ho=>rfl);(case hg=>rfl);(case hn=>rfl);(case hr=>exact kz);intro wq6 hw;have hg:wq2.grownBy wq6 (some ak5):=(by rw[hw];exact R7.2);have hp_:Kd.S (Kd.slice 9 Kd.string) 24 wq6 w.heap.size (fun _=>True) (.slice (some ⟨ak5,0,none⟩) nC.length J5) ak1:=(by rw[hw,aEY.o];exact R7.1);clear R7;have n_:=jA (ag.grown ap6 hg (ag.own_ne gZ.o agh au)) (jA ((by rw[hw];exact aJ HB.o aR3.o:Below w.heap.size w wq6)) (jC (hp_)));clear gZ HB age XU;obtain ⟨gZ,HB,gK⟩:=n_;clear hg hw hp_ agh)|(refine gC 78 Tryz.func22 #[.slice (some ⟨ak5,0,none⟩) ak1.length J5] (dM.calls ?ai ?aj A52.o) (h:=?_) (hargs:=(by (try simp only[List.map_toArray,List.map_cons,List.map_nil]);first|done|(rw[show ak1.length=nC.length from (Kd.fe gK.o).1.symm]<;>rfl)|rfl|(simp only[List.length_drop,List.length_take];rfl)));(case ai=>exact axo);(case aj=>rw[show ak1.length=nC.length from (Kd.fe gK.o).1.symm];exact (Kd.fe gK.o).2.1);rintro e wq7 ⟨rfl,hb⟩;refine ⟨_,rfl,?_⟩;have n_:=Z40;clear gK gZ HB;obtain ⟨gZ,HB⟩:=n_)|(refine gC 81 Tryz.func45 #[.pointer (some ⟨zi,0,none⟩),.string atm] (fF.calls w _ ?ai ?aj A53.o) (h:=?_);(case ai=>exact D6);(case aj=>exact CU);rintro e wq8 ⟨rfl,hi,hb,hk⟩;refine ⟨_,rfl,?_⟩;have n_:=jA (hb) (jC (hi));clear HB gZ;obtain ⟨HB,gZ⟩:=n_))
    go_ret;exact ⟨fT,CU⟩
   replace H:=iE H;obtain ⟨aam,agi,c61,H⟩|⟨aam,agi,-,H⟩:=H
   ·obtain ⟨⟨aE4,aR7,aR8⟩,A75,H⟩:=bd H
    try dsimp only at H
    obtain ⟨ach,A76,H⟩:=bd H
    obtain ⟨R8,Qp⟩:∃j_:Int,(wrap64 (1+(wrap64 (aE4 * ach))))=j_:=⟨_,rfl⟩
    replace H:(if 0≤(R8) then (if (R8)≤(nC.length:Int) then ((dM.f aRN (nC.take ((R8):Int).toNat)).bind fun af0=>((fF.f J4 aR7 aR8 af0).bind fun af1=>(some af1.1))) else (none)) else (none))=some r:=by first|(rw[Qp] at H;exact H)|(simp only[Qp] at H ⊢;exact H)
    (try rw[Qp] at A75);(try rw[Qp] at A76);have aR9:(IntKind.i64.wrap (1+(wrap64 (aE4 * ach))))=R8:=(jT _).trans Qp;obtain ⟨c78,H⟩:=nD H;have aYs:=fO c78;have aYt:=rM c78;clear c78;obtain ⟨c79,H⟩:=nD H;have aE5:=fO c79;have aYu:=rM c79;clear c79;generalize hyy:(nC.take ((R8):Int).toNat)=aE6 at H;have aoI:=jC hyy.symm;clear hyy;obtain ⟨af0,A80,H⟩:=bd H;obtain ⟨⟨a3I,a3J,a3K⟩,A81,H⟩:=bd H
    try dsimp only at H
    obtain rfl:=Option.some.inj H
    go_wp2_with (first|(refine gC 36 Tryz.func42 #[.pointer (some ⟨zi,0,none⟩),.int .i64 2] (bf.calls w _ ?ai ?aj A75.o) (h:=?_);(case ai=>exact D6);(case aj=>exact CU);rintro e wC ⟨rfl,hi,hb,hk⟩;refine ⟨_,rfl,?_⟩;have n_:=jA (Kd.gu (Kd.rC (ag.qD (show ag w _ zi J4 xP xQ from D6) Lt au) hk mV) oI) (jA (hb) (jC (hi)));clear gK yT HB gZ;obtain ⟨gK,HB,gZ⟩:=n_)|(refine gR 40 Tryz.func44 #[.int .i64 1,.int .i64 (wrap64 ((nC.length:Int) - 1))] (vR.calls A76.o) (h:=?_);rintro w' ⟨nd,rfl⟩;have qq2:((R8):Int)≤((nC.length:Int):Int):=oT bL;obtain ⟨iq3,aE7,_,NM,_⟩:=info_parts JK;have XI:=GZ (P:=Tryz.prog) 42 24 .i64 Tryz.underlying42 aE7 (some Lc) nC.length J5 (R8) (oT bL) qq2 (Kd.fe gK.o).2.1;have ak7:=Kd.atL (m:=((R8):Int).toNat) gK.o bG;have aE8:aE6.length=((R8):Int).toNat:=(by rw[aoI.o,List.length_take];omega);rw[←aoI.o] at ak7;rw[←aE8] at ak7 XI;clear aE8 aE7 NM gK;have agj:=jC ak7;clear ak7;replace qq2:=fO qq2)|(refine gR 78 Tryz.func22 #[.slice (some Lc) aE6.length J5] (dM.calls ?ai ?aj A80.o) (h:=?_);(case ai=>repeat (first|exact (Kd.fe agj.o).2.2|(with_reducible refine Kd.dF ?_ _)|(with_reducible refine Kd.dG ?_ _)|(with_reducible refine Kd.eQ ?_)));(case aj=>exact (Kd.fe agj.o).2.1);intro wq4 hb;have n_:=Z40;clear agj gZ HB;obtain ⟨gZ,HB⟩:=n_)|(refine gC 81 Tryz.func45 #[.pointer (some ⟨zi,0,none⟩),.string af0] (fF.calls w _ ?ai ?aj A81.o) (h:=?_);(case ai=>exact D6);(case aj=>exact CU);rintro e wq5 ⟨rfl,hi,hb,hk⟩;refine ⟨_,rfl,?_⟩;have n_:=jA (hb) (jC (hi));clear HB gZ;obtain ⟨HB,gZ⟩:=n_))
    go_ret;exact ⟨by first|rfl|(simp [jM,jN]<;>rfl)|(simp only[←Qp];first|rfl|(simp [jM,jN]<;>rfl))|(simp [*,jM,jN]<;>rfl),CU⟩
   obtain ⟨aE9,-,H⟩:=l5 H;obtain ⟨aFa,-,H⟩:=l5 H;obtain ⟨aYv,-,H⟩:=l5 H;obtain ⟨aSb,-,H⟩:=l5 H;generalize hyy:((aN nC mX).take ((LU):Int).toNat)=agk at H;have aoJ:=jC hyy.symm;clear hyy;generalize hyy:(nC.set (mX:Int).toNat agk)=ak8 at H;have aFb:=jC hyy.symm;clear hyy;obtain ⟨atn,A66,H⟩:=bd H;obtain ⟨⟨a3L,a3M,a3N⟩,A67,H⟩:=bd H
   try dsimp only at H
   obtain rfl:=Option.some.inj H;obtain ⟨ak9,ala⟩:=zdL (l:=nC) (i:=mX);obtain ⟨aFc,R9,R_,aSc,Sa,aan,aao⟩:=zu (Kd.fe gK.o).2.2 mX ak9 ala;obtain rfl:Lc=aFc:=(by injection aSc);obtain ⟨aYw,atM,atN,agl⟩:=Kd.Bd gK.o [] mX ak9 (by first|exact ala|exact oT bL|(have e_:=(Kd.fe gK.o).1;omega));obtain ⟨aMg,rfl,Sb⟩:=atN;have IR:=agl 0 _ rfl;rw[Nat.add_zero,show ((Kd.slice 9 Kd.string)).sz=1 from rfl,Nat.mul_one] at IR;replace IR:=Option.some.inj (IR.symm.trans Sa);rw[IR] at Sb;have alb:=jC (show Kd.R Kd.string 9 _ _ _ _ (aN nC mX) from Sb);clear IR Sb;have alc:=jC Sa;clear agl atM;have aMh:=jC aao;have aMi:=jC aan;clear aao aan;replace ak9:=fO ak9;replace ala:=fO ala;obtain ⟨ald,ars,ajG,aFd,aSd,a3P,aFe⟩:=Kd.R3 gK.o (by have h_:(mX:Int)<((nC.length:Int):Int):=oT bL;have Gi:0≤(mX:Int):=(oT bL);omega);(first|cases ajG|(injection ajG with ea_ en_ ec_;(first|subst ea_|(injection ea_ with ea_;subst ea_));subst ec_;clear en_));have aSe:=jC aFd;have a3Q:=jC aFe;clear aFd aSd aFe;(first|simp only[add_plain] at Sa|skip);obtain ⟨aFf,a3R,aFg,aSf,aoK,_,_,aFh⟩:=Kd.NT gK.o [] (mX:Int) (oT bL) (by have h_:(mX:Int)<((nC.length:Int):Int):=oT bL;first|exact h_|(have e_:=(Kd.fe gK.o).1;omega)|simpa using h_);obtain ⟨aSg,rfl,agm⟩:=aSf;have agn:=aoK 0 _ rfl;have atO:=alc.o;(try simp only[add_plain] at atO);(try simp only[Nat.add_zero] at agn);(try rw[show ((Kd.slice 9 Kd.string)).sz=1 from rfl,Nat.mul_one] at agn);replace agn:=Option.some.inj (agn.symm.trans atO);subst agn;clear atO aoK aFg;have atP:=jC (show Kd.R Kd.string 9 _ w.heap.size aFf (.slice R9 (aN nC mX).length R_) (aN nC mX) from agm);have ale:=jC aFh;have atQ:=jC (Kd.fe gK.o).1;clear aFh agm;have atS:((LU):Int)≤((aN nC mX).length:Int):=oT bL;obtain ⟨aYx,agp,_,atT,_⟩:=info_parts l_;have alf:=GZ (P:=Tryz.prog) 24 9 .i64 Tryz.underlying24 agp R9 (aN nC mX).length R_ (LU) (oT bL) atS (Kd.a_ atP.o).2.1;have aap:=Kd.Xo (m:=((LU):Int).toNat) atP.o bG;have aoL:agk.length=((LU):Int).toNat:=(by rw[aoJ.o,List.length_take];omega);rw[←aoJ.o] at aap;rw[←aoL] at aap alf;clear aoL agp atT;have aoM:=jC aap;clear aap;replace atS:=fO atS;have p65:0≤(mX:Int):=oT bL;have q65:(mX:Int)<((nC.length:Int):Int):=oT bL;replace p65:=fO p65;replace q65:=fO q65;obtain ⟨_,_,agq,_,_,aoN,_⟩:=Kd.Vw ale.o (oT bL) (by have h_:(mX:Int)<((nC.length:Int):Int):=oT bL;first|exact h_|(have e_:=(atQ.o);omega)|simpa using h_);obtain ⟨_,aoO⟩:=Kd.atK ale.o (oT bL) (by have h_:(mX:Int)<((nC.length:Int):Int):=oT bL;first|exact h_|(have e_:=(atQ.o);omega)|simpa using h_);have agr:=aoN 0 _ rfl;have ags:=aoO 0;(try simp only[Nat.add_zero] at agr ags);(try rw[show ((Kd.slice 9 Kd.string)).sz=1 from rfl,Nat.mul_one] at agr);(try rw[show ((Kd.slice 9 Kd.string)).sz=1 from rfl,Nat.mul_one] at ags);have alg:=Kd.XV ale.o (oT bL) (by have h_:(mX:Int)<((nC.length:Int):Int):=oT bL;first|exact h_|(have e_:=(atQ.o);omega)|simpa using h_) (seg:=[.slice R9 agk.length R_]) (j:=0) (show 1≤1 from au) (x':=agk) (Kd.DF aoM.o) rE;(try simp only[show ((Kd.slice 9 Kd.string)).sz=1 from rfl,Nat.mul_one,Nat.add_zero] at alg);clear aoN aoO;clear gK atP alb
   go_wp2_with (first|((with_reducible refine uE (t:=24) (p:=76) rfl ?_);refine sU (t:=24) (p:=76) (v:=?aSh) (w1:=(wc.setCell ⟨ald,(mX:Int).toNat,none⟩ (.slice R9 agk.length R_))) ?hg ?ho ?hn ?hr ?_;(case ho=>rfl);(case hg=>rfl);(case hn=>rfl);(case hr=>exact kz);intro wC hw;have hg:wc.grownBy wC (some ald):=(by rw[hw];exact alg.2);have hp_:Kd.S (Kd.slice 9 Kd.string) 24 wC w.heap.size (fun _=>True) (.slice (some ⟨ald,0,none⟩) nC.length J5) ak8:=(by rw[hw,aFb.o];exact alg.1);clear alg;have n_:=jA (ag.grown ap6 hg (ag.own_ne gZ.o agq au)) (jA ((by rw[hw];exact aJ HB.o aSe.o:Below w.heap.size w wC)) (jC (hp_)));clear yT gZ HB aoM ale;obtain ⟨gZ,HB,gK⟩:=n_;clear hg hw hp_ agq)|(refine gC 78 Tryz.func22 #[.slice (some ⟨ald,0,none⟩) ak8.length J5] (dM.calls ?ai ?aj A66.o) (h:=?_) (hargs:=(by (try simp only[List.map_toArray,List.map_cons,List.map_nil]);first|done|(rw[show ak8.length=nC.length from (Kd.fe gK.o).1.symm]<;>rfl)|rfl|(simp only[List.length_drop,List.length_take];rfl)));(case ai=>exact axo);(case aj=>rw[show ak8.length=nC.length from (Kd.fe gK.o).1.symm];exact (Kd.fe gK.o).2.1);rintro e wq2 ⟨rfl,hb⟩;refine ⟨_,rfl,?_⟩;have n_:=Z40;clear gK gZ HB;obtain ⟨gZ,HB⟩:=n_)|(refine gC 81 Tryz.func45 #[.pointer (some ⟨zi,0,none⟩),.string atn] (fF.calls w _ ?ai ?aj A67.o) (h:=?_);(case ai=>exact D6);(case aj=>exact CU);rintro e wq3 ⟨rfl,hi,hb,hk⟩;refine ⟨_,rfl,?_⟩;have n_:=jA (hb) (jC (hi));clear HB gZ;obtain ⟨HB,gZ⟩:=n_))
   go_ret;exact ⟨fT,CU⟩
def kG.l0:Nat→List ByteArray→Int→Option (Int × Int × Int)
 |0,_,_=>none
 |k+1,x0,x3=>if x3<(x0.length:Int) then (if 0≤x3 then ((bH.f k (jg ByteArray.empty x0 x3)).bind fun aFi=>(if aFi=true then (if x3≤(x0.length:Int) then ((fw.f k (x0.take (x3:Int).toNat) (jg ByteArray.empty x0 x3)).bind fun aFj=>(if aFj=true then (some (6,0,x3)) else (kG.l0 k x0 (wrap64 (x3+1))))) else (none)) else (some (5,0,x3)))) else (none)) else (some (0,0,0))
def kG.f (k:Nat) (l0:List ByteArray):Option (Int × Int × Int):=(dw.f (l0.length:Int) 2 5).bind fun aFk=>(if aFk=true then (kG.l0 k l0 0) else (some (7,0,0)))
theorem kG.calls {k:Nat} {A0:Option Addr} {c0:Nat} {l0:List ByteArray} {r1:Int} {r2:Int} {r3:Int} {w:World} (hr0:Kd.C Kd.string w A0 l0.length l0) (hc0:l0.length≤c0) (h:kG.f k l0=some (r1,r2,r3)):
  Calls Tryz.prog 46 #[.slice A0 l0.length c0] w fun e w'=>e=.returned (.agg #[.int .i64 r1,.int .i64 r2,.int .i64 r3])∧Below w.heap.size w w':=by
 have Xy:=Tryz.underlying33;have t_:=jC hr0;have BI:=jC hc0;clear hr0 hc0;have HB:=jC (Below.refl w.heap.size w);have H:=h;clear h;unfold kG.f at H;obtain ⟨aFk,A2,H⟩:=bd H
 replace H:=iB H;obtain ⟨rfl,H⟩|⟨rfl,H⟩:=H
 ·simp only[Option.some.injEq,Prod.mk.injEq] at H;obtain ⟨rfl,rfl,rfl⟩:=H;go_enter Tryz.func46,Tryz.ntmps46
  go_wp2_with (first|((with_reducible refine aG (N:=2) rfl ?_);refine bE 2 #[.int .i64 0,.int .i64 0,.int .i64 0] 33 (h:=?_);intro Ey hg wC hbox hb;have n_:=Z47;clear HB;obtain ⟨HB,AP,PX⟩:=n_;clear hb hbox hg;obtain ⟨_,_,_,_,_,_⟩:=cells3 AP.o)|(go_at_call 47;(with_reducible refine (dw.calls A2.o).mono ?_);rintro e w' ⟨rfl,⟨nd,rfl⟩⟩;(try exact zD)))
  repeat (go_quiet (first|((with_reducible refine aG (N:=2) rfl ?_);refine bE 2 #[.int .i64 0,.int .i64 0,.int .i64 0] 33 (h:=?_);intro Ey hg wC hbox hb;have n_:=Z47;clear HB;obtain ⟨HB,AP,PX⟩:=n_;clear hb hbox hg;obtain ⟨_,_,_,_,_,_⟩:=cells3 AP.o)|(go_at_call 47;(with_reducible refine (dw.calls A2.o).mono ?_);rintro e w' ⟨rfl,⟨nd,rfl⟩⟩;(try exact zD)));try go_wp2_with (first|((with_reducible refine aG (N:=2) rfl ?_);refine bE 2 #[.int .i64 0,.int .i64 0,.int .i64 0] 33 (h:=?_);intro Ey hg wC hbox hb;have n_:=Z47;clear HB;obtain ⟨HB,AP,PX⟩:=n_;clear hb hbox hg)|(go_at_call 47;(with_reducible refine (dw.calls A2.o).mono ?_);rintro e w' ⟨rfl,⟨nd,rfl⟩⟩;(try exact zD))))
  refine bodyPost_ret (results_cell_row rfl _ _ Ey 33 #[.int .i64 7,.int .i64 0,.int .i64 0] (0,0) _ rfl ajs Tryz.underlying33 rfl bD) rfl ?_;exact ⟨fT,WN⟩
 have H':=jC H;clear H;go_enter Tryz.func46,Tryz.ntmps46
 go_wp2_with (first|((with_reducible refine aG (N:=2) rfl ?_);refine bE 2 #[.int .i64 0,.int .i64 0,.int .i64 0] 33 (h:=?_);intro Ey hg w4 hbox hb;have n_:=Z47;clear HB;obtain ⟨HB,AP,PX⟩:=n_;clear hb hbox hg)|(go_at_call 47;(with_reducible refine (dw.calls A2.o).mono ?_);rintro e w' ⟨rfl,⟨nd,rfl⟩⟩;(try exact zD)))
 repeat (go_quiet (first|((with_reducible refine aG (N:=2) rfl ?_);refine bE 2 #[.int .i64 0,.int .i64 0,.int .i64 0] 33 (h:=?_);intro Ey hg w4 hbox hb;have n_:=Z47;clear HB;obtain ⟨HB,AP,PX⟩:=n_;clear hb hbox hg)|(go_at_call 47;(with_reducible refine (dw.calls A2.o).mono ?_);rintro e w' ⟨rfl,⟨nd,rfl⟩⟩;(try exact zD)));try go_wp2_with (first|((with_reducible refine aG (N:=2) rfl ?_);refine bE 2 #[.int .i64 0,.int .i64 0,.int .i64 0] 33 (h:=?_);intro Ey hg w4 hbox hb;have n_:=Z47;clear HB;obtain ⟨HB,AP,PX⟩:=n_;clear hb hbox hg)|(go_at_call 47;(with_reducible refine (dw.calls A2.o).mono ?_);rintro e w' ⟨rfl,⟨nd,rfl⟩⟩;(try exact zD))))
 go_loopg [3] k (fun kq v3 w'=>∃(lK:Int) (J6:Int) (J7:Int) (J8:Int),v3=.int .i64 lK∧aa (kG.l0 kq l0 lK=some (r1,r2,r3))∧aa (kq≤k)∧aa (w'.heap[Ey]?=some (.cells #[.int .i64 J6,.int .i64 J7,.int .i64 J8] 33 (0,0)))∧aa (Below w.heap.size w w'))
 case atStart=>exact ⟨(0),(0),(0),(0),bT,H',⟨Nat.le_refl _⟩,⟨by refine bP ?_;exact AP.o⟩,⟨WN⟩⟩
 case round=>
  clear H';obtain ⟨lK,J6,J7,J8,rfl,HA,rF,AP,HB⟩:=hrel
  cases gk with
  |zero=>exact absurd HA.o (by simp [kG.l0])
  |succ k1=>
   have H:=HA.o;clear HA;simp only[kG.l0] at H
   replace H:=iD H;obtain ⟨oZ,-,H⟩|⟨oZ,-,H⟩:=H
   ·simp only[Option.some.injEq,Prod.mk.injEq] at H;obtain ⟨rfl,rfl,rfl⟩:=H;obtain ⟨_,_,_,_,_,_⟩:=cells3 AP.o
    go_wp2
    repeat (go_quiet (fail);try go_wp2)
    refine bodyPost_ret (results_cell_row rfl _ _ Ey 33 #[.int .i64 0,.int .i64 0,.int .i64 0] (0,0) _ rfl ajs Tryz.underlying33 rfl bD) rfl ?_;exact ⟨fT,WN⟩
   obtain ⟨vU,-,H⟩:=l5 H;obtain ⟨aFi,A7,H⟩:=bd H
   replace H:=iB H;obtain ⟨rfl,H⟩|⟨rfl,H⟩:=H
   ·simp only[Option.some.injEq,Prod.mk.injEq] at H;obtain ⟨rfl,rfl,rfl⟩:=H;obtain ⟨aFl,aFm,Qq,agt,wX⟩:=gS t_.o lK
    cases agt
    replace wX:=(HB.o.cell (World.block_lt_of_cell? w _ wX)).trans wX;obtain ⟨_,_,_,_,_,_⟩:=cells3 AP.o
    go_wp2_with (first|(go_at_call 49;(with_reducible refine (bH.calls A7.o).mono ?_);rintro e w' ⟨rfl,⟨nd,rfl⟩⟩;(try exact zD)))
    repeat (go_quiet (first|(go_at_call 49;(with_reducible refine (bH.calls A7.o).mono ?_);rintro e w' ⟨rfl,⟨nd,rfl⟩⟩;(try exact zD)));try go_wp2_with (first|(go_at_call 49;(with_reducible refine (bH.calls A7.o).mono ?_);rintro e w' ⟨rfl,⟨nd,rfl⟩⟩;(try exact zD))))
    refine bodyPost_ret (results_cell_row rfl _ _ Ey 33 #[.int .i64 5,.int .i64 0,.int .i64 lK] (0,0) _ rfl ajs Tryz.underlying33 rfl bD) rfl ?_;exact ⟨fT,WN⟩
   have G6:=fO (oT bL:0≤lK);obtain ⟨c10,H⟩:=nD H;have vC:=fO c10;have P8:=rM c10;clear c10;obtain ⟨aFj,Q6,H⟩:=bd H
   replace H:=iB H;obtain ⟨rfl,H⟩|⟨rfl,H⟩:=H
   ·have H':=jC H;clear H;obtain ⟨aFl,aFm,Qq,agt,wX⟩:=gS t_.o lK
    cases agt
    replace wX:=(HB.o.cell (World.block_lt_of_cell? w _ wX)).trans wX;obtain ⟨a3S,aoP,_,aoQ,_⟩:=info_parts l_;obtain ⟨aSi,aFn,aFo⟩:=nZ (P:=Tryz.prog) Value.string (⟨#[]⟩:ByteArray) 24 9 .i64 Tryz.underlying24 aoP aoQ (some Qq) c0 l0 lK (oT bL) (oT bL) BI.o;have amJ:=jC (Kd.qi (h1:=fun _=>rfl) (aFn _ (Kd.oW t_.o)));have NU:=jC aFo;clear aFn aFo aoP aoQ;obtain ⟨aSj,aSk,agu,atU,Dl⟩:=gS t_.o lK;obtain rfl:Qq=agu:=(by injection atU);replace Dl:=(HB.o.cell (World.block_lt_of_cell? w _ Dl)).trans Dl
    go_wp2_with (first|(go_at_call 49;(with_reducible refine (bH.calls A7.o).mono ?_);rintro e w' ⟨rfl,⟨nd,rfl⟩⟩;(try exact zD))|(go_at_call 50;(with_reducible refine rf (xs:=l0) (j:=lK) (oT bL) (oT bL) ((fw.calls ?ai ?aj Q6.o).mono ?_));(case ai=>exact Z72);(case aj=>exact NU.o);rintro e w' ⟨rfl,⟨nd,rfl⟩⟩;(try exact zD)))
    repeat (go_quiet (first|(go_at_call 49;(with_reducible refine (bH.calls A7.o).mono ?_);rintro e w' ⟨rfl,⟨nd,rfl⟩⟩;(try exact zD))|(go_at_call 50;(with_reducible refine rf (xs:=l0) (j:=lK) (oT bL) (oT bL) ((fw.calls ?ai ?aj Q6.o).mono ?_));(case ai=>exact Z72);(case aj=>exact NU.o);rintro e w' ⟨rfl,⟨nd,rfl⟩⟩;(try exact zD)));try go_wp2_with (first|(go_at_call 49;(with_reducible refine (bH.calls A7.o).mono ?_);rintro e w' ⟨rfl,⟨nd,rfl⟩⟩;(try exact zD))|(go_at_call 50;(with_reducible refine rf (xs:=l0) (j:=lK) (oT bL) (oT bL) ((fw.calls ?ai ?aj Q6.o).mono ?_));(case ai=>exact Z72);(case aj=>exact NU.o);rintro e w' ⟨rfl,⟨nd,rfl⟩⟩;(try exact zD))))
    go_roundg k1
    case measure=>have:=rF.o;omega
    case rel=>exact ⟨(wrap64 (lK+1)),(J6),(J7),(J8),bT,H',⟨vE⟩,⟨by refine bP ?_;exact AP.o⟩,⟨WN⟩⟩
   simp only[Option.some.injEq,Prod.mk.injEq] at H;obtain ⟨rfl,rfl,rfl⟩:=H;obtain ⟨aFl,aFm,Qq,agt,wX⟩:=gS t_.o lK
   cases agt
   replace wX:=(HB.o.cell (World.block_lt_of_cell? w _ wX)).trans wX;obtain ⟨a3T,aoR,_,aoS,_⟩:=info_parts l_;obtain ⟨aSl,aFp,aFq⟩:=nZ (P:=Tryz.prog) Value.string (⟨#[]⟩:ByteArray) 24 9 .i64 Tryz.underlying24 aoR aoS (some Qq) c0 l0 lK (oT bL) (oT bL) BI.o;have amJ:=jC (Kd.qi (h1:=fun _=>rfl) (aFp _ (Kd.oW t_.o)));have NU:=jC aFq;clear aFp aFq aoR aoS;obtain ⟨aSj,aSk,agu,atU,Dl⟩:=gS t_.o lK;obtain rfl:Qq=agu:=(by injection atU);replace Dl:=(HB.o.cell (World.block_lt_of_cell? w _ Dl)).trans Dl;obtain ⟨_,_,_,_,_,_⟩:=cells3 AP.o
   go_wp2_with (first|(go_at_call 49;(with_reducible refine (bH.calls A7.o).mono ?_);rintro e w' ⟨rfl,⟨nd,rfl⟩⟩;(try exact zD))|(go_at_call 50;(with_reducible refine rf (xs:=l0) (j:=lK) (oT bL) (oT bL) ((fw.calls ?ai ?aj Q6.o).mono ?_));(case ai=>exact Z72);(case aj=>exact NU.o);rintro e w' ⟨rfl,⟨nd,rfl⟩⟩;(try exact zD)))
   repeat (go_quiet (first|(go_at_call 49;(with_reducible refine (bH.calls A7.o).mono ?_);rintro e w' ⟨rfl,⟨nd,rfl⟩⟩;(try exact zD))|(go_at_call 50;(with_reducible refine rf (xs:=l0) (j:=lK) (oT bL) (oT bL) ((fw.calls ?ai ?aj Q6.o).mono ?_));(case ai=>exact Z72);(case aj=>exact NU.o);rintro e w' ⟨rfl,⟨nd,rfl⟩⟩;(try exact zD)));try go_wp2_with (first|(go_at_call 49;(with_reducible refine (bH.calls A7.o).mono ?_);rintro e w' ⟨rfl,⟨nd,rfl⟩⟩;(try exact zD))|(go_at_call 50;(with_reducible refine rf (xs:=l0) (j:=lK) (oT bL) (oT bL) ((fw.calls ?ai ?aj Q6.o).mono ?_));(case ai=>exact Z72);(case aj=>exact NU.o);rintro e w' ⟨rfl,⟨nd,rfl⟩⟩;(try exact zD))))
   refine bodyPost_ret (results_cell_row rfl _ _ Ey 33 #[.int .i64 6,.int .i64 0,.int .i64 lK] (0,0) _ rfl ajs Tryz.underlying33 rfl bD) rfl ?_;exact ⟨fT,WN⟩
def kP.l0:Nat→ByteArray→Int→List ByteArray→Int→Int→Option (List ByteArray)
 |0,_,_,_,_,_=>none
 |k+1,x0,x1,x5,x6,x7=>if x7≤(x0.size:Int) then (if x7=(x0.size:Int) then (if 0≤x6 then (if x6≤x7 then (if x5.length<8796093022208 then (kP.l0 k x0 x1 (x5++ [x0.extract (x6:Int).toNat (x7:Int).toNat]) (wrap64 (x7+1)) (wrap64 (x7+1))) else (none)) else (none)) else (none)) else (if 0≤x7 then (if x7<(x0.size:Int) then (if (bt x0 x7)=x1 then (if 0≤x6 then (if x6≤x7 then (if x5.length<8796093022208 then (kP.l0 k x0 x1 (x5++ [x0.extract (x6:Int).toNat (x7:Int).toNat]) (wrap64 (x7+1)) (wrap64 (x7+1))) else (none)) else (none)) else (none)) else (kP.l0 k x0 x1 x5 x6 (wrap64 (x7+1)))) else (none)) else (none))) else (some x5)
def kP.f (k:Nat) (a0:ByteArray) (a1:Int):Option (List ByteArray):=kP.l0 k a0 a1 (([]:List ByteArray)) 0 0
theorem kP.calls {k:Nat} {a0:ByteArray} {a1:Int} {r:List ByteArray} {w:World} (h:kP.f k a0 a1=some r):
  Calls Tryz.prog 74 #[.string a0,.int .u8 a1] w fun e w'=>∃Ee:Value,e=.returned (Ee)∧Kd.R Kd.string 9 w' w.heap.size (fun _=>True) Ee r∧Below w.heap.size w w':=by
 have HB:=jC (Below.refl w.heap.size w);have H:=h;clear h;unfold kP.f at H;generalize hyy:(([]:List ByteArray))=aSm at H;have aoT:=jC hyy.symm;clear hyy;have H':=jC H;clear H;go_enter Tryz.func74,Tryz.ntmps74
 go_wp2_with (first|((with_reducible refine aG (N:=8) rfl ?_);refine Kd.sQ Kd.string _ 9 ?hg (N:=8) ?hd (xs:=([]:List ByteArray)) (inner:=[]) (ok:=fun _=>True) (okp:=fun _=>True) ?hr ?hp rE trivial (Below.refl _ _) (Nat.le_refl _) gQ ?_;(case hd=>rfl);(case hg=>rfl);(case hr=>exact kz);(case hp=>exact xk);intro a3U w3 ho4 hb hg_ hnew_;clear hg_ hnew_;(first|rw[←aoT.o] at ho4|(simp only[Int.reduceToNat] at ho4;rw[←aoT.o] at ho4));have n_:=jA (Kd.dC ho4 (ah dn)) (jC (ae dn hb));clear HB;obtain ⟨aFs,HB⟩:=n_;clear hb ho4))
 go_loopg [5,6,7] k (fun kq v5 v6 v7 w'=>∃(dY:List ByteArray) (og:Int) (jS:Int),v6=.int .i64 og∧v7=.int .i64 jS∧aa (kP.l0 kq a0 a1 dY og jS=some r)∧aa (kq≤k)∧aa (Kd.R Kd.string 9 w' w.heap.size (fun _=>True) v5 dY)∧aa (Below w.heap.size w w'))
 case atStart=>exact ⟨(aSm),(0),(0),bT,bT,H',⟨Nat.le_refl _⟩,⟨by refine pR ?_;exact aFs.o⟩,⟨dn⟩⟩
 case round=>
  clear H';obtain ⟨dY,og,jS,rfl,rfl,HA,rF,gK,HB⟩:=hrel
  cases gk with
  |zero=>exact absurd HA.o (by simp [kP.l0])
  |succ k1=>
   have H:=HA.o;clear HA;simp only[kP.l0] at H
   replace H:=iD H;obtain ⟨oZ,-,H⟩|⟨oZ,-,H⟩:=H
   ·obtain rfl:=Option.some.inj H
    go_wp2
    go_ret;exact ⟨_,fT,OQ,dn⟩
   replace H:=jE H;obtain ⟨vU,Us,-,H⟩|⟨vU,Us,c6,H⟩:=H
   ·obtain ⟨c7,H⟩:=nD H;have D9:=fO c7;have Re:=rM c7;clear c7;obtain ⟨c8,H⟩:=nD H;have vV:=fO c8;have FU:=rM c8;clear c8;have G6:=fO (oT bL:jS≤(a0.size:Int));obtain ⟨c10,H⟩:=nD H;have aFt:=jC c10;clear c10;generalize hyy:(dY++ [a0.extract (og:Int).toNat (jS:Int).toNat])=aSn at H;have aFu:=jC hyy.symm;clear hyy;have H':=jC H;clear H
    go_wp2_with (first|((with_reducible refine bJ (b:=.append) (xs:=#[.tmp 26,.tmp 31]) rfl ?_);at_builtin;refine Kd.gH Kd.string (w0:=w) w.heap.size rfl (.tmp 26) (.tmp 31) 24 9 (.string ⟨#[]⟩) 16 rfl Tryz.underlying24 l_ rfl au bG u5 dY (a0.extract (og:Int).toNat (jS:Int).toNat) [.string (a0.extract (og:Int).toNat (jS:Int).toNat)] (fun _=>True) (fun _=>False) rfl rfl ?aP (fun _ hk=>hk.elim) ?aF ?aO ?aB ?aS ?aL ?_;(case aP=>exact rfl);(case aB=>exact zf);(case aF=>exact o8);(case aO=>exact ax9);(case aS=>exact ze);(case aL=>have:=aFt.o;omega);intro a3V w11 ho hb hg hat;rw[←aFu.o] at ho;have n_:=jA (hb) (jC (ho));clear HB gK;obtain ⟨HB,aFv⟩:=n_;clear ho hb hg hat))
    go_roundg k1
    case measure=>have:=rF.o;omega
    case rel=>exact ⟨(aSn),(wrap64 (jS+1)),(wrap64 (jS+1)),bT,bT,H',⟨vE⟩,⟨by refine pR ?_;exact aFv.o⟩,⟨dn⟩⟩
   obtain ⟨DL,-,H⟩:=l5 H;obtain ⟨Qk,-,H⟩:=l5 H
   replace H:=iE H;obtain ⟨zx,P9,c15,H⟩|⟨zx,P9,-,H⟩:=H
   ·have H':=jC H;clear H;obtain ⟨p14,q14⟩:=uw (s:=a0) (i:=jS);have atV:=d9 a0 jS
    go_wp2
    go_roundg k1
    case measure=>have:=rF.o;omega
    case rel=>exact ⟨(dY),(og),(wrap64 (jS+1)),bT,bT,H',⟨vE⟩,⟨OQ⟩,⟨dn⟩⟩
   obtain ⟨c16,H⟩:=nD H;have Gg:=fO c16;have Y8:=rM c16;clear c16;obtain ⟨c17,H⟩:=nD H;have K6:=fO c17;have UE:=rM c17;clear c17;have DN:=fO (oT bL:jS≤(a0.size:Int));obtain ⟨c19,H⟩:=nD H;have YV:=jC c19;clear c19;generalize hyy:(dY++ [a0.extract (og:Int).toNat (jS:Int).toNat])=aSo at H;have aFw:=jC hyy.symm;clear hyy;have H':=jC H;clear H;obtain ⟨p14,q14⟩:=uw (s:=a0) (i:=jS);have atV:=d9 a0 jS
   go_wp2_with (first|((with_reducible refine bJ (b:=.append) (xs:=#[.tmp 26,.tmp 31]) rfl ?_);at_builtin;refine Kd.gH Kd.string (w0:=w) w.heap.size rfl (.tmp 26) (.tmp 31) 24 9 (.string ⟨#[]⟩) 16 rfl Tryz.underlying24 l_ rfl au bG u5 dY (a0.extract (og:Int).toNat (jS:Int).toNat) [.string (a0.extract (og:Int).toNat (jS:Int).toNat)] (fun _=>True) (fun _=>False) rfl rfl ?aP (fun _ hk=>hk.elim) ?aF ?aO ?aB ?aS ?aL ?_;(case aP=>exact rfl);(case aB=>exact zf);(case aF=>exact o8);(case aO=>exact ax9);(case aS=>exact ze);(case aL=>exact Ns);intro a3W w20 ho hb hg hat;rw[←aFw.o] at ho;have n_:=jA (hb) (jC (ho));clear HB gK;obtain ⟨HB,aFx⟩:=n_;clear ho hb hg hat))
   go_roundg k1
   case measure=>have:=rF.o;omega
   case rel=>exact ⟨(aSo),(wrap64 (jS+1)),(wrap64 (jS+1)),bT,bT,H',⟨vE⟩,⟨by refine pR ?_;exact aFx.o⟩,⟨dn⟩⟩
theorem agv (d:Int) (h0:0≤d) (h1:d<256):wrap64 (Int.tdiv ((-9223372036854775808)+d) 10)=Int.tdiv ((-9223372036854775808)+d) 10:=by
 have e:Int.tdiv ((-9223372036854775808)+d) 10=-((9223372036854775808 - d) / 10):=by
  rw[show (-9223372036854775808)+d=-(9223372036854775808 - d) by omega,Int.neg_tdiv,Int.tdiv_eq_ediv_of_nonneg bG]
 rw[e];unfold wrap64
 omega
mutual
def dh.j0:Nat→ByteArray→Bool→Option (Int × Bool)
 |0,_,_=>none
 |k+1,x0,x15=>if x15=true then (some (0,false)) else (if 0<(x0.size:Int) then (if (bt x0 0)=45 then (dh.j1 k x0 1) else (dh.j1 k x0 0)) else (none))
def dh.j1:Nat→ByteArray→Int→Option (Int × Bool)
 |0,_,_=>none
 |k+1,x0,x4=>dh.l0 k x0 x4 0 x4
def dh.l0:Nat→ByteArray→Int→Int→Int→Option (Int × Bool)
 |0,_,_,_,_=>none
 |k+1,x0,x4,x5,x6=>if x6<(x0.size:Int) then (if 0≤x6 then (if (bt x0 x6)<48 then (dh.j3 k x0 x4 x5 x6 true) else (dh.j3 k x0 x4 x5 x6 (decide ((bt x0 x6)>57)))) else (none)) else (if x4=0 then (if x5=(-9223372036854775808) then (some (0,false)) else ((iC.f k (wrap64 (-x5))).bind fun aFy=>(if aFy.toList=x0.toList then (some (wrap64 (-x5),true)) else (some (0,false))))) else ((iC.f k x5).bind fun aFz=>(if aFz.toList=x0.toList then (some (x5,true)) else (some (0,false)))))
def dh.j3:Nat→ByteArray→Int→Int→Int→Bool→Option (Int × Bool)
 |0,_,_,_,_,_=>none
 |k+1,x0,x4,x5,x6,x35=>if x35=true then (some (0,false)) else (if 0≤x6 then (if x6<(x0.size:Int) then (if x5<(wrap64 (Int.tdiv ((-9223372036854775808)+(((bt x0 x6) - 48) % 256)) 10)) then (some (0,false)) else (dh.l0 k x0 x4 (wrap64 ((wrap64 (10 * x5)) - (((bt x0 x6) - 48) % 256))) (wrap64 (x6+1)))) else (none)) else (none))
end
def dh.f (k:Nat) (a0:ByteArray):Option (Int × Bool):=if (a0.size:Int)<1 then (dh.j0 k a0 true) else (dh.j0 k a0 (decide ((a0.size:Int)>20)))
theorem dh.calls {k:Nat} {a0:ByteArray} {r1:Int} {r2:Bool} {w:World} (h:dh.f k a0=some (r1,r2)):
  Calls Tryz.prog 89 #[.string a0] w fun e w'=>e=.returned (.tuple #[.int .i64 r1,.bool r2])∧Below w.heap.size w w':=by
 have HB:=jC (Below.refl w.heap.size w);have H:=h;clear h;unfold dh.f at H;have HC2:=jC H;clear H;go_enter Tryz.func89,Tryz.ntmps89
 go_upto_region 1 with (fail)
 go_cut [15] (fun v15 wc=>∃(kq:Nat) (agw:Bool),v15=.bool agw∧aa (dh.j0 kq a0 agw=some (r1,r2))∧aa (kq≤k)∧aa (Below w.heap.size w wc))
 case first=>
  have H:=HC2.o;clear HC2
  replace H:=jD H;obtain ⟨rG,c3,H⟩|⟨rG,c3,H⟩:=H
  ·have Av:decide (a0.size<1)=true:=rM bG;clear c3;(first|rw[rG]|(simp only[jT,kS];rw[rG])|skip);have H':=jC H;clear H
   go_wp2
   go_meet
   case rel=>exact ⟨_,(true),bT,H',⟨Au⟩,⟨dn⟩⟩
  have Av:decide (a0.size<1)=false:=M_ bG;clear c3;(first|rw[rG]|(simp only[jT,kS];rw[rG])|skip);have H':=jC H;clear H
  go_wp2
  go_meet
  case rel=>exact ⟨_,(decide ((a0.size:Int)>20)),bT,H',⟨Au⟩,⟨dn⟩⟩
 case rest=>
  clear HC2;obtain ⟨kq,agw,rfl,HA,YU,HB⟩:=hcut
  cases kq with
  |zero=>exact absurd HA.o (by simp [dh.j0])
  |succ kj1=>
   have H:=HA.o;clear HA;simp only[dh.j0] at H
   replace H:=jB H;obtain ⟨rfl,G⟩|⟨rfl,G⟩:=H
   ·have H:=G;clear G;simp only[Option.some.injEq,Prod.mk.injEq] at H;obtain ⟨rfl,rfl⟩:=H
    go_wp2
    go_ret2;exact ⟨fT,dn⟩
   have H:=G;clear G;obtain ⟨oZ,c5,H⟩:=l5 H;have GY:decide (0<a0.size)=true:=rM bG;clear c5;have HC7:=jC H;clear H;have p6:0≤(0:Int):=bG;have q6:0<a0.size:=(by have:(0:Int)<(a0.size:Int):=oT bL;omega)
   have hx6:∀h:0<a0.size,((a0[0]'h).toNat:Int)=bt a0 0:=d9 a0 0
   clear p6;have qi6:(0<(a0.size:Int))=True:=fO (oT bL);replace q6:=fO q6
   go_upto_if 18 with (fail)
   go_cut [4] (fun v4 wc=>∃(kq:Nat) (acj:Int),v4=.int .i64 acj∧aa (dh.j1 kq a0 acj=some (r1,r2))∧aa (kq≤kj1)∧aa (Below w.heap.size w wc))
   case first=>
    have H:=HC7.o;clear HC7
    replace H:=iE H;obtain ⟨vV,FU,c8,H⟩|⟨vV,FU,-,H⟩:=H
    ·(first|rw[vV]|(simp only[jT,kS];rw[vV])|skip);have H':=jC H;clear H
     go_wp2
     go_meet
     case rel=>exact ⟨_,(0),bT,H',⟨ayK⟩,⟨dn⟩⟩
    (first|rw[vV]|(simp only[jT,kS];rw[vV])|skip);have H':=jC H;clear H
    go_wp2
    go_meet
    case rel=>exact ⟨_,(1),bT,H',⟨ayK⟩,⟨dn⟩⟩
   case rest=>
    clear HC7
    try clear hx6
    obtain ⟨kq,acj,rfl,HA,HJ6,HB⟩:=hcut
    cases kq with
    |zero=>exact absurd HA.o (by simp [dh.j1])
    |succ kj6=>
     have H:=HA.o;clear HA;simp only[dh.j1] at H;have H':=jC H;clear H
     go_wp2
     go_loopg [5,6] kj6 (fun kq v5 v6 w'=>∃(zg:Int) (BD:Int),v5=.int .i64 zg∧v6=.int .i64 BD∧aa (dh.l0 kq a0 acj zg BD=some (r1,r2))∧aa (kq≤kj6)∧aa (Below w.heap.size w w'))
     case atStart=>exact ⟨(0),(acj),bT,bT,H',⟨Nat.le_refl _⟩,⟨dn⟩⟩
     case round=>
      clear H'
      try clear hx6
      obtain ⟨zg,BD,rfl,rfl,HA,Xa,HB⟩:=hrel
      cases gk with
      |zero=>exact absurd HA.o (by simp [dh.l0])
      |succ k3=>
       have H:=HA.o;clear HA;simp only[dh.l0] at H
       replace H:=iD H;obtain ⟨G6,-,H⟩|⟨G6,-,H⟩:=H
       ·replace H:=iE H;obtain ⟨yN,K7,c20,H⟩|⟨yN,K7,-,H⟩:=H
        ·obtain ⟨aFz,A26,H⟩:=bd H
         replace H:=iE H;obtain ⟨EH,UF,c27,H⟩|⟨EH,UF,-,H⟩:=H
         ·simp only[Option.some.injEq,Prod.mk.injEq] at H;obtain ⟨rfl,rfl⟩:=H
          go_wp2_with (first|(refine gR 57 Tryz.func58 #[.int .i64 zg] (iC.calls A26.o) (h:=?_);intro wC hb;replace HB:=jC (ae dn hb)))
          go_ret2;exact ⟨fT,dn⟩
         simp only[Option.some.injEq,Prod.mk.injEq] at H;obtain ⟨rfl,rfl⟩:=H
         go_wp2_with (first|(refine gR 57 Tryz.func58 #[.int .i64 zg] (iC.calls A26.o) (h:=?_);intro wC hb;replace HB:=jC (ae dn hb)))
         go_ret2;exact ⟨fT,dn⟩
        replace H:=jE H;obtain ⟨Ii,Qb,-,H⟩|⟨Ii,Qb,c21,H⟩:=H
        ·simp only[Option.some.injEq,Prod.mk.injEq] at H;obtain ⟨rfl,rfl⟩:=H
         go_wp2
         go_ret2;exact ⟨fT,dn⟩
        obtain ⟨aFy,A22,H⟩:=bd H
        replace H:=iE H;obtain ⟨Ig,aaq,c23,H⟩|⟨Ig,aaq,-,H⟩:=H
        ·simp only[Option.some.injEq,Prod.mk.injEq] at H;obtain ⟨rfl,rfl⟩:=H
         go_wp2_with (first|(refine gR 57 Tryz.func58 #[.int .i64 (wrap64 (-zg))] (iC.calls A22.o) (h:=?_);intro wC hb;replace HB:=jC (ae dn hb)))
         go_ret2;exact ⟨fT,dn⟩
        simp only[Option.some.injEq,Prod.mk.injEq] at H;obtain ⟨rfl,rfl⟩:=H
        go_wp2_with (first|(refine gR 57 Tryz.func58 #[.int .i64 (wrap64 (-zg))] (iC.calls A22.o) (h:=?_);intro wC hb;replace HB:=jC (ae dn hb)))
        go_ret2;exact ⟨fT,dn⟩
       have atX:=jC H;clear H
       go_upto_region 10 with (fail)
       go_cut [35] (fun v35 wc=>∃(kq:Nat) (agx:Bool),v35=.bool agx∧aa (dh.j3 kq a0 acj zg BD agx=some (r1,r2))∧aa (kq≤k3)∧aa (Below w.heap.size w wc))
       case first=>
        have H:=atX.o;clear atX;obtain ⟨yA,-,H⟩:=l5 H;(first|rw[yA]|(simp only[jT,kS];rw[yA])|skip)
        replace H:=jD H;obtain ⟨Qk,-,H⟩|⟨Qk,-,H⟩:=H
        ·have H':=jC H;clear H;obtain ⟨p12,q12⟩:=uw (s:=a0) (i:=BD);have alh:=d9 a0 BD
         go_wp2
         go_meet
         case rel=>exact ⟨_,(true),bT,H',⟨ayv⟩,⟨dn⟩⟩
        have H':=jC H;clear H;obtain ⟨p12,q12⟩:=uw (s:=a0) (i:=BD);have alh:=d9 a0 BD;obtain ⟨p14,q14⟩:=uw (s:=a0) (i:=BD);have atV:=d9 a0 BD
        go_wp2
        go_meet
        case rel=>exact ⟨_,(decide ((bt a0 BD)>57)),bT,H',⟨ayv⟩,⟨dn⟩⟩
       case rest=>
        clear atX
        try clear hx1
        try clear hx6
        try clear alh
        try clear atV
        obtain ⟨kq,agx,rfl,HA,HJ9,HB⟩:=hcut
        cases kq with
        |zero=>exact absurd HA.o (by simp [dh.j3])
        |succ kj9=>
         have H:=HA.o;clear HA;simp only[dh.j3] at H
         replace H:=jB H;obtain ⟨rfl,G⟩|⟨rfl,G⟩:=H
         ·have H:=G;clear G;simp only[Option.some.injEq,Prod.mk.injEq] at H;obtain ⟨rfl,rfl⟩:=H
          go_wp2
          go_ret2;exact ⟨fT,dn⟩
         have H:=G;clear G;obtain ⟨Gg,-,H⟩:=l5 H;obtain ⟨K6,-,H⟩:=l5 H
         replace H:=jD H;obtain ⟨Gd,c19,H⟩|⟨Gd,c19,H⟩:=H
         ·have Qe:decide (zg<Int.tdiv ((-9223372036854775808)+(((bt a0 BD) - 48) % 256)) 10)=true:=by rw[←agv ((((bt a0 BD) - 48) % 256)) (Int.emod_nonneg _ au) (Int.emod_lt_of_pos _ au)];exact Gd
          clear c19;simp only[Option.some.injEq,Prod.mk.injEq] at H;obtain ⟨rfl,rfl⟩:=H;obtain ⟨Xr,Xt⟩:=uw (s:=a0) (i:=BD);have Rf:=d9 a0 BD
          go_wp2
          go_ret2;exact ⟨fT,dn⟩
         have Qe:decide (zg<Int.tdiv ((-9223372036854775808)+(((bt a0 BD) - 48) % 256)) 10)=false:=by rw[←agv ((((bt a0 BD) - 48) % 256)) (Int.emod_nonneg _ au) (Int.emod_lt_of_pos _ au)];exact Gd
         clear c19;have H':=jC H;clear H;obtain ⟨Xr,Xt⟩:=uw (s:=a0) (i:=BD);have Rf:=d9 a0 BD
         go_wp2
         go_roundg kj9
         case measure=>have:=YU.o;have:=HJ6.o;have:=Xa.o;have:=HJ9.o;omega
         case rel=>exact ⟨(wrap64 ((wrap64 (10 * zg)) - (((bt a0 BD) - 48) % 256))),(wrap64 (BD+1)),bT,bT,H',⟨by have:=YU.o;have:=HJ6.o;have:=Xa.o;have:=HJ9.o;omega⟩,⟨dn⟩⟩
def uy.f (k:Nat) (a0:ByteArray):Option (Int × Bool):=(dh.f k a0).bind fun agy=>(if agy.2=true then ((dw.f agy.1 0 999999999).bind fun aFB=>(if aFB=true then (some (agy.1,true)) else (some (0,false)))) else (some (0,false)))
theorem uy.calls {k:Nat} {a0:ByteArray} {r1:Int} {r2:Bool} {w:World} (h:uy.f k a0=some (r1,r2)):
  Calls Tryz.prog 75 #[.string a0] w fun e w'=>e=.returned (.tuple #[.int .i64 r1,.bool r2])∧Below w.heap.size w w':=by
 have HB:=jC (Below.refl w.heap.size w);have H:=h;clear h;unfold uy.f at H;obtain ⟨⟨a3Y,a3Z⟩,A2,H⟩:=bd H
 try dsimp only at H
 replace H:=iB H;obtain ⟨rfl,G⟩|⟨rfl,G⟩:=H
 ·have H:=G;clear G;simp only[Option.some.injEq,Prod.mk.injEq] at H;obtain ⟨rfl,rfl⟩:=H;go_enter Tryz.func75,Tryz.ntmps75
  go_wp2_with (first|(refine gR 8 Tryz.func89 #[.string a0] (dh.calls A2.o) (h:=?_);intro wC hb;replace HB:=jC (ae dn hb)))
  go_ret2;exact ⟨fT,dn⟩
 have H:=G;clear G;obtain ⟨aFB,A4,H⟩:=bd H
 replace H:=jB H;obtain ⟨rfl,H⟩|⟨rfl,H⟩:=H
 ·simp only[Option.some.injEq,Prod.mk.injEq] at H;obtain ⟨rfl,rfl⟩:=H;go_enter Tryz.func75,Tryz.ntmps75
  go_wp2_with (first|(refine gR 8 Tryz.func89 #[.string a0] (dh.calls A2.o) (h:=?_);intro wC hb;replace HB:=jC (ae dn hb))|(go_at_call 47;(with_reducible refine (dw.calls A4.o).mono ?_);rintro e w' ⟨rfl,⟨nd,rfl⟩⟩))
  go_ret2;exact ⟨fT,dn⟩
 simp only[Option.some.injEq,Prod.mk.injEq] at H;obtain ⟨rfl,rfl⟩:=H;go_enter Tryz.func75,Tryz.ntmps75
 go_wp2_with (first|(refine gR 8 Tryz.func89 #[.string a0] (dh.calls A2.o) (h:=?_);intro wC hb;replace HB:=jC (ae dn hb))|(go_at_call 47;(with_reducible refine (dw.calls A4.o).mono ?_);rintro e w' ⟨rfl,⟨nd,rfl⟩⟩))
 go_ret2;exact ⟨fT,dn⟩
mutual
def aV.j0:Nat→ByteArray→Bool→Option (Int × Bool)
 |0,_,_=>none
 |k+1,x0,x4=>if x4=true then (if 1≤(x0.size:Int) then (aV.j1 k (x0.extract 1 x0.size) x4) else (none)) else (aV.j1 k x0 x4)
def aV.j1:Nat→ByteArray→Bool→Option (Int × Bool)
 |0,_,_=>none
 |k+1,x0,x4=>(kP.f k x0 46).bind fun rV=>(if 0<(rV.length:Int) then ((uy.f k (jg ByteArray.empty rV 0)).bind fun agz=>(if agz.2=true then (aV.j2 k x4 rV agz.1 (decide ((rV.length:Int)>2))) else (aV.j2 k x4 rV agz.1 true))) else (none))
def aV.j2:Nat→Bool→List ByteArray→Int→Bool→Option (Int × Bool)
 |0,_,_,_,_=>none
 |k+1,x4,x5,x6,x41=>if x41=true then (some (0,false)) else (if (x5.length:Int)=2 then (if 1<(x5.length:Int) then ((dw.f ((jg ByteArray.empty x5 1).size:Int) 1 3).bind fun aFC=>(if aFC=true then (aV.l0 k x4 x5 (wrap64 (1000 * x6)) 100 0) else (some (0,false)))) else (none)) else (aV.j4 k x4 (wrap64 (1000 * x6))))
def aV.j4:Nat→Bool→Int→Option (Int × Bool)
 |0,_,_=>none
 |k+1,x4,x8=>if x4=true then ((f_.f (wrap64 (-x8))).bind fun aFD=>(if aFD=true then (some (wrap64 (-x8),true)) else (some (0,false)))) else ((f_.f x8).bind fun aFE=>(if aFE=true then (some (x8,true)) else (some (0,false))))
def aV.l0:Nat→Bool→List ByteArray→Int→Int→Int→Option (Int × Bool)
 |0,_,_,_,_,_=>none
 |k+1,x4,x5,x8,x9,K9=>if 1<(x5.length:Int) then (if K9<((jg ByteArray.empty x5 1).size:Int) then (if 0≤K9 then ((dw.f (wrap64 ((wrap64 (bt (jg ByteArray.empty x5 1) K9)) - 48)) 0 9).bind fun aFF=>(if aFF=true then (aV.l0 k x4 x5 (wrap64 (x8+(wrap64 (x9 * (wrap64 ((wrap64 (bt (jg ByteArray.empty x5 1) K9)) - 48)))))) (wrap64 (Int.tdiv x9 10)) (wrap64 (K9+1))) else (some (0,false)))) else (none)) else (aV.j4 k x4 x8)) else (none)
end
def aV.f (k:Nat) (a0:ByteArray):Option (Int × Bool):=if (a0.size:Int)>20 then (some (0,false)) else (if (a0.size:Int)>0 then (if 0<(a0.size:Int) then (aV.j0 k a0 ((bt a0 0)==45)) else (none)) else (aV.j0 k a0 false))
theorem aV.calls {k:Nat} {a0:ByteArray} {r1:Int} {r2:Bool} {w:World} (h:aV.f k a0=some (r1,r2)):
  Calls Tryz.prog 48 #[.string a0] w fun e w'=>e=.returned (.tuple #[.int .i64 r1,.bool r2])∧Below w.heap.size w w':=by
 have HB:=jC (Below.refl w.heap.size w);have H:=h;clear h;unfold aV.f at H
 replace H:=jD H;obtain ⟨CY,c2,H⟩|⟨CY,c2,H⟩:=H
 ·have NF:decide (20<a0.size)=true:=rM bG;clear c2;simp only[Option.some.injEq,Prod.mk.injEq] at H;obtain ⟨rfl,rfl⟩:=H;go_enter Tryz.func48,Tryz.ntmps48
  go_wp2
  go_ret2;exact ⟨fT,dn⟩
 have NF:decide (20<a0.size)=false:=M_ bG;clear c2;have HC3:=jC H;clear H;go_enter Tryz.func48,Tryz.ntmps48
 go_upto_region 3 with (fail)
 go_cut [4] (fun v4 wc=>∃(kq:Nat) (yM:Bool),v4=.bool yM∧aa (aV.j0 kq a0 yM=some (r1,r2))∧aa (kq≤k)∧aa (Below w.heap.size w wc))
 case first=>
  have H:=HC3.o;clear HC3
  replace H:=iD H;obtain ⟨qo,c4,H⟩|⟨qo,c4,H⟩:=H
  ·have Q8:decide (0<a0.size)=false:=M_ bG;clear c4;(first|rw[qo]|(simp only[jT,kS];rw[qo])|skip);have H':=jC H;clear H
   go_wp2
   go_meet
   case rel=>exact ⟨_,(false),bT,H',⟨Au⟩,⟨dn⟩⟩
  have Q8:decide (0<a0.size)=true:=rM bG;clear c4;(first|rw[qo]|(simp only[jT,kS];rw[qo])|skip);obtain ⟨oZ,c5,H⟩:=l5 H;have GY:decide (0<a0.size)=true:=rM bG;clear c5;have H':=jC H;clear H;have p6:0≤(0:Int):=bG;have q6:0<a0.size:=(by have:(0:Int)<(a0.size:Int):=oT bL;omega)
  have hx6:∀h:0<a0.size,((a0[0]'h).toNat:Int)=bt a0 0:=d9 a0 0
  clear p6;have qi6:(0<(a0.size:Int))=True:=fO (oT bL);replace q6:=fO q6
  go_wp2
  go_meet
  case rel=>exact ⟨_,(((bt a0 0)==45)),bT,H',⟨Au⟩,⟨dn⟩⟩
 case rest=>
  clear HC3
  try clear hx6
  obtain ⟨kq,yM,rfl,HA,HJ2,HB⟩:=hcut
  cases kq with
  |zero=>exact absurd HA.o (by simp [aV.j0])
  |succ kj2=>
   have H:=HA.o;clear HA;simp only[aV.j0] at H;have HC7:=jC H;clear H
   go_upto_if 23 with (fail)
   go_cut [0] (fun v0 wc=>∃(kq:Nat) (ali:ByteArray),v0=.string ali∧aa (aV.j1 kq ali yM=some (r1,r2))∧aa (kq≤kj2)∧aa (Below w.heap.size w wc))
   case first=>
    have H:=HC7.o;clear HC7
    replace H:=iB H;obtain ⟨rfl,G⟩|⟨rfl,G⟩:=H
    ·have H:=G;clear G;have H':=jC H;clear H
     go_wp2
     go_meet
     case rel=>exact ⟨_,(a0),bT,H',⟨ayJ⟩,⟨dn⟩⟩
    have H:=G;clear G;obtain ⟨c9,H⟩:=nD H;have G6:=fO c9;have ab5:=rM c9;clear c9;have H':=jC H;clear H
    go_wp2
    go_meet
    case rel=>exact ⟨_,(a0.extract 1 a0.size),bT,H',⟨ayJ⟩,⟨dn⟩⟩
   case rest=>
    clear HC7
    try clear hx6
    obtain ⟨kq,ali,rfl,HA,HJ6,HB⟩:=hcut
    cases kq with
    |zero=>exact absurd HA.o (by simp [aV.j1])
    |succ kj6=>
     have H:=HA.o;clear HA;simp only[aV.j1] at H;obtain ⟨rV,A10,H⟩:=bd H;obtain ⟨yA,c11,H⟩:=l5 H;have Qa:decide (0<rV.length)=true:=rM bG;clear c11;obtain ⟨⟨atY,a4a⟩,Y0,H⟩:=bd H
     try dsimp only at H
     have atZ:=jC H;clear H
     go_upto_region 8 with (first|(refine gC 27 Tryz.func74 #[.string ali,.int .u8 46] (kP.calls A10.o) (h:=?_);rintro e Xi ⟨a4b,rfl,ho0,hb⟩;refine ⟨_,rfl,?_⟩;have n_:=jA (Kd.dC ho0 (ah dn)) (jC (ae dn hb));clear HB;obtain ⟨Ug,HB⟩:=n_;obtain ⟨Pb,LM,UV⟩:=Kd.bR Ug.o;subst UV;have at0:0≤(0:Int):=bG;have at5:0<(rV.length:Int):=oT bL;obtain ⟨IU,aSs,IV⟩:=Kd.oP (Kd.a_ Ug.o).2.2 0 at0 at5;cases aSs;have aYD:(0<rV.length)=True:=fO bG;(try rw[show ((0:Int)).toNat=0 from rfl] at IV);(try rw[Addr.add_zero'] at IV);replace at0:=fO at0;replace at5:=fO at5)|(refine gR 32 Tryz.func75 #[.string (jg ByteArray.empty rV 0)] (uy.calls Y0.o) (h:=?_);intro w16 hb;have n_:=jA (Kd.bX aqO hb) (jC (ae dn hb));clear Ug HB;obtain ⟨Ug,HB⟩:=n_))
     (try simp only[Act.put,List.setIfInBounds_toArray,List.set_cons_zero,List.set_cons_succ])
     go_cut [41] (fun v41 wc=>∃(kq:Nat) (XW:Bool),v41=.bool XW∧aa (aV.j2 kq yM rV atY XW=some (r1,r2))∧aa (kq≤kj6)∧aa (Kd.R Kd.string 9 wc w.heap.size (fun _=>True) (.slice (some IU) rV.length LM) rV)∧aa (Below w.heap.size w wc))
     case first=>
      have H:=atZ.o;clear atZ
      replace H:=jB H;obtain ⟨rfl,G⟩|⟨rfl,G⟩:=H
      ·have H:=G;clear G;have H':=jC H;clear H
       go_wp2
       go_meet
       case rel=>exact ⟨_,(decide ((rV.length:Int)>2)),bT,H',⟨ayD⟩,⟨aqO⟩,⟨dn⟩⟩
      have H:=G;clear G;have H':=jC H;clear H
      go_wp2
      go_meet
      case rel=>exact ⟨_,(true),bT,H',⟨ayD⟩,⟨aqO⟩,⟨dn⟩⟩
     case rest=>
      clear atZ
      try clear hx6
      try clear hx8
      try clear IV
      obtain ⟨kq,XW,rfl,HA,alj,gK,HB⟩:=hcut
      cases kq with
      |zero=>exact absurd HA.o (by simp [aV.j2])
      |succ at6=>
       have H:=HA.o;clear HA;simp only[aV.j2] at H
       replace H:=jB H;obtain ⟨rfl,G⟩|⟨rfl,G⟩:=H
       ·have H:=G;clear G;simp only[Option.some.injEq,Prod.mk.injEq] at H;obtain ⟨rfl,rfl⟩:=H
        go_wp2
        go_ret2;exact ⟨fT,dn⟩
       have H:=G;clear G;have at7:=jC H;clear H
       go_upto_if 46 with (fail)
       go_cut [8] (fun v8 wc=>∃(kq:Nat) (NV:Int),v8=.int .i64 NV∧aa (aV.j4 kq yM NV=some (r1,r2))∧aa (kq≤at6)∧aa (Below w.heap.size w wc))
       case first=>
        have H:=at7.o;clear at7
        replace H:=iE H;obtain ⟨yN,K7,c20,H⟩|⟨yN,K7,-,H⟩:=H
        ·(first|rw[yN]|(simp only[jT,kS];rw[yN])|skip);have H':=jC H;clear H
         go_wp2
         go_meet
         case rel=>exact ⟨_,(wrap64 (1000 * atY)),bT,H',⟨by have:=HJ2.o;have:=HJ6.o;have:=alj.o;first|omega|exact Nat.le_refl _⟩,⟨dn⟩⟩
        (first|rw[yN]|(simp only[jT,kS];rw[yN])|skip);obtain ⟨Ii,c21,H⟩:=l5 H;have Qb:decide (1<rV.length)=true:=rM bG;clear c21;obtain ⟨aFC,A22,H⟩:=bd H
        replace H:=iB H;obtain ⟨rfl,H⟩|⟨rfl,H⟩:=H
        ·simp only[Option.some.injEq,Prod.mk.injEq] at H;obtain ⟨rfl,rfl⟩:=H;have XX:0≤(1:Int):=bG;have XY:1<(rV.length:Int):=oT bL;obtain ⟨agA,aua,Dm⟩:=Kd.oP (Kd.a_ gK.o).2.2 1 XX XY;obtain rfl:IU=agA:=(by injection aua);(try simp only[show (1:Int).toNat=1 from rfl,Nat.reduceMul,Nat.reduceEqDiff,Go.Addr.add,↓reduceIte] at Dm);have aFG:(1<rV.length)=True:=fO bG;(try rw[show ((1:Int)).toNat=1 from rfl] at Dm);replace XX:=fO XX;replace XY:=fO XY
         go_wp2_with (first|(refine gR 51 Tryz.func47 #[.int .i64 ((jg ByteArray.empty rV 1).size:Int),.int .i64 1,.int .i64 3] (dw.calls A22.o) (h:=?_);rintro w' ⟨nd,rfl⟩))
         go_ret2;exact ⟨fT,dn⟩
        have H':=jC H;clear H;have XX:0≤(1:Int):=bG;have XY:1<(rV.length:Int):=oT bL;obtain ⟨agA,aua,Dm⟩:=Kd.oP (Kd.a_ gK.o).2.2 1 XX XY;obtain rfl:IU=agA:=(by injection aua);(try simp only[show (1:Int).toNat=1 from rfl,Nat.reduceMul,Nat.reduceEqDiff,Go.Addr.add,↓reduceIte] at Dm);have aFG:(1<rV.length)=True:=fO bG;(try rw[show ((1:Int)).toNat=1 from rfl] at Dm);replace XX:=fO XX;replace XY:=fO XY
        go_wp2_with (first|(refine gR 51 Tryz.func47 #[.int .i64 ((jg ByteArray.empty rV 1).size:Int),.int .i64 1,.int .i64 3] (dw.calls A22.o) (h:=?_);rintro w' ⟨nd,rfl⟩))
        go_loopg [8,9,10] at6 (fun kq v8 v9 v10 w'=>∃(agB:Int) (agC:Int) (Ck:Int),v8=.int .i64 agB∧v9=.int .i64 agC∧v10=.int .i64 Ck∧aa (aV.l0 kq yM rV agB agC Ck=some (r1,r2))∧aa (kq≤at6)∧aa (Kd.R Kd.string 9 w' w.heap.size (fun _=>True) (.slice (some IU) rV.length LM) rV)∧aa (Below w.heap.size w w'))
        case atStart=>exact ⟨(wrap64 (1000 * atY)),(100),(0),bT,bT,bT,H',⟨Nat.le_refl _⟩,⟨OQ⟩,⟨dn⟩⟩
        case round=>
         clear H'
         try clear hx6
         try clear hx8
         try clear IV
         try clear Dm
         obtain ⟨agB,agC,Ck,rfl,rfl,rfl,HA,HK4,gK,HB⟩:=hrel
         cases gk with
         |zero=>exact absurd HA.o (by simp [aV.l0])
         |succ k4=>
          have H:=HA.o;clear HA;simp only[aV.l0] at H;obtain ⟨ank,c24,H⟩:=l5 H;have azR:decide (1<rV.length)=true:=rM bG;clear c24
          replace H:=iD H;obtain ⟨aeV,-,H⟩|⟨aeV,-,H⟩:=H
          ·have H':=jC H;clear H;have NW:0≤(1:Int):=bG;have NY:1<(rV.length:Int):=oT bL;obtain ⟨Vx,agD,zK⟩:=Kd.oP (Kd.a_ gK.o).2.2 1 NW NY;obtain rfl:IU=Vx:=(by injection agD);(try simp only[show (1:Int).toNat=1 from rfl,Nat.reduceMul,Nat.reduceEqDiff,Go.Addr.add,↓reduceIte] at zK);have aoU:(1<rV.length)=True:=fO bG;(try rw[show ((1:Int)).toNat=1 from rfl] at zK);replace NW:=fO NW;replace NY:=fO NY
           go_wp2
           go_meet
           case rel=>exact ⟨_,(agB),bT,H',⟨by have:=HJ2.o;have:=HJ6.o;have:=alj.o;have:=HK4.o;first|omega|exact Nat.le_refl _⟩,⟨dn⟩⟩
          obtain ⟨aAY,-,H⟩:=l5 H;obtain ⟨aFF,A28,H⟩:=bd H
          replace H:=iB H;obtain ⟨rfl,H⟩|⟨rfl,H⟩:=H
          ·simp only[Option.some.injEq,Prod.mk.injEq] at H;obtain ⟨rfl,rfl⟩:=H;have NW:0≤(1:Int):=bG;have NY:1<(rV.length:Int):=oT bL;obtain ⟨Vx,agD,zK⟩:=Kd.oP (Kd.a_ gK.o).2.2 1 NW NY;obtain rfl:IU=Vx:=(by injection agD);(try simp only[show (1:Int).toNat=1 from rfl,Nat.reduceMul,Nat.reduceEqDiff,Go.Addr.add,↓reduceIte] at zK);have aoU:(1<rV.length)=True:=fO bG;(try rw[show ((1:Int)).toNat=1 from rfl] at zK);replace NW:=fO NW;replace NY:=fO NY;have XZ:0≤(1:Int):=bG;have X0:1<(rV.length:Int):=oT bL;obtain ⟨agE,aub,Fx⟩:=Kd.oP (Kd.a_ gK.o).2.2 1 XZ X0;obtain rfl:IU=agE:=(by injection aub);(try simp only[show (1:Int).toNat=1 from rfl,Nat.reduceMul,Nat.reduceEqDiff,Go.Addr.add,↓reduceIte] at Fx);have aFH:(1<rV.length)=True:=fO bG;(try rw[show ((1:Int)).toNat=1 from rfl] at Fx);replace XZ:=fO XZ;replace X0:=fO X0;have p27:0≤(Ck:Int):=oT bL;have q27:Ck<((jg ByteArray.empty rV 1).size:Int):=oT bL;have hx27:=d9 (jg ByteArray.empty rV 1) Ck;replace p27:=fO p27;replace q27:=fO q27
           go_wp2_with (first|(refine gR 69 Tryz.func47 #[.int .i64 (wrap64 ((wrap64 (bt (jg ByteArray.empty rV 1) Ck)) - 48)),.int .i64 0,.int .i64 9] (dw.calls A28.o) (h:=?_);rintro w' ⟨nd,rfl⟩))
           go_ret2;exact ⟨fT,dn⟩
          have H':=jC H;clear H;have NW:0≤(1:Int):=bG;have NY:1<(rV.length:Int):=oT bL;obtain ⟨Vx,agD,zK⟩:=Kd.oP (Kd.a_ gK.o).2.2 1 NW NY;obtain rfl:IU=Vx:=(by injection agD);(try simp only[show (1:Int).toNat=1 from rfl,Nat.reduceMul,Nat.reduceEqDiff,Go.Addr.add,↓reduceIte] at zK);have aoU:(1<rV.length)=True:=fO bG;(try rw[show ((1:Int)).toNat=1 from rfl] at zK);replace NW:=fO NW;replace NY:=fO NY;have XZ:0≤(1:Int):=bG;have X0:1<(rV.length:Int):=oT bL;obtain ⟨agE,aub,Fx⟩:=Kd.oP (Kd.a_ gK.o).2.2 1 XZ X0;obtain rfl:IU=agE:=(by injection aub);(try simp only[show (1:Int).toNat=1 from rfl,Nat.reduceMul,Nat.reduceEqDiff,Go.Addr.add,↓reduceIte] at Fx);have aFH:(1<rV.length)=True:=fO bG;(try rw[show ((1:Int)).toNat=1 from rfl] at Fx);replace XZ:=fO XZ;replace X0:=fO X0;have p27:0≤(Ck:Int):=oT bL;have q27:Ck<((jg ByteArray.empty rV 1).size:Int):=oT bL;have hx27:=d9 (jg ByteArray.empty rV 1) Ck;replace p27:=fO p27;replace q27:=fO q27
          go_wp2_with (first|(refine gR 69 Tryz.func47 #[.int .i64 (wrap64 ((wrap64 (bt (jg ByteArray.empty rV 1) Ck)) - 48)),.int .i64 0,.int .i64 9] (dw.calls A28.o) (h:=?_);rintro w' ⟨nd,rfl⟩))
          go_roundg k4
          case measure=>have:=HJ2.o;have:=HJ6.o;have:=alj.o;have:=HK4.o;omega
          case rel=>exact ⟨(wrap64 (agB+(wrap64 (agC * (wrap64 ((wrap64 (bt (jg ByteArray.empty rV 1) Ck)) - 48)))))),(wrap64 (Int.tdiv agC 10)),(wrap64 (Ck+1)),bT,bT,bT,H',⟨by have:=HJ2.o;have:=HJ6.o;have:=alj.o;have:=HK4.o;omega⟩,⟨OQ⟩,⟨dn⟩⟩
       case rest=>
        clear at7
        try clear hx2
        try clear hx6
        try clear hx8
        try clear hx27
        try clear IV
        try clear Dm
        try clear zK
        try clear Fx
        obtain ⟨kq,NV,rfl,HA,a4c,HB⟩:=hcut
        cases kq with
        |zero=>exact absurd HA.o (by simp [aV.j4])
        |succ a4d=>
         have H:=HA.o;clear HA;simp only[aV.j4] at H
         replace H:=jB H;obtain ⟨rfl,G⟩|⟨rfl,G⟩:=H
         ·have H:=G;clear G;obtain ⟨aFD,A31,H⟩:=bd H
          replace H:=jB H;obtain ⟨rfl,H⟩|⟨rfl,H⟩:=H
          ·simp only[Option.some.injEq,Prod.mk.injEq] at H;obtain ⟨rfl,rfl⟩:=H
           go_wp2_with (first|(refine gR 82 Tryz.func51 #[.int .i64 (wrap64 (-NV))] (f_.calls A31.o) (h:=?_);rintro w' ⟨nd,rfl⟩))
           go_ret2;exact ⟨fT,dn⟩
          simp only[Option.some.injEq,Prod.mk.injEq] at H;obtain ⟨rfl,rfl⟩:=H
          go_wp2_with (first|(refine gR 82 Tryz.func51 #[.int .i64 (wrap64 (-NV))] (f_.calls A31.o) (h:=?_);rintro w' ⟨nd,rfl⟩))
          go_ret2;exact ⟨fT,dn⟩
         have H:=G;clear G;obtain ⟨aFE,A33,H⟩:=bd H
         replace H:=jB H;obtain ⟨rfl,H⟩|⟨rfl,H⟩:=H
         ·simp only[Option.some.injEq,Prod.mk.injEq] at H;obtain ⟨rfl,rfl⟩:=H
          go_wp2_with (first|(refine gR 82 Tryz.func51 #[.int .i64 NV] (f_.calls A33.o) (h:=?_);rintro w' ⟨nd,rfl⟩))
          go_ret2;exact ⟨fT,dn⟩
         simp only[Option.some.injEq,Prod.mk.injEq] at H;obtain ⟨rfl,rfl⟩:=H
         go_wp2_with (first|(refine gR 82 Tryz.func51 #[.int .i64 NV] (f_.calls A33.o) (h:=?_);rintro w' ⟨nd,rfl⟩))
         go_ret2;exact ⟨fT,dn⟩
end Go.Proofs.YtkjbbnijhpldhaaGreatDoor.QFnTable
