/- The machine side of FnTable: what each Go function that it reaches comes to. Conditions: none. -/
import Derived.Test.YtkjbbnijhpldhaaGreatDoorQFnTablex17
namespace Go.Proofs.YtkjbbnijhpldhaaGreatDoor.QFnTable
open Go.RowKit Go.Proofs.YtkjbbnijhpldhaaGreatDoorW.PrintWords Go.Proofs.YtkjbbnijhpldhaaGreatDoorW.PrintLast Go.Proofs.YtkjbbnijhpldhaaGreatDoorW.PrintMore
attribute [local go_sem] oq ou qN qO mr mD ow oz
set_option linter.unusedVariables false
set_option linter.unusedSimpArgs false
set_option maxHeartbeats 8000000
set_option maxRecDepth 100000
def jZ.f (bi:ByteArray) (gL:Int):Option (Int × ByteArray × Int):=if 0≤gL then (if gL≤(bi.size:Int) then (if (bi.extract (gL:Int).toNat bi.size).toList=([]:List UInt8) then (some (2,bi,gL)) else (if 0<((bi.extract (gL:Int).toNat bi.size).size:Int) then (if (bt (bi.extract (gL:Int).toNat bi.size) 0)=44 then (some (1,bi,wrap64 (gL+1))) else (if (bt (bi.extract (gL:Int).toNat bi.size) 0)=10 then (some (2,bi,wrap64 (gL+1))) else ((strings_HasPrefix.f (bi.extract (gL:Int).toNat bi.size) (⟨#[13,10]⟩:ByteArray)).bind fun aBs=>(if aBs=true then (some (2,bi,wrap64 (gL+2))) else (some (3,bi,gL)))))) else (none))) else (none)) else (none)
theorem jZ.calls {g:Nat} {bi:ByteArray} {gL:Int} {r1:Int} {r2:ByteArray} {r3:Int} (w0 w:World) (hI:bU w0 w g bi gL) (hB:Below w0.heap.size w0 w) (h:jZ.f bi gL=some (r1,r2,r3)):
  Calls Tryz.prog 65 #[.pointer (some ⟨g,0,none⟩)] w fun e w'=>e=.returned (.int .i64 r1)∧bU w0 w' g r2 r3∧Below w0.heap.size w0 w'∧aA w w' g none:=by
 have HI0:=jC hI;have HK:=jC (aA.refl w g none);have HL:=jC hB.size;clear hI;have HW0:=jC hB.size;have HB:=jC hB;clear hB;have H:=h;clear h;unfold jZ.f at H;obtain ⟨c2,H⟩:=nD H;have CY:=fO c2;have NF:=rM c2;clear c2;obtain ⟨c3,H⟩:=nD H;have rG:=fO c3;have Av:=rM c3;clear c3
 obtain ⟨sx,hsx⟩:∃sx:ByteArray,bi.extract (gL:Int).toNat bi.size=sx:=⟨_,rfl⟩
 rw[hsx] at H
 replace H:=jE H;obtain ⟨qo,Q8,-,H⟩|⟨qo,Q8,c4,H⟩:=H
 ·simp only[Option.some.injEq,Prod.mk.injEq] at H;obtain ⟨rfl,rfl,rfl⟩:=H;obtain ⟨LF,aq2⟩:=HI0.o;have aq3:=nG LF;have aq4:=nH LF;have aPe:=az LF 0;have aq5:=az LF 1;clear LF aq2;go_enter Tryz.func65,Tryz.ntmps65
  go_wp2
  repeat (go_quiet (fail);try go_wp2)
  go_ret;exact ⟨fT,mW,FQ,qy⟩
 obtain ⟨vU,c6,H⟩:=l5 H;have Us:decide (0<sx.size)=true:=rM bG;clear c6
 replace H:=jE H;obtain ⟨vV,FU,-,H⟩|⟨vV,FU,c8,H⟩:=H
 ·simp only[Option.some.injEq,Prod.mk.injEq] at H;obtain ⟨rfl,rfl,rfl⟩:=H;obtain ⟨ae0,aPf⟩:=HI0.o;have aPg:=nG ae0;have aPh:=nH ae0;have aPi:=az ae0 0;have aPj:=az ae0 1;clear ae0 aPf;have p7:0≤(0:Int):=bG;have q7:0<sx.size:=(by have:(0:Int)<(sx.size:Int):=oT bL;omega)
  have hx7:∀h:0<sx.size,((sx[0]'h).toNat:Int)=bt sx 0:=d9 sx 0
  clear p7;have qi7:(0<(sx.size:Int))=True:=fO (oT bL);replace q7:=fO q7;go_enter Tryz.func65,Tryz.ntmps65
  go_wp2
  repeat (go_quiet (fail);try go_wp2)
  go_ret;exact ⟨fT,mW,FQ,qy⟩
 replace H:=jE H;obtain ⟨yA,Qa,-,H⟩|⟨yA,Qa,c11,H⟩:=H
 ·simp only[Option.some.injEq,Prod.mk.injEq] at H;obtain ⟨rfl,rfl,rfl⟩:=H;obtain ⟨UO,aBu⟩:=HI0.o;have aKg:=nG UO;have aKh:=nH UO;have aKi:=az UO 0;have aKj:=az UO 1;clear UO aBu;have p7:0≤(0:Int):=bG;have q7:0<sx.size:=(by have:(0:Int)<(sx.size:Int):=oT bL;omega)
  have hx7:∀h:0<sx.size,((sx[0]'h).toNat:Int)=bt sx 0:=d9 sx 0
  clear p7;have qi7:(0<(sx.size:Int))=True:=fO (oT bL);replace q7:=fO q7;have p10:0≤(0:Int):=bG;have Zr:0<sx.size:=(by have:(0:Int)<(sx.size:Int):=oT bL;omega)
  have Ro:∀h:0<sx.size,((sx[0]'h).toNat:Int)=bt sx 0:=d9 sx 0
  clear p10;have aBv:(0<(sx.size:Int))=True:=fO (oT bL);replace Zr:=fO Zr;go_enter Tryz.func65,Tryz.ntmps65
  go_wp2
  repeat (go_quiet (fail);try go_wp2)
  go_ret;exact ⟨fT,mW,FQ,qy⟩
 obtain ⟨aBs,A13,H⟩:=bd H
 replace H:=jB H;obtain ⟨rfl,H⟩|⟨rfl,H⟩:=H
 ·simp only[Option.some.injEq,Prod.mk.injEq] at H;obtain ⟨rfl,rfl,rfl⟩:=H;obtain ⟨UQ,aBw⟩:=HI0.o;have aKk:=nG UQ;have aKl:=nH UQ;have aKm:=az UQ 0;have aKn:=az UQ 1;clear UQ aBw;have p7:0≤(0:Int):=bG;have q7:0<sx.size:=(by have:(0:Int)<(sx.size:Int):=oT bL;omega)
  have hx7:∀h:0<sx.size,((sx[0]'h).toNat:Int)=bt sx 0:=d9 sx 0
  clear p7;have qi7:(0<(sx.size:Int))=True:=fO (oT bL);replace q7:=fO q7;have p10:0≤(0:Int):=bG;have Zr:0<sx.size:=(by have:(0:Int)<(sx.size:Int):=oT bL;omega)
  have Ro:∀h:0<sx.size,((sx[0]'h).toNat:Int)=bt sx 0:=d9 sx 0
  clear p10;have aBv:(0<(sx.size:Int))=True:=fO (oT bL);replace Zr:=fO Zr;go_enter Tryz.func65,Tryz.ntmps65
  go_wp2_with (first|(go_at_call 85;(with_reducible refine (strings_HasPrefix.calls A13.o).mono ?_);rintro e w' ⟨rfl,⟨nd,rfl⟩⟩;(try exact zD)))
  repeat (go_quiet (first|(go_at_call 85;(with_reducible refine (strings_HasPrefix.calls A13.o).mono ?_);rintro e w' ⟨rfl,⟨nd,rfl⟩⟩;(try exact zD)));try go_wp2_with (first|(go_at_call 85;(with_reducible refine (strings_HasPrefix.calls A13.o).mono ?_);rintro e w' ⟨rfl,⟨nd,rfl⟩⟩;(try exact zD))))
  go_ret;exact ⟨fT,mW,FQ,qy⟩
 simp only[Option.some.injEq,Prod.mk.injEq] at H;obtain ⟨rfl,rfl,rfl⟩:=H;obtain ⟨UR,aBx⟩:=HI0.o;have aKo:=nG UR;have aKp:=nH UR;have aKq:=az UR 0;have aKr:=az UR 1;clear UR aBx;have p7:0≤(0:Int):=bG;have q7:0<sx.size:=(by have:(0:Int)<(sx.size:Int):=oT bL;omega)
 have hx7:∀h:0<sx.size,((sx[0]'h).toNat:Int)=bt sx 0:=d9 sx 0
 clear p7;have qi7:(0<(sx.size:Int))=True:=fO (oT bL);replace q7:=fO q7;have p10:0≤(0:Int):=bG;have Zr:0<sx.size:=(by have:(0:Int)<(sx.size:Int):=oT bL;omega)
 have Ro:∀h:0<sx.size,((sx[0]'h).toNat:Int)=bt sx 0:=d9 sx 0
 clear p10;have aBv:(0<(sx.size:Int))=True:=fO (oT bL);replace Zr:=fO Zr;go_enter Tryz.func65,Tryz.ntmps65
 go_wp2_with (first|(go_at_call 85;(with_reducible refine (strings_HasPrefix.calls A13.o).mono ?_);rintro e w' ⟨rfl,⟨nd,rfl⟩⟩;(try exact zD)))
 repeat (go_quiet (first|(go_at_call 85;(with_reducible refine (strings_HasPrefix.calls A13.o).mono ?_);rintro e w' ⟨rfl,⟨nd,rfl⟩⟩;(try exact zD)));try go_wp2_with (first|(go_at_call 85;(with_reducible refine (strings_HasPrefix.calls A13.o).mono ?_);rintro e w' ⟨rfl,⟨nd,rfl⟩⟩;(try exact zD))))
 go_ret;exact ⟨fT,mW,FQ,qy⟩
mutual
def bZ.l0:Nat→ByteArray→List (List ByteArray)→List ByteArray→ByteArray→Int→Option ((List (List ByteArray)) × Int × Int × Int)
 |0,_,_,_,_,_=>none
 |k+1,x0,x5,x6,ym,um=>if um<(x0.size:Int) then (bZ.j1 k x0 x5 x6 true ym um) else (bZ.j1 k x0 x5 x6 (decide ((x6.length:Int)>0)) ym um)
def bZ.j1:Nat→ByteArray→List (List ByteArray)→List ByteArray→Bool→ByteArray→Int→Option ((List (List ByteArray)) × Int × Int × Int)
 |0,_,_,_,_,_,_=>none
 |k+1,x0,x5,x6,x30,ym,um=>if x30=true then (if um<(x0.size:Int) then (if 0≤um then (bZ.j2 k x0 x5 x6 true ((bt x0 um)==34) ym um) else (none)) else (bZ.j2 k x0 x5 x6 true false ym um)) else (some (x5,0,0,0))
def bZ.j2:Nat→ByteArray→List (List ByteArray)→List ByteArray→Bool→Bool→ByteArray→Int→Option ((List (List ByteArray)) × Int × Int × Int)
 |0,_,_,_,_,_,_,_=>none
 |k+1,x0,x5,x6,x8,x46,ym,um=>if x46=true then ((af.f k ym um).bind fun Zt=>(bZ.j3 k x0 x5 x6 Zt.1 Zt.2.1 Zt.2.2.1 Zt.2.2.2)) else ((aK.f ym um).bind fun ae1=>(bZ.j3 k x0 x5 x6 ae1.1 x8 ae1.2.1 ae1.2.2))
def bZ.j3:Nat→ByteArray→List (List ByteArray)→List ByteArray→ByteArray→Bool→ByteArray→Int→Option ((List (List ByteArray)) × Int × Int × Int)
 |0,_,_,_,_,_,_,_=>none
 |k+1,x0,x5,x6,x7,x8,ym,um=>if x8=true then (if x6.length<8796093022208 then ((some (x6++ [x7]:List ByteArray)).bind fun UT=>((jZ.f ym um).bind fun Qf=>(if Qf.1=3 then (some (([]:List (List ByteArray)),2,(x5.length:Int),(x6.length:Int))) else (if Qf.1=2 then (if x5.length<5864062014805 then (bZ.l0 k x0 (x5++ [UT]) ([]:List ByteArray) Qf.2.1 Qf.2.2) else (none)) else (bZ.l0 k x0 x5 UT Qf.2.1 Qf.2.2))))) else (none)) else (some (([]:List (List ByteArray)),2,(x5.length:Int),(x6.length:Int)))
end
def bZ.f (k:Nat) (a0:ByteArray):Option ((List (List ByteArray)) × Int × Int × Int):=if (a0.size:Int)>4000 then (some (([]:List (List ByteArray)),1,0,0)) else (bZ.l0 k a0 (([]:List (List ByteArray))) (([]:List ByteArray)) a0 0)
theorem bZ.calls {k:Nat} {a0:ByteArray} {r1:List (List ByteArray)} {r2:Int} {r3:Int} {r4:Int} {w:World} (h:bZ.f k a0=some (r1,r2,r3,r4)):
  Calls Tryz.prog 28 #[.string a0] w fun e w'=>∃Ee:Value,e=.returned (.tuple #[Ee,.agg #[.int .i64 r2,.int .i64 r3,.int .i64 r4]])∧Kd.S (Kd.slice 9 Kd.string) 24 w' w.heap.size (fun _=>True) Ee r1∧Below w.heap.size w w':=by
 have Xy:=Tryz.underlying33;have a1B:=Tryz.underlying79;have HB:=jC (Below.refl w.heap.size w);have H:=h;clear h;unfold bZ.f at H
 replace H:=jD H;obtain ⟨CY,c2,H⟩|⟨CY,c2,H⟩:=H
 ·have NF:decide (4000<a0.size)=true:=rM bG;clear c2;simp only[Option.some.injEq,Prod.mk.injEq] at H;obtain ⟨rfl,rfl,rfl,rfl⟩:=H;go_enter Tryz.func28,Tryz.ntmps28
  go_wp2_with (first|((with_reducible refine aG (N:=3) rfl ?_);(try (refine cO ek ?_;dsimp only));refine bE 3 #[.int .i64 0,.int .i64 0,.int .i64 0] 33 (h:=?_);intro l6 hg wC hbox hb;have n_:=Z55;clear HB;obtain ⟨HB,gY,YM⟩:=n_;clear hb hbox hg;obtain ⟨_,_,_,_,_,_⟩:=cells3 gY.o))
  refine bodyPost_ret (nR rfl _ _ l6 33 #[.int .i64 1,.int .i64 0,.int .i64 0] (0,0) _ rfl ajt Tryz.underlying33 rfl bD) rfl ?_;exact ⟨_,fT,Bu,aqh⟩
 have NF:decide (4000<a0.size)=false:=M_ bG;clear c2;generalize hyy:(([]:List (List ByteArray)))=aPk at H;have anQ:=jC hyy.symm;clear hyy;generalize hyy:(([]:List ByteArray))=aPl at H;have anR:=jC hyy.symm;clear hyy;have H':=jC H;clear H;go_enter Tryz.func28,Tryz.ntmps28
 go_wp2_with (first|((with_reducible refine aG (N:=3) rfl ?_);(try (refine cO ek ?_;dsimp only));refine bE 3 #[.int .i64 0,.int .i64 0,.int .i64 0] 33 (h:=?_);intro l6 hg w5 hbox hb;have n_:=Z55;clear HB;obtain ⟨HB,gY,YM⟩:=n_;clear hb hbox hg)|((with_reducible refine aG (N:=16) rfl ?_);(try (refine cO ek ?_;dsimp only));refine bE 16 #[.string a0,.int .i64 0] 79 (h:=?_);intro rQ hg w6 hbox hb;have n_:=jA (dE gY hb) (jA (ae aqh hb) (jA ((apW:l6≠rQ)) (jA ((apX:rQ≠l6)) (jC ((show bU w _ rQ a0 0 from ⟨hbox,(by rw[hg];exact (ah aqh))⟩))))));clear gY HB;obtain ⟨gY,HB,Ff,Cb,jQ⟩:=n_;clear hb hbox hg)|((with_reducible refine aG (N:=17) rfl ?_);(try (refine cO ek ?_;dsimp only));refine Kd.Zu (Kd.slice 9 Kd.string) _ 24 ?hg (N:=17) ?hd (xs:=([]:List (List ByteArray))) (inner:=[]) (ok:=fun _=>True) (okp:=fun _=>True) ?hr ?hp rE trivial (Below.refl _ _) (Nat.le_refl _) gQ ?_;(case hd=>rfl);(case hg=>rfl);(case hr=>exact kz);(case hp=>exact xk);intro a1C w7 ho8 hb hg_ hnew_;clear hg_ hnew_;(first|rw[←anQ.o] at ho8|(simp only[Int.reduceToNat] at ho8;rw[←anQ.o] at ho8));have n_:=jA (Kd.sZ ho8 (ah Eu)) (jA (dE gY hb) (jA (bU.below CR hb) (jC (ae Eu hb))));clear gY jQ HB;obtain ⟨Zv,gY,jQ,HB⟩:=n_;clear hb ho8)|((with_reducible refine aG (N:=18) rfl ?_);(try (refine cO ek ?_;dsimp only));refine Kd.sQ Kd.string _ 9 ?hg (N:=18) ?hd (xs:=([]:List ByteArray)) (inner:=[]) (ok:=fun _=>True) (okp:=fun _=>True) ?hr ?hp rE trivial (Below.refl _ _) (Nat.le_refl _) gQ ?_;(case hd=>rfl);(case hg=>rfl);(case hr=>exact kz);(case hp=>exact xk);intro a1D w9 ab8 hb hg_ hnew_;clear hg_ hnew_;(first|rw[←anR.o] at ab8|(simp only[Int.reduceToNat] at ab8;rw[←anR.o] at ab8));have n_:=jA (Kd.tK (by refine pS ?_;exact Zv.o) (Kd.dJ ab8) hb) (jA (Kd.dC ab8 (ah Eu)) (jA (dE gY hb) (jA (bU.below CR hb) (jC (ae Eu hb)))));clear Zv gY jQ HB;obtain ⟨Zv,aBz,gY,jQ,HB⟩:=n_;clear hb ab8))
 go_loopg [5,6] k (fun kq v5 v6 w'=>∃(dY:List (List ByteArray)) (og:List ByteArray) (pK:Int) (pM:Int) (pO:Int) (uO:ByteArray) (qG:Int),aa (bZ.l0 kq a0 dY og uO qG=some (r1,r2,r3,r4))∧aa (kq≤k)∧aa (Kd.S (Kd.slice 9 Kd.string) 24 w' w.heap.size (fun k_=>some k_≠(v6:Value).ownBlock) v5 dY)∧aa (Kd.R Kd.string 9 w' w.heap.size (fun _=>True) v6 og)∧aa (w'.heap[l6]?=some (.cells #[.int .i64 pK,.int .i64 pM,.int .i64 pO] 33 (0,0)))∧aa (bU w w' rQ uO qG)∧aa (Below w.heap.size w w'))
 case atStart=>exact ⟨(aPk),(aPl),(0),(0),(0),(a0),(0),H',⟨Nat.le_refl _⟩,⟨by refine pS ?_;exact Kd.gu Zv.o mV⟩,⟨by refine pR ?_;exact aBz.o⟩,⟨Q4⟩,⟨CR⟩,⟨Eu⟩⟩
 case round=>
  clear H';obtain ⟨dY,og,pK,pM,pO,uO,qG,HA,rF,gK,iy,gY,jQ,HB⟩:=hrel
  cases gk with
  |zero=>exact absurd HA.o (by simp [bZ.l0])
  |succ k1=>
   have H:=HA.o;clear HA;simp only[bZ.l0] at H;have arV:=jC H;clear H
   go_upto_region 4 with (fail)
   go_cut [30] (fun v30 wc=>∃(kq:Nat) (Xz:Bool),v30=.bool Xz∧aa (bZ.j1 kq a0 dY og Xz uO qG=some (r1,r2,r3,r4))∧aa (kq≤k1)∧aa (Kd.S (Kd.slice 9 Kd.string) 24 wc w.heap.size (fun k_=>some k_≠(u6:Value).ownBlock) u5 dY)∧aa (Kd.R Kd.string 9 wc w.heap.size (fun _=>True) u6 og)∧aa (wc.heap[l6]?=some (.cells #[.int .i64 pK,.int .i64 pM,.int .i64 pO] 33 (0,0)))∧aa (bU w wc rQ uO qG)∧aa (Below w.heap.size w wc))
   case first=>
    have H:=arV.o;clear arV
    replace H:=jD H;obtain ⟨DL,-,H⟩|⟨DL,-,H⟩:=H
    ·(first|rw[DL]|(simp only[jT,kS];rw[DL])|skip);have H':=jC H;clear H;obtain ⟨yO,UK⟩:=jQ.o;have Zm:=nG yO;have Zn:=nH yO;have Zo:=az yO 0;have Zp:=az yO 1;clear yO UK
     go_wp2
     go_meet
     case rel=>exact ⟨_,(true),bT,H',⟨ayH⟩,⟨Lt⟩,⟨Lu⟩,⟨Q4⟩,⟨CR⟩,⟨Eu⟩⟩
    (first|rw[DL]|(simp only[jT,kS];rw[DL])|skip);have H':=jC H;clear H;obtain ⟨UU,aBA⟩:=jQ.o;have aKs:=nG UU;have aKt:=nH UU;have aKu:=az UU 0;have aKv:=az UU 1;clear UU aBA;obtain ⟨Pb,LM,UV⟩:=Kd.bR iy.o;subst UV
    go_wp2
    go_meet
    case rel=>exact ⟨_,(decide ((og.length:Int)>0)),bT,H',⟨ayH⟩,⟨Lt⟩,⟨Lu⟩,⟨Q4⟩,⟨CR⟩,⟨Eu⟩⟩
   case rest=>
    clear arV;obtain ⟨kq,Xz,rfl,HA,adO,gK,iy,gY,jQ,HB⟩:=hcut
    cases kq with
    |zero=>exact absurd HA.o (by simp [bZ.j1])
    |succ aPm=>
     have H:=HA.o;clear HA;simp only[bZ.j1] at H
     replace H:=iB H;obtain ⟨rfl,G⟩|⟨rfl,G⟩:=H
     ·have H:=G;clear G;simp only[Option.some.injEq,Prod.mk.injEq] at H;obtain ⟨rfl,rfl,rfl,rfl⟩:=H;have aBB:=Ff.o;have aBC:=Cb.o;obtain ⟨_,_,_,_,_,_⟩:=cells3 gY.o
      go_wp2
      refine bodyPost_ret (nR rfl _ _ l6 33 #[.int .i64 0,.int .i64 0,.int .i64 0] (0,0) _ rfl ajt Tryz.underlying33 rfl bD) rfl ?_;exact ⟨_,fT,by refine pS ?_;exact Kd.gu (hS3 gK.o gY.o) o8,Eu⟩
     have H:=G;clear G;have arW:=jC H;clear H
     go_upto_region 6 with (fail)
     go_cut [46] (fun v46 wc=>∃(kq:Nat) (XA:Bool),v46=.bool XA∧aa (bZ.j2 kq a0 dY og true XA uO qG=some (r1,r2,r3,r4))∧aa (kq≤aPm)∧aa (Kd.S (Kd.slice 9 Kd.string) 24 wc w.heap.size (fun k_=>some k_≠(u6:Value).ownBlock) u5 dY)∧aa (Kd.R Kd.string 9 wc w.heap.size (fun _=>True) u6 og)∧aa (wc.heap[l6]?=some (.cells #[.int .i64 pK,.int .i64 pM,.int .i64 pO] 33 (0,0)))∧aa (bU w wc rQ uO qG)∧aa (Below w.heap.size w wc))
     case first=>
      have H:=arW.o;clear arW
      replace H:=iD H;obtain ⟨DN,-,H⟩|⟨DN,-,H⟩:=H
      ·(first|rw[DN]|(simp only[jT,kS];rw[DN])|skip);have H':=jC H;clear H;obtain ⟨UW,aBD⟩:=jQ.o;have aKw:=nG UW;have aKx:=nH UW;have aKy:=az UW 0;have aKz:=az UW 1;clear UW aBD
       go_wp2
       go_meet
       case rel=>exact ⟨_,(false),bT,H',⟨ayB⟩,⟨Lt⟩,⟨Lu⟩,⟨Q4⟩,⟨CR⟩,⟨Eu⟩⟩
      (first|rw[DN]|(simp only[jT,kS];rw[DN])|skip);obtain ⟨Gd,-,H⟩:=l5 H;have H':=jC H;clear H;obtain ⟨UX,aBE⟩:=jQ.o;have aKA:=nG UX;have aKB:=nH UX;have aKC:=az UX 0;have aKD:=az UX 1;clear UX aBE;obtain ⟨p20,q20⟩:=uw (s:=a0) (i:=qG);have ajR:=d9 a0 qG
      go_wp2
      go_meet
      case rel=>exact ⟨_,(((bt a0 qG)==34)),bT,H',⟨ayB⟩,⟨Lt⟩,⟨Lu⟩,⟨Q4⟩,⟨CR⟩,⟨Eu⟩⟩
     case rest=>
      clear arW
      try clear hx2
      try clear ajR
      obtain ⟨kq,XA,rfl,HA,ajn,gK,iy,gY,jQ,HB⟩:=hcut
      cases kq with
      |zero=>exact absurd HA.o (by simp [bZ.j2])
      |succ aPn=>
       have H:=HA.o;clear HA;simp only[bZ.j2] at H;have arX:=jC H;clear H
       go_upto_if 46 with (fail)
       go_cut [7,8] (fun v7 v8 wc=>∃(kq:Nat) (Ip:ByteArray) (ae2:Bool) (nO:ByteArray) (nP:Int),v7=.string Ip∧v8=.bool ae2∧aa (bZ.j3 kq a0 dY og Ip ae2 nO nP=some (r1,r2,r3,r4))∧aa (kq≤aPn)∧aa (Kd.S (Kd.slice 9 Kd.string) 24 wc w.heap.size (fun k_=>some k_≠(u6:Value).ownBlock) u5 dY)∧aa (Kd.R Kd.string 9 wc w.heap.size (fun _=>True) u6 og)∧aa (wc.heap[l6]?=some (.cells #[.int .i64 pK,.int .i64 pM,.int .i64 pO] 33 (0,0)))∧aa (bU w wc rQ nO nP)∧aa (Below w.heap.size w wc))
       case first=>
        have H:=arX.o;clear arX
        replace H:=jB H;obtain ⟨rfl,G⟩|⟨rfl,G⟩:=H
        ·have H:=G;clear G;obtain ⟨⟨aPo,aPp,aPq,aPr⟩,A25,H⟩:=bd H
         try dsimp only at H
         have H':=jC H;clear H
         go_wp2_with (first|(refine gC 49 Tryz.func63 #[.pointer (some ⟨rQ,0,none⟩)] (af.calls w _ ?ai ?aj A25.o) (h:=?_);(case ai=>exact CR);(case aj=>exact Eu);rintro e w26 ⟨rfl,hi,hb,hk⟩;refine ⟨_,rfl,?_⟩;have n_:=Z20;clear gK iy gY HB jQ;obtain ⟨gK,iy,gY,HB,jQ⟩:=n_))
         go_meet
         case rel=>exact ⟨_,(aPo),(aPp),(aPq),(aPr),bT,bT,H',⟨ayt⟩,⟨Lt⟩,⟨Lu⟩,⟨Q4⟩,⟨CR⟩,⟨Eu⟩⟩
        have H:=G;clear G;obtain ⟨⟨aPs,aPt,aPu⟩,A27,H⟩:=bd H
        try dsimp only at H
        have H':=jC H;clear H
        go_wp2_with (first|(refine gC 53 Tryz.func64 #[.pointer (some ⟨rQ,0,none⟩)] (aK.calls w _ ?ai ?aj A27.o) (h:=?_);(case ai=>exact CR);(case aj=>exact Eu);rintro e w28 ⟨rfl,hi,hb,hk⟩;refine ⟨_,rfl,?_⟩;have n_:=Z20;clear gK iy gY HB jQ;obtain ⟨gK,iy,gY,HB,jQ⟩:=n_))
        go_meet
        case rel=>exact ⟨_,(aPs),(true),(aPt),(aPu),bT,bT,H',⟨ayt⟩,⟨Lt⟩,⟨Lu⟩,⟨Q4⟩,⟨CR⟩,⟨Eu⟩⟩
       case rest=>
        clear arX
        try clear hx2
        try clear ajR
        obtain ⟨kq,Ip,ae2,nO,nP,rfl,rfl,HA,aqQ,gK,iy,gY,jQ,HB⟩:=hcut
        cases kq with
        |zero=>exact absurd HA.o (by simp [bZ.j3])
        |succ aBF=>
         have H:=HA.o;clear HA;simp only[bZ.j3] at H
         replace H:=iB H;obtain ⟨rfl,G⟩|⟨rfl,G⟩:=H
         ·have H:=G;clear G;simp only[Option.some.injEq,Prod.mk.injEq] at H;obtain ⟨rfl,rfl,rfl,rfl⟩:=H;obtain ⟨aPv,aPw,aPx⟩:=Kd.kX gK.o;subst aPx;obtain ⟨aBG,arY,aj2⟩:=Kd.bR iy.o;subst aj2
          try go_wp2_with (first|((with_reducible refine aG (N:=9) rfl ?_);(try (refine cO ek ?_;dsimp only));refine bE 9 #[.int .i64 0,.int .i64 0,.int .i64 0] 33 (h:=?_);intro kV hg w67 hbox hb;have n_:=Z4;clear gK iy gY jQ HB;obtain ⟨gK,iy,gY,jQ,HB,oO,YX,nE,iJ,tX,v_⟩:=n_;clear hb hbox hg;have aWJ:=iJ.o;have aWK:=nE.o;have aWL:=v_.o;have aWM:=tX.o;obtain ⟨_,_,_,_,_,_⟩:=cells3 oO.o))
          have lg:aa (Kd.S (Kd.slice 9 Kd.string) 24 (((w67.setCell ⟨kV,0,none⟩ (.int .i64 2)).setCell ⟨kV,1,none⟩ (.int .i64 (dY.length:Int))).setCell ⟨kV,2,none⟩ (.int .i64 (og.length:Int))) w.heap.size (fun k_=>some k_≠(.slice aBG og.length arY:Value).ownBlock) (.slice aPv dY.length aPw) dY):=⟨by refine pS ?_;exact fS3 gK.o oO.o au⟩;have ma:aa (Kd.R Kd.string 9 (((w67.setCell ⟨kV,0,none⟩ (.int .i64 2)).setCell ⟨kV,1,none⟩ (.int .i64 (dY.length:Int))).setCell ⟨kV,2,none⟩ (.int .i64 (og.length:Int))) w.heap.size (fun _=>True) (.slice aBG og.length arY) og):=⟨axN⟩;have mf:aa ((((w67.setCell ⟨kV,0,none⟩ (.int .i64 2)).setCell ⟨kV,1,none⟩ (.int .i64 (dY.length:Int))).setCell ⟨kV,2,none⟩ (.int .i64 (og.length:Int))).heap[l6]?=some (.cells #[.int .i64 pK,.int .i64 pM,.int .i64 pO] 33 (0,0))):=⟨ai7⟩;have mg:aa ((((w67.setCell ⟨kV,0,none⟩ (.int .i64 2)).setCell ⟨kV,1,none⟩ (.int .i64 (dY.length:Int))).setCell ⟨kV,2,none⟩ (.int .i64 (og.length:Int))).heap[kV]?=some (.cells #[.int .i64 2,.int .i64 (dY.length:Int),.int .i64 (og.length:Int)] 33 (0,0))):=⟨ayL⟩;have nV:aa (bU w (((w67.setCell ⟨kV,0,none⟩ (.int .i64 2)).setCell ⟨kV,1,none⟩ (.int .i64 (dY.length:Int))).setCell ⟨kV,2,none⟩ (.int .i64 (og.length:Int))) rQ nO nP):=⟨Nc⟩;have rJ:aa (Below w.heap.size w (((w67.setCell ⟨kV,0,none⟩ (.int .i64 2)).setCell ⟨kV,1,none⟩ (.int .i64 (dY.length:Int))).setCell ⟨kV,2,none⟩ (.int .i64 (og.length:Int)))):=⟨OV⟩;(try clear gK);(try clear iy);(try clear gY);(try clear oO);(try clear jQ);(try clear HB);generalize (((w67.setCell ⟨kV,0,none⟩ (.int .i64 2)).setCell ⟨kV,1,none⟩ (.int .i64 (dY.length:Int))).setCell ⟨kV,2,none⟩ (.int .i64 (og.length:Int)))=w71 at lg ma mf mg nV rJ ⊢;have gK:=lg;have iy:=ma;have gY:=mf;have oO:=mg;have jQ:=nV;have HB:=rJ;clear lg ma mf mg nV rJ;have n_:=ax5;clear gK iy gY oO jQ HB;obtain ⟨gY,oO,jQ,HB⟩:=n_;refine iZ (n:=3) (S:=fun w'=>w'.cell? ⟨kV,0,none⟩=some (.int .i64 2)∧w'.cell? ⟨kV,1,none⟩=some (.int .i64 (dY.length:Int))∧w'.cell? ⟨kV,2,none⟩=some (.int .i64 (og.length:Int))) (ds:=[]) (qM 3 0) bD rfl (by kernel_rfl) ⟨bc oO 0,bc oO 1,bc oO 2⟩ (fun hHeld=>?_);generalize w71.drew=w72 at gY oO jQ HB hHeld ⊢;refine sP 1 2 3 2 (h:=?_);refine sT3 0 61 3 3 hHeld (h:=?_);refine DX (i:=2) (N:=none) #[true,true,true] rfl rfl bD au (fun K hK=>?_);have aPy:w72.cell? ⟨l6,0,none⟩=some (.int .i64 pK):=bc gY 0;have aBH:=az gY.o 0;have aj3:=iJ.o;have aj4:=nE.o;have aPz:w72.cell? ⟨l6,1,none⟩=some (.int .i64 pM):=bc gY 1;have aBI:=az gY.o 1;have aj5:=iJ.o;have aj6:=nE.o;have a1E:w72.cell? ⟨l6,2,none⟩=some (.int .i64 pO):=bc gY 2;have aWN:=az gY.o 2;have aKE:=iJ.o;have aKF:=nE.o;refine sS (w1:=?_) ek rfl ?_ ?_;rotate_left
          ·go_simp
           rfl
          refine hK.out _ _ ⟨((cell_far (p:=⟨l6,_,none⟩) iJ.o _).trans (((cell_far (p:=⟨l6,_,none⟩) iJ.o _).trans (((cell_far (p:=⟨l6,_,none⟩) iJ.o _).trans (hHeld.1)))))),((cell_far (p:=⟨l6,_,none⟩) iJ.o _).trans (((cell_far (p:=⟨l6,_,none⟩) iJ.o _).trans (((cell_far (p:=⟨l6,_,none⟩) iJ.o _).trans (hHeld.2.1)))))),((cell_far (p:=⟨l6,_,none⟩) iJ.o _).trans (((cell_far (p:=⟨l6,_,none⟩) iJ.o _).trans (((cell_far (p:=⟨l6,_,none⟩) iJ.o _).trans (hHeld.2.2))))))⟩ (fun hHeld=>?_);clear hK K;refine kT bD ?_
          try go_wp2
          refine bodyPost_ret (nR rfl _ _ l6 33 #[.int .i64 2,.int .i64 (dY.length:Int),.int .i64 (og.length:Int)] (0,0) _ rfl ajt Tryz.underlying33 rfl bD) rfl ?_;exact ⟨_,fT,Bu,OV⟩
         have H:=G;clear G;obtain ⟨c30,H⟩:=nD H;have UH:=jC c30;clear c30;obtain ⟨UT,ae3,H⟩:=yB H;obtain ⟨⟨a1F,aBJ,aBK⟩,A31,H⟩:=bd H
         try dsimp only at H
         replace H:=jE H;obtain ⟨Y5,anS,-,H⟩|⟨Y5,anS,c32,H⟩:=H
         ·simp only[Option.some.injEq,Prod.mk.injEq] at H;obtain ⟨rfl,rfl,rfl,rfl⟩:=H;obtain ⟨aj7,aj8,ab9⟩:=Kd.kX gK.o;subst ab9;obtain ⟨LP,LQ,aj9⟩:=Kd.bR iy.o;subst aj9
          try go_wp2_with (first|((with_reducible refine aG (N:=9) rfl ?_);(try (refine cO ek ?_;dsimp only));refine bE 9 #[.int .i64 0,.int .i64 0,.int .i64 0] 33 (h:=?_);intro kV hg w35 hbox hb;have n_:=jA (Kd.bX Lu hb) (jA (dE gY hb) (jA (bU.below CR hb) (jA (ae Eu hb) (jA (hbox) (jA ((awo:w.heap.size≤kV)) (jA ((apW:l6≠kV)) (jA ((apX:kV≠l6)) (jA ((by rw[hg];exact Nat.ne_of_lt (bU.lt (show bU w _ rQ nO nP from CR)):rQ≠kV)) (jC ((by rw[hg];exact Nat.ne_of_gt (bU.lt (show bU w _ rQ nO nP from CR)):kV≠rQ)))))))))));clear gK iy gY jQ HB;obtain ⟨iy,gY,jQ,HB,oO,YX,nE,iJ,tX,v_⟩:=n_;clear hb hbox hg;have aBL:=iJ.o;have aBM:=nE.o;have aBN:=v_.o;have aBO:=tX.o;obtain ⟨_,_,_,_,_,_⟩:=cells3 oO.o)|((with_reducible refine bJ (b:=.append) (xs:=#[.tmp 62,.tmp 64]) rfl ?_);(try (refine cO ek ?_;dsimp only));at_builtin;refine Kd.gH Kd.string (w0:=w) w.heap.size rfl (.tmp 62) (.tmp 64) 24 9 (.string ⟨#[]⟩) 16 rfl Tryz.underlying24 l_ rfl au bG (.slice LP og.length LQ) og Ip [.string Ip] (fun _=>True) (fun _=>False) rfl kz ?aP (fun _ hk=>hk.elim) ?aF ?aO ?aB ?aS ?aL ?_;(case aP=>exact rfl);(case aB=>exact aiV);(case aF=>exact o8);(case aO=>exact aqn);(case aS=>exact Z99);(case aL=>have:=UH.o;omega);intro aBP w39 ho hb hg hat;rw[←ae3.o] at ho;have n_:=jA (uQ (g:=l6) (o:=.cells #[.int .i64 pK,.int .i64 pM,.int .i64 pO] 33 (0,0)) ai7 hg (Kd.lJ iy.o gY.o au)) (jA (bU.grown (show bU w (((w35.setCell ⟨kV,0,none⟩ (.int .i64 2)).setCell ⟨kV,1,none⟩ (.int .i64 (dY.length:Int))).setCell ⟨kV,2,none⟩ (.int .i64 (og.length:Int))) rQ nO nP from Nc) hg (bU.own_ne jQ.o iy.o au)) (jA (uQ (g:=kV) (o:=.cells #[.int .i64 2,.int .i64 (dY.length:Int),.int .i64 (og.length:Int)] 33 (0,0)) ayL hg (Kd.lJ iy.o oO.o au)) (jC (hb))));clear gY jQ oO HB iy;obtain ⟨gY,jQ,oO,HB⟩:=n_;clear ho hb hg hat)|(refine gC 67 Tryz.func65 #[.pointer (some ⟨rQ,0,none⟩)] (jZ.calls w _ ?ai ?aj A31.o) (h:=?_);(case ai=>exact Nc);(case aj=>exact OV);rintro e w40 ⟨rfl,hi,hb,hk⟩;refine ⟨_,rfl,?_⟩;have n_:=jA (uz hk gY Ff.o gQ) (jA (uz hk oO v_.o gQ) (jA (hb) (jC (hi))));clear gY oO HB jQ;obtain ⟨gY,oO,HB,jQ⟩:=n_))
          have n_:=ax5;clear gY oO jQ HB;obtain ⟨gY,oO,jQ,HB⟩:=n_;refine iZ (n:=3) (S:=fun w'=>w'.cell? ⟨kV,0,none⟩=some (.int .i64 2)∧w'.cell? ⟨kV,1,none⟩=some (.int .i64 (dY.length:Int))∧w'.cell? ⟨kV,2,none⟩=some (.int .i64 (og.length:Int))) (ds:=[]) (qM 3 0) bD rfl (by kernel_rfl) ⟨bc oO 0,bc oO 1,bc oO 2⟩ (fun hHeld=>?_);generalize w40.drew=w41 at gY oO jQ HB hHeld ⊢;refine sP 1 2 3 2 (h:=?_);refine sT3 0 70 3 3 hHeld (h:=?_);refine DX (i:=2) (N:=none) #[true,true,true] rfl rfl bD au (fun K hK=>?_);have a1G:w41.cell? ⟨l6,0,none⟩=some (.int .i64 pK):=bc gY 0;have aWP:=az gY.o 0;have aKG:=iJ.o;have aKH:=nE.o;have a1H:w41.cell? ⟨l6,1,none⟩=some (.int .i64 pM):=bc gY 1;have aWQ:=az gY.o 1;have aKI:=iJ.o;have aKJ:=nE.o;have a1I:w41.cell? ⟨l6,2,none⟩=some (.int .i64 pO):=bc gY 2;have aWR:=az gY.o 2;have aKK:=iJ.o;have aKL:=nE.o;refine sS (w1:=?_) ek rfl ?_ ?_;rotate_left
          ·go_simp
           rfl
          refine hK.out _ _ ⟨((cell_far (p:=⟨l6,_,none⟩) iJ.o _).trans (((cell_far (p:=⟨l6,_,none⟩) iJ.o _).trans (((cell_far (p:=⟨l6,_,none⟩) iJ.o _).trans (hHeld.1)))))),((cell_far (p:=⟨l6,_,none⟩) iJ.o _).trans (((cell_far (p:=⟨l6,_,none⟩) iJ.o _).trans (((cell_far (p:=⟨l6,_,none⟩) iJ.o _).trans (hHeld.2.1)))))),((cell_far (p:=⟨l6,_,none⟩) iJ.o _).trans (((cell_far (p:=⟨l6,_,none⟩) iJ.o _).trans (((cell_far (p:=⟨l6,_,none⟩) iJ.o _).trans (hHeld.2.2))))))⟩ (fun hHeld=>?_);clear hK K;refine kT bD ?_
          try go_wp2
          refine bodyPost_ret (nR rfl _ _ l6 33 #[.int .i64 2,.int .i64 (dY.length:Int),.int .i64 (og.length:Int)] (0,0) _ rfl ajt Tryz.underlying33 rfl bD) rfl ?_;exact ⟨_,fT,Bu,OV⟩
         replace H:=iE H;obtain ⟨UD,aBR,c45,H⟩|⟨UD,aBR,-,H⟩:=H
         ·have H':=jC H;clear H;obtain ⟨a1J,a1K,aPA⟩:=Kd.kX gK.o;subst aPA;obtain ⟨aPB,aPC,aPD⟩:=Kd.bR iy.o;subst aPD
          go_wp2_with (first|((with_reducible refine aG (N:=9) rfl ?_);(try (refine cO ek ?_;dsimp only));refine bE 9 #[.int .i64 0,.int .i64 0,.int .i64 0] 33 (h:=?_);intro kV hg w59 hbox hb;have n_:=Z4;clear gK iy gY jQ HB;obtain ⟨gK,iy,gY,jQ,HB,oO,YX,nE,iJ,tX,v_⟩:=n_;clear hb hbox hg;have aWS:=iJ.o;have aWT:=nE.o;have aWU:=v_.o;have aWV:=tX.o;obtain ⟨_,_,_,_,_,_⟩:=cells3 oO.o)|((with_reducible refine bJ (b:=.append) (xs:=#[.tmp 62,.tmp 64]) rfl ?_);(try (refine cO ek ?_;dsimp only));at_builtin;refine Kd.gH Kd.string (w0:=w) w.heap.size rfl (.tmp 62) (.tmp 64) 24 9 (.string ⟨#[]⟩) 16 rfl Tryz.underlying24 l_ rfl au bG (.slice aPB og.length aPC) og Ip [.string Ip] (fun _=>True) (fun _=>False) rfl kz ?aP (fun _ hk=>hk.elim) ?aF ?aO ?aB ?aS ?aL ?_;(case aP=>exact rfl);(case aB=>exact aiV);(case aF=>exact o8);(case aO=>exact aqn);(case aS=>exact Z99);(case aL=>have:=UH.o;omega);intro aBP w63 ho hb hg hat;rw[←ae3.o] at ho;have n_:=jA (Kd.sW (ok:=(fun _=>True)) axu hg hat) (jA (uQ (g:=l6) (o:=.cells #[.int .i64 pK,.int .i64 pM,.int .i64 pO] 33 (0,0)) ai7 hg (Kd.lJ iy.o gY.o au)) (jA (bU.grown (show bU w (((w59.setCell ⟨kV,0,none⟩ (.int .i64 2)).setCell ⟨kV,1,none⟩ (.int .i64 (dY.length:Int))).setCell ⟨kV,2,none⟩ (.int .i64 (og.length:Int))) rQ nO nP from Nc) hg (bU.own_ne jQ.o iy.o au)) (jA (hb) (jC (ho)))));clear gK gY jQ oO HB iy;obtain ⟨gK,gY,jQ,HB,Gc⟩:=n_;clear ho hb hg hat)|(refine gC 67 Tryz.func65 #[.pointer (some ⟨rQ,0,none⟩)] (jZ.calls w _ ?ai ?aj A31.o) (h:=?_);(case ai=>exact Nc);(case aj=>exact OV);rintro e xg ⟨rfl,hi,hb,hk⟩;refine ⟨_,rfl,?_⟩;have n_:=Z16;clear gK gY Gc HB jQ;obtain ⟨gK,gY,Gc,HB,jQ⟩:=n_))
          go_roundg aBF
          case measure=>have:=rF.o;have:=adO.o;have:=ajn.o;have:=aqQ.o;omega
          case rel=>exact ⟨(dY),(UT),(pK),(pM),(pO),(aBJ),(aBK),H',⟨ayA⟩,⟨by refine pS ?_;exact Kd.gu gK.o mV⟩,⟨awr⟩,⟨Q4⟩,⟨Nc⟩,⟨OV⟩⟩
         obtain ⟨c46,H⟩:=nD H;have aeH:=jC c46;clear c46;generalize hyy:(dY++ [UT])=aPE at H;have aBS:=jC hyy.symm;clear hyy;have H':=jC H;clear H;obtain ⟨Da,Db,ab3⟩:=Kd.kX gK.o;subst ab3;obtain ⟨aPF,aPG,aPH⟩:=Kd.bR iy.o;subst aPH
         go_wp2_with (first|((with_reducible refine aG (N:=9) rfl ?_);(try (refine cO ek ?_;dsimp only));refine bE 9 #[.int .i64 0,.int .i64 0,.int .i64 0] 33 (h:=?_);intro kV hg w49 hbox hb;have n_:=Z4;clear gK iy gY jQ HB;obtain ⟨gK,iy,gY,jQ,HB,oO,YX,nE,iJ,tX,v_⟩:=n_;clear hb hbox hg;have azn:=iJ.o;have azo:=nE.o;have aWW:=v_.o;have aWX:=tX.o;obtain ⟨_,_,_,_,_,_⟩:=cells3 oO.o)|((with_reducible refine bJ (b:=.append) (xs:=#[.tmp 62,.tmp 64]) rfl ?_);(try (refine cO ek ?_;dsimp only));at_builtin;refine Kd.gH Kd.string (w0:=w) w.heap.size rfl (.tmp 62) (.tmp 64) 24 9 (.string ⟨#[]⟩) 16 rfl Tryz.underlying24 l_ rfl au bG (.slice aPF og.length aPG) og Ip [.string Ip] (fun _=>True) (fun _=>False) rfl kz ?aP (fun _ hk=>hk.elim) ?aF ?aO ?aB ?aS ?aL ?_;(case aP=>exact rfl);(case aB=>exact aiV);(case aF=>exact o8);(case aO=>exact aqn);(case aS=>exact Z99);(case aL=>have:=UH.o;omega);intro aBP w53 ho hb hg hat;rw[←ae3.o] at ho;have n_:=jA (Kd.sW (ok:=(fun _=>True)) axu hg hat) (jA (uQ (g:=l6) (o:=.cells #[.int .i64 pK,.int .i64 pM,.int .i64 pO] 33 (0,0)) ai7 hg (Kd.lJ iy.o gY.o au)) (jA (bU.grown (show bU w (((w49.setCell ⟨kV,0,none⟩ (.int .i64 2)).setCell ⟨kV,1,none⟩ (.int .i64 (dY.length:Int))).setCell ⟨kV,2,none⟩ (.int .i64 (og.length:Int))) rQ nO nP from Nc) hg (bU.own_ne jQ.o iy.o au)) (jA (hb) (jC (ho)))));clear gK gY jQ oO HB iy;obtain ⟨gK,gY,jQ,HB,Gc⟩:=n_;clear ho hb hg hat)|(refine gC 67 Tryz.func65 #[.pointer (some ⟨rQ,0,none⟩)] (jZ.calls w _ ?ai ?aj A31.o) (h:=?_);(case ai=>exact Nc);(case aj=>exact OV);rintro e w54 ⟨rfl,hi,hb,hk⟩;refine ⟨_,rfl,?_⟩;have n_:=Z16;clear gK gY Gc HB jQ;obtain ⟨gK,gY,Gc,HB,jQ⟩:=n_;obtain ⟨aka,akb,arZ⟩:=Kd.bR Gc.o;subst arZ)|((with_reducible refine bJ (b:=.append) (xs:=#[.tmp 73,.tmp 75]) rfl ?_);(try (refine cO ek ?_;dsimp only));at_builtin;refine Kd.Ce (Kd.slice 9 Kd.string) (w0:=w) w.heap.size rfl (.tmp 73) (.tmp 75) 42 24 (.slice none 0 0) 24 rfl Tryz.underlying42 JK rfl au bG (.slice Da dY.length Db) dY UT [.slice aka UT.length akb] (fun _=>True) (fun k_=>some k_=(.slice aka UT.length akb:Value).ownBlock) rfl rfl ?aP (fun k_ hk_=>((Kd.aD (ok':=fun k_=>((fun _=>True)) k_∧some k_≠(.slice Da dY.length Db:Value).ownBlock) (Kd.ji (Gc.o) (Kd.kI gK.o) au) (fun k_ hk=>⟨trivial,hk.2⟩))).1 k_ hk_.symm) ?aF ?aO ?aB ?aS ?aL ?_;(case aP=>exact Kd.DF (Kd.aD (Kd.yc rfl (Kd.aD (ok':=fun k_=>((fun _=>True)) k_∧some k_≠(.slice Da dY.length Db:Value).ownBlock) (Kd.ji (Gc.o) (Kd.kI gK.o) au) (fun k_ hk=>⟨trivial,hk.2⟩))) rE));(case aB=>exact aiV);(case aF=>exact o8);(case aO=>exact (by refine pS ?_;exact Kd.gu gK.o (fun k_ hk=>⟨trivial,fun e_=>hk.2 e_⟩)));(case aS=>exact Z99);(case aL=>have:=aeH.o;omega);intro a1N w55 ho hb hg hat;rw[←aBS.o] at ho;have n_:=jA (kQ gY hg (Kd.Ex gK.o gY.o au)) (jA (bU.grown (by repeat (first|(with_reducible first|exact jQ.o|exact bU.far jQ.o Cb.o _|exact bU.far jQ.o tX.o _|apply bU.alloc|apply bU.drewN|apply bU.drew|apply bU.YW|apply bU.uZ|refine bU.far ?_ Cb.o _|refine bU.far ?_ tX.o _)|exact jQ.o)) hg (bU.ui jQ.o gK.o au)) (jA (hb) (jC (ho))));clear gY jQ HB gK Gc;obtain ⟨gY,jQ,HB,aBT⟩:=n_;clear ho hb hg hat))
         go_roundg aBF
         case measure=>have:=rF.o;have:=adO.o;have:=ajn.o;have:=aqQ.o;omega
         case rel=>exact ⟨(aPE),(([]:List ByteArray)),(pK),(pM),(pO),(aBJ),(aBK),H',⟨ayA⟩,⟨by refine pS ?_;exact Kd.gu aBT.o (fun _ hk=>aqX)⟩,⟨wB⟩,⟨Q4⟩,⟨Nc⟩,⟨OV⟩⟩
end Go.Proofs.YtkjbbnijhpldhaaGreatDoor.QFnTable
