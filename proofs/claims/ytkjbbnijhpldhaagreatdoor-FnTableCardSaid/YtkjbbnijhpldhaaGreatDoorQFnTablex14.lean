/- The machine side of FnTable: what each Go function that it reaches comes to. Conditions: none. -/
import Derived.Test.YtkjbbnijhpldhaaGreatDoorQFnTablex13
namespace Go.Proofs.YtkjbbnijhpldhaaGreatDoor.QFnTable
open Go.RowKit Go.Proofs.YtkjbbnijhpldhaaGreatDoorW.PrintWords Go.Proofs.YtkjbbnijhpldhaaGreatDoorW.PrintLast Go.Proofs.YtkjbbnijhpldhaaGreatDoorW.PrintMore
attribute [local go_sem] oq ou qN qO mr mD ow oz
set_option linter.unusedVariables false
set_option linter.unusedSimpArgs false
set_option maxHeartbeats 8000000
set_option maxRecDepth 100000
def iC.l0:Nat→Int→Bool→ByteArray→Option (ByteArray)
 |0,_,_,_=>none
 |k+1,x0,x3,x4=>if x0=0 then (if x3=true then (if 1+x4.size≤9223372036854775807 then (some ((⟨#[45]⟩:ByteArray)++x4)) else (none)) else (some x4)) else (if (Int.tmod x0 10)<0 then ((some (([(wrap64 (48+(wrap64 (-(Int.tmod x0 10))))) % 256]:List Int):List Int)).bind fun aeA=>(if (strOfNums aeA).size+x4.size≤9223372036854775807 then (iC.l0 k (wrap64 (Int.tdiv x0 10)) x3 ((strOfNums aeA)++x4)) else (none))) else ((some (([(wrap64 (48+(Int.tmod x0 10))) % 256]:List Int):List Int)).bind fun aeB=>(if (strOfNums aeB).size+x4.size≤9223372036854775807 then (iC.l0 k (wrap64 (Int.tdiv x0 10)) x3 ((strOfNums aeB)++x4)) else (none))))
def iC.f (k:Nat) (a0:Int):Option (ByteArray):=if a0=0 then (some (⟨#[48]⟩:ByteArray)) else (iC.l0 k a0 (decide (a0<0)) (⟨#[]⟩:ByteArray))
theorem iC.calls {k:Nat} {a0:Int} {r:ByteArray} {w:World} (h:iC.f k a0=some r):
  Calls Tryz.prog 58 #[.int .i64 a0] w fun e w'=>e=.returned (.string r)∧Below w.heap.size w w':=by
 have HB:=jC (Below.refl w.heap.size w);have H:=h;clear h;unfold iC.f at H
 replace H:=jE H;obtain ⟨CY,NF,-,H⟩|⟨CY,NF,c2,H⟩:=H
 ·obtain rfl:=Option.some.inj H;go_enter Tryz.func58,Tryz.ntmps58
  go_wp2
  go_ret;exact ⟨fT,dn⟩
 obtain ⟨b3,hb3⟩:∃b:Bool,decide (a0<0)=b:=⟨_,rfl⟩
 rw[hb3] at H;have H':=jC H;clear H;go_enter Tryz.func58,Tryz.ntmps58
 go_wp2
 clear hb3
 go_loopg [0,4] k (fun kq v0 v4 w'=>∃(JP:Int) (jw:ByteArray),v0=.int .i64 JP∧v4=.string jw∧aa (iC.l0 kq JP b3 jw=some r)∧aa (kq≤k)∧aa (Below w.heap.size w w'))
 case atStart=>exact ⟨(a0),((⟨#[]⟩:ByteArray)),bT,bT,H',⟨Nat.le_refl _⟩,⟨dn⟩⟩
 case round=>
  clear H';obtain ⟨JP,jw,rfl,rfl,HA,rF,HB⟩:=hrel
  cases gk with
  |zero=>exact absurd HA.o (by simp [iC.l0])
  |succ k1=>
   have H:=HA.o;clear HA;simp only[iC.l0] at H
   replace H:=jE H;obtain ⟨rG,Av,-,H⟩|⟨rG,Av,c3,H⟩:=H
   ·replace H:=iP H;obtain ⟨c4,H⟩|⟨c4,H⟩:=H
    ·have qo:b3=false:=by simpa using c4
     clear c4;subst qo
     skip
     obtain rfl:=Option.some.inj H
     go_wp2
     go_ret;exact ⟨fT,dn⟩
    subst c4
    skip
    obtain ⟨c5,H⟩:=nD H;have oZ:=fO c5;have GY:=rM c5
    try have aOr:(9223372036854775807<1+jw.size)=False:=eq_false (Nat.not_lt.2 c5)
    obtain rfl:=Option.some.inj H
    go_wp2
    go_ret;exact ⟨fT,dn⟩
   replace H:=iD H;obtain ⟨vU,-,H⟩|⟨vU,-,H⟩:=H
   ·obtain ⟨aeB,anu,H⟩:=yB H;obtain ⟨c11,H⟩:=nD H;have yA:=fO c11;have Qa:=rM c11
    try have aWx:(9223372036854775807<(strOfNums aeB).size+jw.size)=False:=eq_false (Nat.not_lt.2 c11)
    have H':=jC H;clear H
    go_wp2_with (first|((with_reducible refine aG (N:=21) rfl ?_);refine Kd.sQ (Kd.int .u8) _ 5 ?hg (N:=21) ?hd (xs:=([(wrap64 (48+(Int.tmod JP 10))) % 256]:List Int)) (inner:=[.int .u8 ((wrap64 (48+(Int.tmod JP 10))) % 256)]) (ok:=fun _=>True) (okp:=fun _=>True) ?hr ?hp rE trivial (Below.refl _ _) (Nat.le_refl _) gQ ?_;(case hd=>rfl);(case hg=>rfl);(case hr=>exact kz);(case hp=>exact (d_.one (show Kd.M (Kd.int .u8) _ _ _ ((wrap64 (48+(Int.tmod JP 10))) % 256) [.int .u8 ((wrap64 (48+(Int.tmod JP 10))) % 256)] from rfl) (d_.none _ _)));intro a0Y Q9 vF hb hg_ hnew_;clear hg_ hnew_;(first|rw[←anu.o] at vF|(simp only[Int.reduceToNat] at vF;rw[←anu.o] at vF));have n_:=jA (Kd.dC vF (ah dn)) (jC (ae dn hb));clear HB;obtain ⟨az4,HB⟩:=n_;clear hb vF;have az5:=qp (P:=Tryz.prog) Tryz.underlying22 Tryz.underlying5 Tryz.underlying9 (Kd.o6 az4.o)))
    go_roundg k1
    case measure=>have:=rF.o;omega
    case rel=>exact ⟨(wrap64 (Int.tdiv JP 10)),((strOfNums aeB)++jw),bT,bT,H',⟨vE⟩,⟨dn⟩⟩
   obtain ⟨aeA,anv,H⟩:=yB H;obtain ⟨c7,H⟩:=nD H;have D9:=fO c7;have Re:=rM c7
   try have adl:(9223372036854775807<(strOfNums aeA).size+jw.size)=False:=eq_false (Nat.not_lt.2 c7)
   have H':=jC H;clear H
   go_wp2_with (first|((with_reducible refine aG (N:=21) rfl ?_);refine Kd.sQ (Kd.int .u8) _ 5 ?hg (N:=21) ?hd (xs:=([(wrap64 (48+(wrap64 (-(Int.tmod JP 10))))) % 256]:List Int)) (inner:=[.int .u8 ((wrap64 (48+(wrap64 (-(Int.tmod JP 10))))) % 256)]) (ok:=fun _=>True) (okp:=fun _=>True) ?hr ?hp rE trivial (Below.refl _ _) (Nat.le_refl _) gQ ?_;(case hd=>rfl);(case hg=>rfl);(case hr=>exact kz);(case hp=>exact (d_.one (show Kd.M (Kd.int .u8) _ _ _ ((wrap64 (48+(wrap64 (-(Int.tmod JP 10))))) % 256) [.int .u8 ((wrap64 (48+(wrap64 (-(Int.tmod JP 10))))) % 256)] from rfl) (d_.none _ _)));intro a0Z w8 ho9 hb hg_ hnew_;clear hg_ hnew_;(first|rw[←anv.o] at ho9|(simp only[Int.reduceToNat] at ho9;rw[←anv.o] at ho9));have n_:=jA (Kd.dC ho9 (ah dn)) (jC (ae dn hb));clear HB;obtain ⟨az6,HB⟩:=n_;clear hb ho9;have aWy:=qp (P:=Tryz.prog) Tryz.underlying22 Tryz.underlying5 Tryz.underlying9 (Kd.o6 az6.o)))
   go_roundg k1
   case measure=>have:=rF.o;omega
   case rel=>exact ⟨(wrap64 (Int.tdiv JP 10)),((strOfNums aeA)++jw),bT,bT,H',⟨vE⟩,⟨dn⟩⟩
mutual
def gm.j0:Nat→Int→ByteArray→Option (ByteArray)
 |0,_,_=>none
 |k+1,x0,x3=>(iC.f k (wrap64 (Int.tdiv x0 1000))).bind fun LK=>(if x3.size+LK.size≤9223372036854775807 then (if (Int.tmod x0 1000)=0 then (some (x3++LK)) else (gm.l0 k (x3++LK) (([(wrap64 (48+(wrap64 (Int.tdiv (Int.tmod x0 1000) 100)))) % 256,(wrap64 (48+(Int.tmod (wrap64 (Int.tdiv (Int.tmod x0 1000) 10)) 10))) % 256,(wrap64 (48+(Int.tmod (Int.tmod x0 1000) 10))) % 256]:List Int)))) else (none))
def gm.l0:Nat→ByteArray→List Int→Option (ByteArray)
 |0,_,_=>none
 |k+1,x3,x5=>if 0≤(wrap64 ((x5.length:Int) - 1)) then (if (wrap64 ((x5.length:Int) - 1))<(x5.length:Int) then (if (rd x5 (wrap64 ((x5.length:Int) - 1)))=48 then (if (wrap64 ((x5.length:Int) - 1))≤(x5.length:Int) then (gm.l0 k x3 (x5.take ((wrap64 ((x5.length:Int) - 1)):Int).toNat)) else (none)) else (if x3.size+1≤9223372036854775807 then (if (x3++(⟨#[46]⟩:ByteArray)).size+(strOfNums x5).size≤9223372036854775807 then (some ((x3++(⟨#[46]⟩:ByteArray))++(strOfNums x5))) else (none)) else (none))) else (none)) else (none)
end
def gm.f (k:Nat) (a0:Int):Option (ByteArray):=(f_.f a0).bind fun az7=>(if az7=true then (if a0<0 then (gm.j0 k (wrap64 (-a0)) (⟨#[45]⟩:ByteArray)) else (gm.j0 k a0 (⟨#[]⟩:ByteArray))) else (some (⟨#[]⟩:ByteArray)))
theorem gm.calls {k:Nat} {a0:Int} {r:ByteArray} {w:World} (h:gm.f k a0=some r):
  Calls Tryz.prog 21 #[.int .i64 a0] w fun e w'=>e=.returned (.string r)∧Below w.heap.size w w':=by
 have HB:=jC (Below.refl w.heap.size w);have H:=h;clear h;unfold gm.f at H;obtain ⟨az7,A2,H⟩:=bd H
 replace H:=iB H;obtain ⟨rfl,H⟩|⟨rfl,H⟩:=H
 ·obtain rfl:=Option.some.inj H;go_enter Tryz.func21,Tryz.ntmps21
  go_wp2_with (first|(refine gR 7 Tryz.func51 #[.int .i64 a0] (f_.calls A2.o) (h:=?_);rintro w' ⟨nd,rfl⟩))
  go_ret;exact ⟨fT,dn⟩
 have HC4:=jC H;clear H;go_enter Tryz.func21,Tryz.ntmps21
 go_upto_if 10 with (first|(refine gR 7 Tryz.func51 #[.int .i64 a0] (f_.calls A2.o) (h:=?_);rintro w' ⟨nd,rfl⟩))
 (try simp only[Act.put,List.setIfInBounds_toArray,List.set_cons_zero,List.set_cons_succ])
 go_cut [0,3] (fun v0 v3 wc=>∃(kq:Nat) (xH:Int) (EF:ByteArray),v0=.int .i64 xH∧v3=.string EF∧aa (gm.j0 kq xH EF=some r)∧aa (kq≤k)∧aa (Below w.heap.size w wc))
 case first=>
  have H:=HC4.o;clear HC4
  replace H:=iD H;obtain ⟨oZ,-,H⟩|⟨oZ,-,H⟩:=H
  ·(first|rw[oZ]|(simp only[jT,kS];rw[oZ])|skip);have H':=jC H;clear H
   go_wp2
   go_meet
   case rel=>exact ⟨_,(a0),((⟨#[]⟩:ByteArray)),bT,bT,H',⟨Au⟩,⟨dn⟩⟩
  (first|rw[oZ]|(simp only[jT,kS];rw[oZ])|skip);have H':=jC H;clear H
  go_wp2
  go_meet
  case rel=>exact ⟨_,(wrap64 (-a0)),((⟨#[45]⟩:ByteArray)),bT,bT,H',⟨Au⟩,⟨dn⟩⟩
 case rest=>
  clear HC4;obtain ⟨kq,xH,EF,rfl,rfl,HA,HJ3,HB⟩:=hcut
  cases kq with
  |zero=>exact absurd HA.o (by simp [gm.j0])
  |succ kj3=>
   have H:=HA.o;clear HA;simp only[gm.j0] at H;obtain ⟨LK,A6,H⟩:=bd H;obtain ⟨c7,H⟩:=nD H;have D9:=fO c7;have Re:=rM c7
   try have adl:(9223372036854775807<EF.size+LK.size)=False:=eq_false (Nat.not_lt.2 c7)
   replace H:=jE H;obtain ⟨vV,FU,-,H⟩|⟨vV,FU,c8,H⟩:=H
   ·obtain rfl:=Option.some.inj H
    go_wp2_with (first|(refine gR 16 Tryz.func58 #[.int .i64 (wrap64 (Int.tdiv xH 1000))] (iC.calls A6.o) (h:=?_);intro wC hb;replace HB:=jC (ae dn hb)))
    go_ret;exact ⟨fT,dn⟩
   generalize hyy:(([(wrap64 (48+(wrap64 (Int.tdiv (Int.tmod xH 1000) 100)))) % 256,(wrap64 (48+(Int.tmod (wrap64 (Int.tdiv (Int.tmod xH 1000) 10)) 10))) % 256,(wrap64 (48+(Int.tmod (Int.tmod xH 1000) 10))) % 256]:List Int))=aOs at H;have anw:=jC hyy.symm;clear hyy;have H':=jC H;clear H
   go_wp2_with (first|(refine gR 16 Tryz.func58 #[.int .i64 (wrap64 (Int.tdiv xH 1000))] (iC.calls A6.o) (h:=?_);intro w10 hb;replace HB:=jC (ae dn hb))|((with_reducible refine aG (N:=36) rfl ?_);refine Kd.sQ (Kd.int .u8) _ 5 ?hg (N:=36) ?hd (xs:=([(wrap64 (48+(wrap64 (Int.tdiv (Int.tmod xH 1000) 100)))) % 256,(wrap64 (48+(Int.tmod (wrap64 (Int.tdiv (Int.tmod xH 1000) 10)) 10))) % 256,(wrap64 (48+(Int.tmod (Int.tmod xH 1000) 10))) % 256]:List Int)) (inner:=[.int .u8 ((wrap64 (48+(wrap64 (Int.tdiv (Int.tmod xH 1000) 100)))) % 256),.int .u8 ((wrap64 (48+(Int.tmod (wrap64 (Int.tdiv (Int.tmod xH 1000) 10)) 10))) % 256),.int .u8 ((wrap64 (48+(Int.tmod (Int.tmod xH 1000) 10))) % 256)]) (ok:=fun _=>True) (okp:=fun _=>True) ?hr ?hp rE trivial (Below.refl _ _) (Nat.le_refl _) gQ ?_;(case hd=>rfl);(case hg=>rfl);(case hr=>exact kz);(case hp=>exact (d_.one (show Kd.M (Kd.int .u8) _ _ _ ((wrap64 (48+(wrap64 (Int.tdiv (Int.tmod xH 1000) 100)))) % 256) [.int .u8 ((wrap64 (48+(wrap64 (Int.tdiv (Int.tmod xH 1000) 100)))) % 256)] from rfl) (d_.one (show Kd.M (Kd.int .u8) _ _ _ ((wrap64 (48+(Int.tmod (wrap64 (Int.tdiv (Int.tmod xH 1000) 10)) 10))) % 256) [.int .u8 ((wrap64 (48+(Int.tmod (wrap64 (Int.tdiv (Int.tmod xH 1000) 10)) 10))) % 256)] from rfl) (d_.one (show Kd.M (Kd.int .u8) _ _ _ ((wrap64 (48+(Int.tmod (Int.tmod xH 1000) 10))) % 256) [.int .u8 ((wrap64 (48+(Int.tmod (Int.tmod xH 1000) 10))) % 256)] from rfl) (d_.none _ _)))));intro a00 w11 C_ hb hg_ hnew_;clear hg_ hnew_;(first|rw[←anw.o] at C_|(simp only[Int.reduceToNat] at C_;rw[←anw.o] at C_));have n_:=jA (Kd.dC C_ (ah dn)) (jC (ae dn hb));clear HB;obtain ⟨az8,HB⟩:=n_;clear hb C_))
   go_loopg [5] kj3 (fun kq v5 w'=>∃(o7:List Int),aa (gm.l0 kq (EF++LK) o7=some r)∧aa (kq≤kj3)∧aa (Kd.R (Kd.int .u8) 5 w' w.heap.size (fun _=>True) v5 o7)∧aa (Below w.heap.size w w'))
   case atStart=>exact ⟨(aOs),H',⟨Nat.le_refl _⟩,⟨by refine pR ?_;exact az8.o⟩,⟨dn⟩⟩
   case round=>
    clear H';obtain ⟨o7,HA,vD,gK,HB⟩:=hrel
    cases gk with
    |zero=>exact absurd HA.o (by simp [gm.l0])
    |succ k2=>
     have H:=HA.o;clear HA;simp only[gm.l0] at H
     obtain ⟨EG,Y7⟩:∃j_:Int,(wrap64 ((o7.length:Int) - 1))=j_:=⟨_,rfl⟩
     replace H:(if 0≤(EG) then (if (EG)<(o7.length:Int) then (if (rd o7 (EG))=48 then (if (EG)≤(o7.length:Int) then (gm.l0 k2 (EF++LK) (o7.take ((EG):Int).toNat)) else (none)) else (if (EF++LK).size+1≤9223372036854775807 then (if ((EF++LK)++(⟨#[46]⟩:ByteArray)).size+(strOfNums o7).size≤9223372036854775807 then (some (((EF++LK)++(⟨#[46]⟩:ByteArray))++(strOfNums o7))) else (none)) else (none))) else (none)) else (none))=some r:=by first|(rw[Y7] at H;exact H)|(simp only[Y7] at H ⊢;exact H)
     have aOt:(IntKind.i64.wrap ((o7.length:Int) - 1))=EG:=(jT _).trans Y7;obtain ⟨Gf,-,H⟩:=l5 H;obtain ⟨zx,-,H⟩:=l5 H
     replace H:=jE H;obtain ⟨Gg,Y8,-,H⟩|⟨Gg,Y8,c16,H⟩:=H
     ·obtain ⟨c17,H⟩:=nD H;have K6:=fO c17;have UE:=rM c17;clear c17;generalize hyy:(o7.take ((EG):Int).toNat)=az9 at H;have anx:=jC hyy.symm;clear hyy;have H':=jC H;clear H;obtain ⟨aeE,abV,Xl⟩:=Kd.bR gK.o;subst Xl;have Xm:0≤((EG):Int):=oT bL;have Xn:(EG)<(o7.length:Int):=oT bL;obtain ⟨anz,arK,ajM⟩:=Kd.JL (Kd.a_ gK.o).2.2 (EG) Xm Xn
      cases arK
      replace Xm:=fO Xm;replace Xn:=fO Xn;have q19:((EG):Int)≤((o7.length:Int):Int):=oT bL;obtain ⟨a01,anA,_,aAa,_⟩:=info_parts info5;have arL:=GZ (P:=Tryz.prog) 22 5 .i64 Tryz.underlying22 anA (some anz) o7.length abV (EG) (oT bL) q19 (Kd.a_ gK.o).2.1;have ajN:=Kd.Xo (m:=((EG):Int).toNat) gK.o bG;have aAb:az9.length=((EG):Int).toNat:=(by rw[anx.o,List.length_take];omega);rw[←anx.o] at ajN;rw[←aAb] at ajN arL;clear aAb anA aAa gK;have aAc:=jC ajN;clear ajN;replace q19:=fO q19
      go_wp2
      go_roundg k2
      case measure=>have:=HJ3.o;have:=vD.o;omega
      case rel=>exact ⟨(az9),H',⟨by have:=HJ3.o;have:=vD.o;omega⟩,⟨by refine pR ?_;exact aAc.o⟩,⟨dn⟩⟩
     obtain ⟨c20,H⟩:=nD H;have yN:=fO c20;have K7:=rM c20
     try have anB:(9223372036854775807<(EF++LK).size+1)=False:=eq_false (Nat.not_lt.2 c20)
     try (have anC:=anB;simp only[ByteArray.size_append] at anC)
     try (have aAd:=anC;simp only[show ∀b_:UInt8,(⟨#[b_]⟩:ByteArray).size=1 from fun _=>rfl] at aAd)
     obtain ⟨c21,H⟩:=nD H;have Ii:=fO c21;have Qb:=rM c21
     try have aAe:(9223372036854775807<((EF++LK)++(⟨#[46]⟩:ByteArray)).size+(strOfNums o7).size)=False:=eq_false (Nat.not_lt.2 c21)
     try (have anD:=aAe;simp only[ByteArray.size_append] at anD)
     try (have aAf:=anD;simp only[show ∀b_:UInt8,(⟨#[b_]⟩:ByteArray).size=1 from fun _=>rfl] at aAf)
     obtain rfl:=Option.some.inj H;obtain ⟨ajO,ajP,abW⟩:=Kd.bR gK.o;subst abW;have Xm:0≤((EG):Int):=oT bL;have Xn:(EG)<(o7.length:Int):=oT bL;obtain ⟨anz,arK,ajM⟩:=Kd.JL (Kd.a_ gK.o).2.2 (EG) Xm Xn
     cases arK
     replace Xm:=fO Xm;replace Xn:=fO Xn;have aeF:=qp (P:=Tryz.prog) Tryz.underlying22 Tryz.underlying5 Tryz.underlying9 (Kd.o6 gK.o)
     go_wp2
     go_ret;exact ⟨by first|rfl|(simp [jM,jN]<;>rfl)|(simp only[←Y7];first|rfl|(simp [jM,jN]<;>rfl))|(simp [*,jM,jN]<;>rfl),dn⟩
def fM.l0:Nat→ByteArray→Bool→List Int→Int→Option (ByteArray)
 |0,_,_,_,_=>none
 |k+1,x0,x3,x4,x5=>if x5<(x0.size:Int) then (if x3=true then (if 0≤x5 then (if x4.length<140737488355328 then ((some (x4++ [bt x0 x5]:List Int)).bind fun Xp=>(if (bt x0 x5)=34 then (if Xp.length<140737488355328 then (fM.l0 k x0 true (Xp++ [34]) (wrap64 (x5+1))) else (none)) else (fM.l0 k x0 true Xp (wrap64 (x5+1))))) else (none)) else (none)) else (if 0≤x5 then (if (bt x0 x5)=44 then (if x4.length<140737488355328 then ((some (x4++ [bt x0 x5]:List Int)).bind fun Xq=>(if (bt x0 x5)=34 then (if Xq.length<140737488355328 then (fM.l0 k x0 true (Xq++ [34]) (wrap64 (x5+1))) else (none)) else (fM.l0 k x0 true Xq (wrap64 (x5+1))))) else (none)) else (if (bt x0 x5)=34 then (if x4.length<140737488355328 then ((some (x4++ [bt x0 x5]:List Int)).bind fun aeG=>(if aeG.length<140737488355328 then (fM.l0 k x0 true (aeG++ [34]) (wrap64 (x5+1))) else (none))) else (none)) else (if (bt x0 x5)=10 then (if x4.length<140737488355328 then (fM.l0 k x0 true (x4++ [bt x0 x5]) (wrap64 (x5+1))) else (none)) else (if x4.length<140737488355328 then (fM.l0 k x0 ((bt x0 x5)==13) (x4++ [bt x0 x5]) (wrap64 (x5+1))) else (none))))) else (none))) else (if x3=true then (if x4.length<140737488355328 then (some (strOfNums (x4++ [34]))) else (none)) else (some x0))
def fM.f (k:Nat) (a0:ByteArray):Option (ByteArray):=fM.l0 k a0 false (([34]:List Int)) 0
theorem fM.calls {k:Nat} {a0:ByteArray} {r:ByteArray} {w:World} (h:fM.f k a0=some r):
  Calls Tryz.prog 59 #[.string a0] w fun e w'=>e=.returned (.string r)∧Below w.heap.size w w':=by
 have HB:=jC (Below.refl w.heap.size w);have H:=h;clear h;unfold fM.f at H;generalize hyy:(([34]:List Int))=aOv at H;have anE:=jC hyy.symm;clear hyy;have H':=jC H;clear H;go_enter Tryz.func59,Tryz.ntmps59
 go_wp2_with (first|((with_reducible refine aG (N:=6) rfl ?_);refine Kd.sQ (Kd.int .u8) _ 5 ?hg (N:=6) ?hd (xs:=([34]:List Int)) (inner:=[.int .u8 34]) (ok:=fun _=>True) (okp:=fun _=>True) ?hr ?hp rE trivial (Below.refl _ _) (Nat.le_refl _) gQ ?_;(case hd=>rfl);(case hg=>rfl);(case hr=>exact kz);(case hp=>exact (d_.one (show Kd.M (Kd.int .u8) _ _ _ 34 [.int .u8 34] from rfl) (d_.none _ _)));intro a02 w2 ho3 hb hg_ hnew_;clear hg_ hnew_;(first|rw[←anE.o] at ho3|(simp only[Int.reduceToNat] at ho3;rw[←anE.o] at ho3));have n_:=Z69;clear HB;obtain ⟨aAg,HB⟩:=n_;clear hb ho3))
 go_loopg [3,4,5] k (fun kq v3 v4 v5 w'=>∃(lK:Bool) (jw:List Int) (dY:Int),v3=.bool lK∧v5=.int .i64 dY∧aa (fM.l0 kq a0 lK jw dY=some r)∧aa (kq≤k)∧aa (Kd.R (Kd.int .u8) 5 w' w.heap.size (fun _=>True) v4 jw)∧aa (Below w.heap.size w w'))
 case atStart=>exact ⟨(false),(aOv),(0),bT,bT,H',⟨Nat.le_refl _⟩,⟨by refine pR ?_;exact aAg.o⟩,⟨dn⟩⟩
 case round=>
  clear H';obtain ⟨lK,jw,dY,rfl,rfl,HA,rF,df,HB⟩:=hrel
  cases gk with
  |zero=>exact absurd HA.o (by simp [fM.l0])
  |succ k1=>
   have H:=HA.o;clear HA;simp only[fM.l0] at H
   replace H:=iD H;obtain ⟨qo,-,H⟩|⟨qo,-,H⟩:=H
   ·replace H:=iB H;obtain ⟨rfl,G⟩|⟨rfl,G⟩:=H
    ·have H:=G;clear G;obtain rfl:=Option.some.inj H
     go_wp2
     go_ret;exact ⟨fT,dn⟩
    have H:=G;clear G;obtain ⟨c46,H⟩:=nD H;have aeH:=jC c46;clear c46;generalize hyy:(jw++ [34])=a03 at H;have aAh:=jC hyy.symm;clear hyy;obtain rfl:=Option.some.inj H
    go_wp2_with (first|((with_reducible refine bJ (b:=.append) (xs:=#[.tmp 54,.tmp 55]) rfl ?_);at_builtin;refine Kd.gH (Kd.int .u8) (w0:=w) w.heap.size rfl (.tmp 54) (.tmp 55) 22 5 (.int .u8 0) 1 rfl Tryz.underlying22 info5 rfl au bG u4 jw 34 [.int .u8 34] (fun _=>True) (fun _=>False) rfl rfl ?aP (fun _ hk=>hk.elim) ?aF ?aO ?aB ?aS ?aL ?_;(case aP=>exact rfl);(case aB=>exact zf);(case aF=>exact o8);(case aO=>exact OZ);(case aS=>exact ze);(case aL=>have:=aeH.o;omega);intro vq1 wq2 ho hb hg hat;rw[←aAh.o] at ho;have n_:=jA (hb) (jC (ho));clear HB df;obtain ⟨HB,aAi⟩:=n_;clear ho hb hg hat;have aWz:=qp (P:=Tryz.prog) Tryz.underlying22 Tryz.underlying5 Tryz.underlying9 (Kd.o6 aAi.o)))
    go_ret;exact ⟨fT,dn⟩
   replace H:=jB H;obtain ⟨rfl,G⟩|⟨rfl,G⟩:=H
   ·have H:=G;clear G;obtain ⟨vU,-,H⟩:=l5 H;obtain ⟨c8,H⟩:=nD H;have ajQ:=jC c8;clear c8;obtain ⟨Xp,anF,H⟩:=yB H
    replace H:=iE H;obtain ⟨vC,P8,c10,H⟩|⟨vC,P8,-,H⟩:=H
    ·have H':=jC H;clear H;obtain ⟨p7,q7⟩:=uw (s:=a0) (i:=dY);have hx7:=d9 a0 dY
     go_wp2_with (first|((with_reducible refine bJ (b:=.append) (xs:=#[.tmp 38,.tmp 42]) rfl ?_);at_builtin;refine Kd.gH (Kd.int .u8) (w0:=w) w.heap.size rfl (.tmp 38) (.tmp 42) 22 5 (.int .u8 0) 1 rfl Tryz.underlying22 info5 rfl au bG u4 jw (bt a0 dY) [.int .u8 (bt a0 dY)] (fun _=>True) (fun _=>False) rfl rfl ?aP (fun _ hk=>hk.elim) ?aF ?aO ?aB ?aS ?aL ?_;(case aP=>exact rfl);(case aB=>exact zf);(case aF=>exact o8);(case aO=>exact OZ);(case aS=>exact ze);(case aL=>have:=ajQ.o;omega);intro aAj Xi ho hb hg hat;rw[←anF.o] at ho;have n_:=jA (hb) (jC (ho));clear HB df;obtain ⟨HB,adM⟩:=n_;clear ho hb hg hat;have p9:0≤(dY:Int):=oT bL;have q9:dY<(a0.size:Int):=oT bL;have hx9:=d9 a0 dY;replace p9:=fO p9;replace q9:=fO q9))
     go_roundg k1
     case measure=>have:=rF.o;omega
     case rel=>exact ⟨(true),(Xp),(wrap64 (dY+1)),bT,bT,H',⟨vE⟩,⟨ayn⟩,⟨dn⟩⟩
    obtain ⟨c11,H⟩:=nD H;have aeI:=jC c11;clear c11;generalize hyy:(Xp++ [34])=aOx at H;have aAk:=jC hyy.symm;clear hyy;have H':=jC H;clear H;obtain ⟨p7,q7⟩:=uw (s:=a0) (i:=dY);have hx7:=d9 a0 dY
    go_wp2_with (first|((with_reducible refine bJ (b:=.append) (xs:=#[.tmp 38,.tmp 42]) rfl ?_);at_builtin;refine Kd.gH (Kd.int .u8) (w0:=w) w.heap.size rfl (.tmp 38) (.tmp 42) 22 5 (.int .u8 0) 1 rfl Tryz.underlying22 info5 rfl au bG u4 jw (bt a0 dY) [.int .u8 (bt a0 dY)] (fun _=>True) (fun _=>False) rfl rfl ?aP (fun _ hk=>hk.elim) ?aF ?aO ?aB ?aS ?aL ?_;(case aP=>exact rfl);(case aB=>exact zf);(case aF=>exact o8);(case aO=>exact OZ);(case aS=>exact ze);(case aL=>have:=ajQ.o;omega);intro aAj Q9 ho hb hg hat;rw[←anF.o] at ho;have n_:=jA (hb) (jC (ho));clear HB df;obtain ⟨HB,adM⟩:=n_;clear ho hb hg hat;have p9:0≤(dY:Int):=oT bL;have q9:dY<(a0.size:Int):=oT bL;have hx9:=d9 a0 dY;replace p9:=fO p9;replace q9:=fO q9)|((with_reducible refine bJ (b:=.append) (xs:=#[.tmp 48,.tmp 49]) rfl ?_);at_builtin;refine Kd.gH (Kd.int .u8) (w0:=w) w.heap.size rfl (.tmp 48) (.tmp 49) 22 5 (.int .u8 0) 1 rfl Tryz.underlying22 info5 rfl au bG aAj Xp 34 [.int .u8 34] (fun _=>True) (fun _=>False) rfl rfl ?aP (fun _ hk=>hk.elim) ?aF ?aO ?aB ?aS ?aL ?_;(case aP=>exact rfl);(case aB=>exact zf);(case aF=>exact o8);(case aO=>exact ayn);(case aS=>exact ze);(case aL=>have:=aeI.o;omega);intro a04 Y9 ho hb hg hat;rw[←aAk.o] at ho;have n_:=jA (hb) (jC (ho));clear HB adM;obtain ⟨HB,aAl⟩:=n_;clear ho hb hg hat))
    go_roundg k1
    case measure=>have:=rF.o;omega
    case rel=>exact ⟨(true),(aOx),(wrap64 (dY+1)),bT,bT,H',⟨vE⟩,⟨by refine pR ?_;exact aAl.o⟩,⟨dn⟩⟩
   have H:=G;clear G;obtain ⟨zx,-,H⟩:=l5 H
   replace H:=jE H;obtain ⟨K6,UE,-,H⟩|⟨K6,UE,c17,H⟩:=H
   ·obtain ⟨c19,H⟩:=nD H;have YV:=jC c19;clear c19;obtain ⟨Xq,anG,H⟩:=yB H
    replace H:=iE H;obtain ⟨Ii,Qb,c21,H⟩|⟨Ii,Qb,-,H⟩:=H
    ·have H':=jC H;clear H;obtain ⟨p16,q16⟩:=uw (s:=a0) (i:=dY);have hx16:=d9 a0 dY;obtain ⟨Xr,Xt⟩:=uw (s:=a0) (i:=dY);have Rf:=d9 a0 dY
     go_wp2_with (first|((with_reducible refine bJ (b:=.append) (xs:=#[.tmp 38,.tmp 42]) rfl ?_);at_builtin;refine Kd.gH (Kd.int .u8) (w0:=w) w.heap.size rfl (.tmp 38) (.tmp 42) 22 5 (.int .u8 0) 1 rfl Tryz.underlying22 info5 rfl au bG u4 jw (bt a0 dY) [.int .u8 (bt a0 dY)] (fun _=>True) (fun _=>False) rfl rfl ?aP (fun _ hk=>hk.elim) ?aF ?aO ?aB ?aS ?aL ?_;(case aP=>exact rfl);(case aB=>exact zf);(case aF=>exact o8);(case aO=>exact OZ);(case aS=>exact ze);(case aL=>exact Ns);intro aAm V9 ho hb hg hat;rw[←anG.o] at ho;have n_:=jA (hb) (jC (ho));clear HB df;obtain ⟨HB,adL⟩:=n_;clear ho hb hg hat;have p20:0≤(dY:Int):=oT bL;have q20:dY<(a0.size:Int):=oT bL;have ajR:=d9 a0 dY;replace p20:=fO p20;replace q20:=fO q20))
     go_roundg k1
     case measure=>have:=rF.o;omega
     case rel=>exact ⟨(true),(Xq),(wrap64 (dY+1)),bT,bT,H',⟨vE⟩,⟨aym⟩,⟨dn⟩⟩
    obtain ⟨c22,H⟩:=nD H;have aAn:=jC c22;clear c22;generalize hyy:(Xq++ [34])=aOy at H;have aAo:=jC hyy.symm;clear hyy;have H':=jC H;clear H;obtain ⟨p16,q16⟩:=uw (s:=a0) (i:=dY);have hx16:=d9 a0 dY;obtain ⟨Xr,Xt⟩:=uw (s:=a0) (i:=dY);have Rf:=d9 a0 dY
    go_wp2_with (first|((with_reducible refine bJ (b:=.append) (xs:=#[.tmp 38,.tmp 42]) rfl ?_);at_builtin;refine Kd.gH (Kd.int .u8) (w0:=w) w.heap.size rfl (.tmp 38) (.tmp 42) 22 5 (.int .u8 0) 1 rfl Tryz.underlying22 info5 rfl au bG u4 jw (bt a0 dY) [.int .u8 (bt a0 dY)] (fun _=>True) (fun _=>False) rfl rfl ?aP (fun _ hk=>hk.elim) ?aF ?aO ?aB ?aS ?aL ?_;(case aP=>exact rfl);(case aB=>exact zf);(case aF=>exact o8);(case aO=>exact OZ);(case aS=>exact ze);(case aL=>exact Ns);intro aAm w23 ho hb hg hat;rw[←anG.o] at ho;have n_:=jA (hb) (jC (ho));clear HB df;obtain ⟨HB,adL⟩:=n_;clear ho hb hg hat;have p20:0≤(dY:Int):=oT bL;have q20:dY<(a0.size:Int):=oT bL;have ajR:=d9 a0 dY;replace p20:=fO p20;replace q20:=fO q20)|((with_reducible refine bJ (b:=.append) (xs:=#[.tmp 48,.tmp 49]) rfl ?_);at_builtin;refine Kd.gH (Kd.int .u8) (w0:=w) w.heap.size rfl (.tmp 48) (.tmp 49) 22 5 (.int .u8 0) 1 rfl Tryz.underlying22 info5 rfl au bG aAm Xq 34 [.int .u8 34] (fun _=>True) (fun _=>False) rfl rfl ?aP (fun _ hk=>hk.elim) ?aF ?aO ?aB ?aS ?aL ?_;(case aP=>exact rfl);(case aB=>exact zf);(case aF=>exact o8);(case aO=>exact aym);(case aS=>exact ze);(case aL=>have:=aAn.o;omega);intro a05 w24 ho hb hg hat;rw[←aAo.o] at ho;have n_:=jA (hb) (jC (ho));clear HB adL;obtain ⟨HB,aAp⟩:=n_;clear ho hb hg hat))
    go_roundg k1
    case measure=>have:=rF.o;omega
    case rel=>exact ⟨(true),(aOy),(wrap64 (dY+1)),bT,bT,H',⟨vE⟩,⟨by refine pR ?_;exact aAp.o⟩,⟨dn⟩⟩
   replace H:=jE H;obtain ⟨EH,UF,-,H⟩|⟨EH,UF,c27,H⟩:=H
   ·obtain ⟨c29,H⟩:=nD H;have aAr:=jC c29;clear c29;obtain ⟨aeG,aAs,H⟩:=yB H;obtain ⟨c31,H⟩:=nD H;have aAt:=jC c31;clear c31;generalize hyy:(aeG++ [34])=aOB at H;have aAu:=jC hyy.symm;clear hyy;have H':=jC H;clear H;obtain ⟨p16,q16⟩:=uw (s:=a0) (i:=dY);have hx16:=d9 a0 dY;obtain ⟨p26,q26⟩:=uw (s:=a0) (i:=dY);have aAv:=d9 a0 dY;obtain ⟨p28,q28⟩:=uw (s:=a0) (i:=dY);have hx28:=d9 a0 dY
    go_wp2_with (first|((with_reducible refine bJ (b:=.append) (xs:=#[.tmp 38,.tmp 42]) rfl ?_);at_builtin;refine Kd.gH (Kd.int .u8) (w0:=w) w.heap.size rfl (.tmp 38) (.tmp 42) 22 5 (.int .u8 0) 1 rfl Tryz.underlying22 info5 rfl au bG u4 jw (bt a0 dY) [.int .u8 (bt a0 dY)] (fun _=>True) (fun _=>False) rfl rfl ?aP (fun _ hk=>hk.elim) ?aF ?aO ?aB ?aS ?aL ?_;(case aP=>exact rfl);(case aB=>exact zf);(case aF=>exact o8);(case aO=>exact OZ);(case aS=>exact ze);(case aL=>have:=aAr.o;omega);intro aOC w32 ho hb hg hat;rw[←aAs.o] at ho;have n_:=jA (hb) (jC (ho));clear HB df;obtain ⟨HB,anH⟩:=n_;clear ho hb hg hat;have p30:0≤(dY:Int):=oT bL;have NG:dY<(a0.size:Int):=oT bL;have O5:=d9 a0 dY;replace p30:=fO p30;replace NG:=fO NG)|((with_reducible refine bJ (b:=.append) (xs:=#[.tmp 48,.tmp 49]) rfl ?_);at_builtin;refine Kd.gH (Kd.int .u8) (w0:=w) w.heap.size rfl (.tmp 48) (.tmp 49) 22 5 (.int .u8 0) 1 rfl Tryz.underlying22 info5 rfl au bG aOC aeG 34 [.int .u8 34] (fun _=>True) (fun _=>False) rfl rfl ?aP (fun _ hk=>hk.elim) ?aF ?aO ?aB ?aS ?aL ?_;(case aP=>exact rfl);(case aB=>exact zf);(case aF=>exact o8);(case aO=>exact (by refine pR ?_;exact anH.o));(case aS=>exact ze);(case aL=>have:=aAt.o;omega);intro a06 w33 ho hb hg hat;rw[←aAu.o] at ho;have n_:=jA (hb) (jC (ho));clear HB anH;obtain ⟨HB,aAw⟩:=n_;clear ho hb hg hat))
    go_roundg k1
    case measure=>have:=rF.o;omega
    case rel=>exact ⟨(true),(aOB),(wrap64 (dY+1)),bT,bT,H',⟨vE⟩,⟨by refine pR ?_;exact aAw.o⟩,⟨dn⟩⟩
   replace H:=jE H;obtain ⟨Y6,aAx,-,H⟩|⟨Y6,aAx,c35,H⟩:=H
   ·obtain ⟨c37,H⟩:=nD H;have ael:=jC c37;clear c37;generalize hyy:(jw++ [bt a0 dY])=aOD at H;have aAy:=jC hyy.symm;clear hyy;have H':=jC H;clear H;obtain ⟨p16,q16⟩:=uw (s:=a0) (i:=dY);have hx16:=d9 a0 dY;obtain ⟨p26,q26⟩:=uw (s:=a0) (i:=dY);have aAv:=d9 a0 dY;obtain ⟨p34,q34⟩:=uw (s:=a0) (i:=dY);have hx34:=d9 a0 dY;obtain ⟨p36,q36⟩:=uw (s:=a0) (i:=dY);have a07:=d9 a0 dY
    go_wp2_with (first|((with_reducible refine bJ (b:=.append) (xs:=#[.tmp 38,.tmp 42]) rfl ?_);at_builtin;refine Kd.gH (Kd.int .u8) (w0:=w) w.heap.size rfl (.tmp 38) (.tmp 42) 22 5 (.int .u8 0) 1 rfl Tryz.underlying22 info5 rfl au bG u4 jw (bt a0 dY) [.int .u8 (bt a0 dY)] (fun _=>True) (fun _=>False) rfl rfl ?aP (fun _ hk=>hk.elim) ?aF ?aO ?aB ?aS ?aL ?_;(case aP=>exact rfl);(case aB=>exact zf);(case aF=>exact o8);(case aO=>exact OZ);(case aS=>exact ze);(case aL=>have:=ael.o;omega);intro a08 w39 ho hb hg hat;rw[←aAy.o] at ho;have n_:=jA (hb) (jC (ho));clear HB df;obtain ⟨HB,aAz⟩:=n_;clear ho hb hg hat;have p38:0≤(dY:Int):=oT bL;have q38:dY<(a0.size:Int):=oT bL;have hx38:=d9 a0 dY;replace p38:=fO p38;replace q38:=fO q38))
    go_roundg k1
    case measure=>have:=rF.o;omega
    case rel=>exact ⟨(true),(aOD),(wrap64 (dY+1)),bT,bT,H',⟨vE⟩,⟨by refine pR ?_;exact aAz.o⟩,⟨dn⟩⟩
   obtain ⟨c42,H⟩:=nD H;have aAA:=jC c42;clear c42;generalize hyy:(jw++ [bt a0 dY])=aOE at H;have aAB:=jC hyy.symm;clear hyy;have H':=jC H;clear H;obtain ⟨p16,q16⟩:=uw (s:=a0) (i:=dY);have hx16:=d9 a0 dY;obtain ⟨p26,q26⟩:=uw (s:=a0) (i:=dY);have aAv:=d9 a0 dY;obtain ⟨p34,q34⟩:=uw (s:=a0) (i:=dY);have hx34:=d9 a0 dY;obtain ⟨p40,q40⟩:=uw (s:=a0) (i:=dY);have aOF:=d9 a0 dY;obtain ⟨p41,q41⟩:=uw (s:=a0) (i:=dY);have a09:=d9 a0 dY
   go_wp2_with (first|((with_reducible refine bJ (b:=.append) (xs:=#[.tmp 38,.tmp 42]) rfl ?_);at_builtin;refine Kd.gH (Kd.int .u8) (w0:=w) w.heap.size rfl (.tmp 38) (.tmp 42) 22 5 (.int .u8 0) 1 rfl Tryz.underlying22 info5 rfl au bG u4 jw (bt a0 dY) [.int .u8 (bt a0 dY)] (fun _=>True) (fun _=>False) rfl rfl ?aP (fun _ hk=>hk.elim) ?aF ?aO ?aB ?aS ?aL ?_;(case aP=>exact rfl);(case aB=>exact zf);(case aF=>exact o8);(case aO=>exact OZ);(case aS=>exact ze);(case aL=>have:=aAA.o;omega);intro a1a w44 ho hb hg hat;rw[←aAB.o] at ho;have n_:=jA (hb) (jC (ho));clear HB df;obtain ⟨HB,aAD⟩:=n_;clear ho hb hg hat;have p43:0≤(dY:Int):=oT bL;have q43:dY<(a0.size:Int):=oT bL;have a1b:=d9 a0 dY;replace p43:=fO p43;replace q43:=fO q43))
   go_roundg k1
   case measure=>have:=rF.o;omega
   case rel=>exact ⟨(((bt a0 dY)==13)),(aOE),(wrap64 (dY+1)),bT,bT,H',⟨vE⟩,⟨by refine pR ?_;exact aAD.o⟩,⟨dn⟩⟩
mutual
def dM.l0:Nat→List (List ByteArray)→List Int→Int→Option (ByteArray)
 |0,_,_,_=>none
 |k+1,x0,x3,x4=>if x4<(x0.length:Int) then (dM.l1 k x0 x3 x4 0) else (some (strOfNums x3))
def dM.l1:Nat→List (List ByteArray)→List Int→Int→Int→Option (ByteArray)
 |0,_,_,_,_=>none
 |k+1,x0,x3,x4,x5=>if 0≤x4 then (if x4<(x0.length:Int) then (if x5<((aN x0 x4).length:Int) then (if x5>0 then (if x3.length<140737488355328 then ((some (x3++ [44]:List Int)).bind fun aeJ=>(if 0≤x5 then ((fM.f k (jg ByteArray.empty (aN x0 x4) x5)).bind fun aeK=>(if aeJ.length+aeK.size<140737488355328 then (dM.l1 k x0 (aeJ++bytesOf aeK) x4 (wrap64 (x5+1))) else (none))) else (none))) else (none)) else (if 0≤x5 then ((fM.f k (jg ByteArray.empty (aN x0 x4) x5)).bind fun aeL=>(if x3.length+aeL.size<140737488355328 then (dM.l1 k x0 (x3++bytesOf aeL) x4 (wrap64 (x5+1))) else (none))) else (none))) else (if x3.length<140737488355328 then (dM.l0 k x0 (x3++ [10]) (wrap64 (x4+1))) else (none))) else (none)) else (none)
end
def dM.f (k:Nat) (l0:List (List ByteArray)):Option (ByteArray):=dM.l0 k l0 (([]:List Int)) 0
theorem dM.calls {k:Nat} {A0:Option Addr} {c0:Nat} {l0:List (List ByteArray)} {r:ByteArray} {w:World} (hr0:Kd.C (Kd.slice 9 Kd.string) w A0 l0.length l0) (hc0:l0.length≤c0) (h:dM.f k l0=some r):
  Calls Tryz.prog 22 #[.slice A0 l0.length c0] w fun e w'=>e=.returned (.string r)∧Below w.heap.size w w':=by
 have t_:=jC hr0;have BI:=jC hc0;clear hr0 hc0;have HB:=jC (Below.refl w.heap.size w);have H:=h;clear h;unfold dM.f at H;generalize hyy:(([]:List Int))=aOG at H;have anI:=jC hyy.symm;clear hyy;have H':=jC H;clear H;go_enter Tryz.func22,Tryz.ntmps22
 go_wp2_with (first|((with_reducible refine aG (N:=6) rfl ?_);refine Kd.sQ (Kd.int .u8) _ 5 ?hg (N:=6) ?hd (xs:=([]:List Int)) (inner:=[]) (ok:=fun _=>True) (okp:=fun _=>True) ?hr ?hp rE trivial (Below.refl _ _) (Nat.le_refl _) gQ ?_;(case hd=>rfl);(case hg=>rfl);(case hr=>exact kz);(case hp=>exact xk);intro a1c w2 ho3 hb hg_ hnew_;clear hg_ hnew_;(first|rw[←anI.o] at ho3|(simp only[Int.reduceToNat] at ho3;rw[←anI.o] at ho3));have n_:=Z69;clear HB;obtain ⟨aAE,HB⟩:=n_;clear hb ho3))
 go_loopg [3,4] k (fun kq v3 v4 w'=>∃(lK:List Int) (jw:Int),v4=.int .i64 jw∧aa (dM.l0 kq l0 lK jw=some r)∧aa (kq≤k)∧aa (Kd.R (Kd.int .u8) 5 w' w.heap.size (fun _=>True) v3 lK)∧aa (Below w.heap.size w w'))
 case atStart=>exact ⟨(aOG),(0),bT,H',⟨Nat.le_refl _⟩,⟨by refine pR ?_;exact aAE.o⟩,⟨dn⟩⟩
 case round=>
  clear H';obtain ⟨lK,jw,rfl,HA,rF,lv,HB⟩:=hrel
  cases gk with
  |zero=>exact absurd HA.o (by simp [dM.l0])
  |succ k1=>
   have H:=HA.o;clear HA;simp only[dM.l0] at H
   replace H:=iD H;obtain ⟨qo,-,H⟩|⟨qo,-,H⟩:=H
   ·obtain rfl:=Option.some.inj H;have aeF:=qp (P:=Tryz.prog) Tryz.underlying22 Tryz.underlying5 Tryz.underlying9 (Kd.o6 lv.o)
    go_wp2
    go_ret;exact ⟨fT,dn⟩
   have H':=jC H;clear H
   go_wp2
   go_loopg [3,5] k1 (fun kq v3 v5 w'=>∃(tL:List Int) (o7:Int),v5=.int .i64 o7∧aa (dM.l1 kq l0 tL jw o7=some r)∧aa (kq≤k1)∧aa (Kd.R (Kd.int .u8) 5 w' w.heap.size (fun _=>True) v3 tL)∧aa (Below w.heap.size w w'))
   case atStart=>exact ⟨(lK),(0),bT,H',⟨Nat.le_refl _⟩,⟨abq⟩,⟨dn⟩⟩
   case round=>
    clear H';obtain ⟨tL,o7,rfl,HA,vD,lv,HB⟩:=hrel
    cases gk with
    |zero=>exact absurd HA.o (by simp [dM.l1])
    |succ k2=>
     have H:=HA.o;clear HA;simp only[dM.l1] at H;obtain ⟨oZ,-,H⟩:=l5 H;obtain ⟨vU,-,H⟩:=l5 H
     replace H:=iD H;obtain ⟨D9,-,H⟩|⟨D9,-,H⟩:=H
     ·obtain ⟨c21,H⟩:=nD H;have aeM:=jC c21;clear c21;generalize hyy:(tL++ [10])=aOH at H;have aAF:=jC hyy.symm;clear hyy;have H':=jC H;clear H;obtain ⟨aAG,aAH,Y_,aeN,aeO,aeP,vK,Za,Zb⟩:=S9 t_.o jw
      cases aeP
      replace vK:=(HB.o.cell (World.block_lt_of_cell? w _ vK)).trans vK
      go_wp2_with (first|((with_reducible refine bJ (b:=.append) (xs:=#[.tmp 37,.tmp 38]) rfl ?_);at_builtin;refine Kd.gH (Kd.int .u8) (w0:=w) w.heap.size rfl (.tmp 37) (.tmp 38) 22 5 (.int .u8 0) 1 rfl Tryz.underlying22 info5 rfl au bG u3 tL 10 [.int .u8 10] (fun _=>True) (fun _=>False) rfl rfl ?aP (fun _ hk=>hk.elim) ?aF ?aO ?aB ?aS ?aL ?_;(case aP=>exact rfl);(case aB=>exact zf);(case aF=>exact o8);(case aO=>exact adH);(case aS=>exact ze);(case aL=>have:=aeM.o;omega);intro a1d w22 ho hb hg hat;rw[←aAF.o] at ho;have n_:=jA (hb) (jC (ho));clear HB lv;obtain ⟨HB,aAI⟩:=n_;clear ho hb hg hat))
      go_roundg k2
      case measure=>have:=rF.o;have:=vD.o;omega
      case rel=>exact ⟨(aOH),(wrap64 (jw+1)),bT,H',⟨Ca⟩,⟨by refine pR ?_;exact aAI.o⟩,⟨dn⟩⟩
     replace H:=iD H;obtain ⟨vV,-,H⟩|⟨vV,-,H⟩:=H
     ·obtain ⟨Gg,-,H⟩:=l5 H;obtain ⟨aeL,O6,H⟩:=bd H;obtain ⟨c18,H⟩:=nD H;have aeQ:=jC c18;clear c18;generalize hyy:(tL++bytesOf aeL)=aAJ at H;have aAK:=jC hyy.symm;clear hyy;have H':=jC H;clear H;obtain ⟨aAG,aAH,Y_,aeN,aeO,aeP,vK,Za,Zb⟩:=S9 t_.o jw
      cases aeP
      replace vK:=(HB.o.cell (World.block_lt_of_cell? w _ vK)).trans vK;obtain ⟨a1e,a1f,aAL,aOI,aOJ,aOK,Mg,aJX,ajS⟩:=S9 t_.o jw;obtain rfl:Y_=aAL:=(by injection aOK);replace Mg:=(HB.o.cell (World.block_lt_of_cell? w _ Mg)).trans Mg;have ea_:=Option.some.inj (vK.symm.trans Mg);injection ea_ with ea_ en_ ec_;subst ea_;subst ec_;clear en_;obtain ⟨a1g,a1h,aWE,aOL,Rh⟩:=gS ajS.o o7
      cases aOL
      replace Rh:=(HB.o.cell (World.block_lt_of_cell? w _ Rh)).trans Rh
      go_wp2_with (first|(refine gR 35 Tryz.func59 #[.string (jg ByteArray.empty (aN l0 jw) o7)] (fM.calls O6.o) (h:=?_);intro Zc hb;have n_:=Z84;clear lv HB;obtain ⟨lv,HB⟩:=n_)|(at_builtin;refine uS (w0:=w) w.heap.size rfl (.tmp 27) _ 22 9 5 rfl Tryz.underlying22 Tryz.underlying9 info5 u3 tL aeL rfl rfl ?aO ?aB ?aS ?aL ?_;(case aB=>exact zf);(case aO=>exact axY);(case aS=>exact ze);(case aL=>have:=aeQ.o;omega);intro aOM w20 ho0 hb hg;have ho:=Kd.wV (h1:=fun _=>rfl) (ok:=fun _=>True) ho0 o8;clear ho0;have hat:=True.intro;rw[←aAK.o] at ho;change Kd.R (Kd.int .u8) 5 w20 w.heap.size (fun _=>True) aOM aAJ at ho;have n_:=jA (hb) (jC (ho));clear HB lv;obtain ⟨HB,aAM⟩:=n_;clear ho hb hg hat))
      go_roundg k2
      case measure=>have:=rF.o;have:=vD.o;omega
      case rel=>exact ⟨(aAJ),(wrap64 (o7+1)),bT,H',⟨Ca⟩,⟨by refine pR ?_;exact aAM.o⟩,⟨dn⟩⟩
     obtain ⟨c9,H⟩:=nD H;have aON:=jC c9;clear c9;obtain ⟨aeJ,aAN,H⟩:=yB H;obtain ⟨vC,-,H⟩:=l5 H;obtain ⟨aeK,Q6,H⟩:=bd H;obtain ⟨c12,H⟩:=nD H;have aAO:=jC c12;clear c12;generalize hyy:(aeJ++bytesOf aeK)=aAP at H;have aAQ:=jC hyy.symm;clear hyy;have H':=jC H;clear H;obtain ⟨aAG,aAH,Y_,aeN,aeO,aeP,vK,Za,Zb⟩:=S9 t_.o jw
     cases aeP
     replace vK:=(HB.o.cell (World.block_lt_of_cell? w _ vK)).trans vK
     go_wp2_with (first|((with_reducible refine bJ (b:=.append) (xs:=#[.tmp 24,.tmp 25]) rfl ?_);at_builtin;refine Kd.gH (Kd.int .u8) (w0:=w) w.heap.size rfl (.tmp 24) (.tmp 25) 22 5 (.int .u8 0) 1 rfl Tryz.underlying22 info5 rfl au bG u3 tL 44 [.int .u8 44] (fun _=>True) (fun _=>False) rfl rfl ?aP (fun _ hk=>hk.elim) ?aF ?aO ?aB ?aS ?aL ?_;(case aP=>exact rfl);(case aB=>exact zf);(case aF=>exact o8);(case aO=>exact adH);(case aS=>exact ze);(case aL=>have:=aON.o;omega);intro aOO Y9 ho hb hg hat;rw[←aAN.o] at ho;have n_:=jA (hb) (jC (ho));clear HB lv;obtain ⟨HB,YS⟩:=n_;clear ho hb hg hat;have arM:0≤(jw:Int):=oT bL;have arN:jw<(l0.length:Int):=oT bL;obtain ⟨aAR,aOP,aOQ,aOR,Ri,Zd,Ze⟩:=zu t_.o jw arM arN;obtain rfl:Y_=aAR:=(by injection aOR);replace Ri:=(HB.o.cell (World.block_lt_of_cell? w _ Ri)).trans Ri;have ajT:=jC Ze;have aJY:=jC Zd;clear Ze Zd;replace arM:=fO arM;replace arN:=fO arN;have arO:0≤(o7:Int):=oT bL;have arP:o7<((aN l0 jw).length:Int):=oT bL;obtain ⟨aWF,aOS,Rj⟩:=Kd.oP ajT.o o7 arO arP;cases aOS;replace Rj:=(HB.o.cell (World.block_lt_of_cell? w _ Rj)).trans Rj;replace arO:=fO arO;replace arP:=fO arP)|(refine gR 35 Tryz.func59 #[.string (jg ByteArray.empty (aN l0 jw) o7)] (fM.calls Q6.o) (h:=?_);intro Xi hb;have n_:=jA (Kd.bX ayg hb) (jC (ae dn hb));clear YS HB;obtain ⟨YS,HB⟩:=n_)|(at_builtin;refine uS (w0:=w) w.heap.size rfl (.tmp 27) _ 22 9 5 rfl Tryz.underlying22 Tryz.underlying9 info5 aOO aeJ aeK rfl rfl ?aO ?aB ?aS ?aL ?_;(case aB=>exact zf);(case aO=>exact (Kd.o6 ayg));(case aS=>exact ze);(case aL=>have:=aAO.o;omega);intro aOT Zf ho0 hb hg;have ho:=Kd.wV (h1:=fun _=>rfl) (ok:=fun _=>True) ho0 o8;clear ho0;have hat:=True.intro;rw[←aAQ.o] at ho;change Kd.R (Kd.int .u8) 5 Zf w.heap.size (fun _=>True) aOT aAP at ho;have n_:=jA (hb) (jC (ho));clear HB YS;obtain ⟨HB,aAS⟩:=n_;clear ho hb hg hat))
     go_roundg k2
     case measure=>have:=rF.o;have:=vD.o;omega
     case rel=>exact ⟨(aAP),(wrap64 (o7+1)),bT,H',⟨Ca⟩,⟨by refine pR ?_;exact aAS.o⟩,⟨dn⟩⟩
mutual
def bY.l0:Nat→List (List ByteArray)→Int→List ByteArray→ByteArray→List (List Int)→List Int→Option (ByteArray)
 |0,_,_,_,_,_,_=>none
 |k+1,x3,x4,Mh,Mi,AU,Fp=>if x4<(AU.length:Int) then (bY.l1 k x3 x4 (([]:List ByteArray)) 0 Mh Mi AU Fp) else ((dM.f k x3).bind fun aAT=>(some aAT))
def bY.l1:Nat→List (List ByteArray)→Int→List ByteArray→Int→List ByteArray→ByteArray→List (List Int)→List Int→Option (ByteArray)
 |0,_,_,_,_,_,_,_,_=>none
 |k+1,x3,x4,x5,x6,Mh,Mi,AU,Fp=>if 0≤x4 then (if x4<(AU.length:Int) then (if x6<((gP AU x4).length:Int) then (if 0≤x6 then ((gm.f k (rd (gP AU x4) x6)).bind fun abY=>((some (([abY]:List ByteArray):List ByteArray)).bind fun Xu=>(if x5.length+Xu.length<8796093022208 then (bY.l1 k x3 x4 (x5++Xu) (wrap64 (x6+1)) Mh Mi AU Fp) else (none)))) else (none)) else (if x4<(Fp.length:Int) then ((gm.f k (rd Fp x4)).bind fun abZ=>((some (([abZ]:List ByteArray):List ByteArray)).bind fun G5=>(if x5.length+G5.length<8796093022208 then ((some (([(x5++G5)]:List (List ByteArray)):List (List ByteArray))).bind fun aeR=>(if x3.length+aeR.length<5864062014805 then (bY.l0 k (x3++aeR) (wrap64 (x4+1)) Mh Mi AU Fp) else (none))) else (none)))) else (none))) else (none)) else (none)
end
def bY.f (k:Nat) (dH:List ByteArray) (fA:ByteArray) (eZ:List (List Int)) (fG:List Int):Option (ByteArray):=(bg.f k dH fA eZ fG).bind fun aAU=>(if aAU=true then ((some (([]:List ByteArray):List ByteArray)).bind fun ab0=>(if ab0.length+dH.length<8796093022208 then ((some (ab0++dH:List ByteArray)).bind fun Xv=>((some (([fA]:List ByteArray):List ByteArray)).bind fun JQ=>(if Xv.length+JQ.length<8796093022208 then (bY.l0 k (([(Xv++JQ)]:List (List ByteArray))) 0 dH fA eZ fG) else (none)))) else (none))) else (some (⟨#[]⟩:ByteArray)))
def bY.T3:Bool × List (List Nat × List Nat):=(true,[([],[]),([],[]),([1],[1]),([0,2],[0,2]),([],[]),([4],[4]),([5],[5]),([3,6,3],[3,6]),([7],[7]),([8,7,0,1,2,3,4,5,6,7,8],[8])])
def bY.B3:List Nat:=[0,0,2,7,0,16,48,127,255,511]
theorem bY.NH:o_ .any (opsOf Tryz.f7 3)=bY.T3:=by kernel_rfl
theorem bY.EI:lq bY.T3.2 bY.B3=true:=by kernel_rfl
theorem bY.calls {k:Nat} {iq:Option Addr} {ig:Nat} {dH:List ByteArray} {fA:ByteArray} {kv:Option Addr} {jI:Nat} {eZ:List (List Int)} {jX:Option Addr} {jF:Nat} {fG:List Int} {r:ByteArray} {w:World} (yG:Kd.C Kd.string w iq dH.length dH) (yH:dH.length≤ig) (yI:Kd.C (Kd.slice 3 (Kd.int .i64)) w kv eZ.length eZ) (yJ:eZ.length≤jI) (yK:Kd.C (Kd.int .i64) w jX fG.length fG) (yL:fG.length≤jF) (h:bY.f k dH fA eZ fG=some r):
  Calls Tryz.prog 7 #[.agg #[.slice iq dH.length ig,.string fA,.slice kv eZ.length jI,.slice jX fG.length jF]] w fun e w'=>e=.returned (.string r)∧Below w.heap.size w w':=by
 have NB:=Tryz.underlying28;have zo:=jC yG;have H7:=jC yH;clear yG yH;have zn:=jC yI;have Ah:=jC yJ;clear yI yJ;have DD:=jC yK;have Cf:=jC yL;clear yK yL;have HB:=jC (Below.refl w.heap.size w);have H:=h;clear h;unfold bY.f at H;obtain ⟨aAU,A2,H⟩:=bd H
 replace H:=iB H;obtain ⟨rfl,H⟩|⟨rfl,H⟩:=H
 ·obtain rfl:=Option.some.inj H;go_enter Tryz.func7,Tryz.ntmps7
  go_wp2_with (first|((with_reducible refine aG (N:=1) rfl ?_);refine bE 1 #[.slice iq dH.length ig,.string fA,.slice kv eZ.length jI,.slice jX fG.length jF] 28 (h:=?_);intro nI hg wC hbox hb;have n_:=Z56;clear HB;obtain ⟨HB,dN,amY⟩:=n_;clear hb hbox hg;obtain ⟨_,_,_,_,_,_,_,_⟩:=cz dN.o)|(refine gR 8 Tryz.func14 #[.agg #[.slice iq dH.length ig,.string fA,.slice kv eZ.length jI,.slice jX fG.length jF]] (bg.calls ?ai ?aj ?fI ?gV ?nz ?tN A2.o) (h:=?_);(case ai=>exact D8);(case aj=>exact wT);(case fI=>exact abw);(case gV=>exact Ah.o);(case nz=>exact ai6);(case tN=>exact Cf.o);intro wq2 hb;have lg:=jC (ae vv hb);clear dN;clear HB;have HB:=lg;clear lg))
  go_ret;exact ⟨fT,vv⟩
 obtain ⟨ab0,Zg,H⟩:=yB H;obtain ⟨c4,H⟩:=nD H;have arQ:=jC c4;clear c4;obtain ⟨Xv,aeS,H⟩:=yB H;obtain ⟨JQ,Qc,H⟩:=yB H;obtain ⟨c5,H⟩:=nD H;have aqW:=jC c5;clear c5;generalize hyy:(Xv++JQ)=aeT at H;have aAV:=jC hyy.symm;clear hyy;generalize hyy:(([aeT]:List (List ByteArray)))=aOU at H;have anJ:=jC hyy.symm;clear hyy;have H':=jC H;clear H;go_enter Tryz.func7,Tryz.ntmps7
 try go_wp2_with (first|((with_reducible refine aG (N:=1) rfl ?_);refine bE 1 #[.slice iq dH.length ig,.string fA,.slice kv eZ.length jI,.slice jX fG.length jF] 28 (h:=?_);intro nI hg w6 hbox hb;have n_:=Z56;clear HB;obtain ⟨HB,dN,amY⟩:=n_;clear hb hbox hg;obtain ⟨_,_,_,_,_,_,_,_⟩:=cz dN.o)|(refine gR 8 Tryz.func14 #[.agg #[.slice iq dH.length ig,.string fA,.slice kv eZ.length jI,.slice jX fG.length jF]] (bg.calls ?ai ?aj ?fI ?gV ?nz ?tN A2.o) (h:=?_);(case ai=>exact D8);(case aj=>exact wT);(case fI=>exact abw);(case gV=>exact Ah.o);(case nz=>exact ai6);(case tN=>exact Cf.o);intro w8 hb;have n_:=jA (dE dN hb) (jC (ae vv hb));clear dN HB;obtain ⟨dN,HB⟩:=n_))
 have n_:=jA (ib dN.o) (jC (aU HB.o));clear dN HB;obtain ⟨dN,HB⟩:=n_;refine iZ (n:=10) (S:=fun w'=>w'.cell? ⟨nI,0,none⟩=some (.slice iq dH.length ig)∧w'.cell? ⟨nI,1,none⟩=some (.string fA)∧w'.cell? ⟨nI,2,none⟩=some (.slice kv eZ.length jI)∧w'.cell? ⟨nI,3,none⟩=some (.slice jX fG.length jF)) (ds:=[]) (qM 10 0) bD rfl (by kernel_rfl) ⟨bc dN 0,bc dN 1,bc dN 2,bc dN 3⟩ (fun hHeld=>?_);refine fZ bY.NH bY.EI (fun HT_ HW_=>?_);generalize w8.drew=w9 at dN HB hHeld ⊢;refine rP 1 (h:=?_);refine rP 4 (h:=?_);refine FN 2 hHeld (h:=?_);refine FN 5 hHeld (h:=?_);refine Gh (σ:=Value × Value × Value) 3 (qM 10 127) (fun s_=> [(10,s_.1),(13,s_.2.1),(16,s_.2.2)]) (fun s_ w'=>(w'.cell? ⟨nI,0,none⟩=some (.slice iq dH.length ig)∧w'.cell? ⟨nI,1,none⟩=some (.string fA)∧w'.cell? ⟨nI,2,none⟩=some (.slice kv eZ.length jI)∧w'.cell? ⟨nI,3,none⟩=some (.slice jX fG.length jF))∧(Kd.R Kd.string 9 w' w.heap.size (fun k_=>some k_≠(s_.2.2:Value).ownBlock) s_.2.1 Xv)∧(Kd.R Kd.string 9 w' w.heap.size (fun k_=>some k_≠(s_.2.1:Value).ownBlock) s_.2.2 JQ)∧(w'.heap[nI]?=some (.cells #[.slice iq dH.length ig,.string fA,.slice kv eZ.length jI,.slice jX fG.length jF] 28 (0,0)))∧(Below w.heap.size w w')) ?_ ?_;rotate_left
 ·intro hCont;refine Ij (i:=0) (j:=6) (Ni:=some 10) (Nj:=some 16) (qM 10 55) (qM 10 118) rfl rfl rfl rfl (wW HT_.o bD) au au (fun K hK=>?_) (fun K hK=>?_)
  ·skip
   refine Kd.gJ Kd.string _ 9 ?hg (N:=10) ?hd (xs:=([]:List ByteArray)) (inner:=[]) (ok:=fun _=>True) (okp:=fun _=>True) ?hr ?hp rE trivial (Below.refl _ _) (Nat.le_refl _) gQ ?_;(case hd=>rfl);(case hg=>rfl);(case hr=>exact kz);(case hp=>exact xk);intro UG w10 FR hb hg_ hnew_;clear hg_ hnew_;(first|rw[←Zg.o] at FR|(simp only[Int.reduceToNat] at FR;rw[←Zg.o] at FR));have n_:=Z43;clear dN HB;obtain ⟨Ga,dN,HB⟩:=n_;clear hb FR;refine hK.out _ _ ⟨bc dN 0,bc dN 1,bc dN 2,bc dN 3⟩ (fun hHeld=>?_);clear hK K;refine rN (h:=?_);refine Ij (i:=3) (j:=6) (Ni:=some 13) (Nj:=some 16) (qM 10 63) (qM 10 119) rfl rfl rfl rfl (wW HT_.o bD) au au (fun K hK=>?_) (fun K hK=>?_)
   ·skip
    refine Kd.fD Kd.string (w0:=w) w.heap.size ek (.tmp 10) (.tmp 12) 24 9 (.string ⟨#[]⟩) 16 rfl Tryz.underlying24 l_ rfl au bG UG ab0 dH _ _ _ (fun _=>True) (fun _=>False) rfl rfl ?aO ?aR (fun _ _ h=>h) (fun _ h=>h.elim) ?aF ?aB ?aS ?aL ?_
    (case aR=>exact D8)
    (case aB=>exact WV)
    (case aF=>exact o8)
    (case aO=>exact aqH)
    (case aS=>exact WU)
    (case aL=>have:=arQ.o;omega)
    intro Rk Q9 ho hb hg hat;rw[←aeS.o] at ho;have n_:=jA (kQ dN hg (Kd.lJ Ga.o dN.o au)) (jA (hb) (jC (ho)));clear dN HB Ga;obtain ⟨dN,HB,Ia⟩:=n_;clear ho hb hg hat;refine hK.out _ _ ⟨bc dN 0,bc dN 1,bc dN 2,bc dN 3⟩ (fun hHeld=>?_);clear hK K;refine rN (h:=?_);refine rO 6 (h:=fun K hK=>?_);refine Kd.gJ Kd.string _ 9 ?hg (N:=16) ?hd (xs:=([fA]:List ByteArray)) (inner:=[.string fA]) (ok:=fun _=>True) (okp:=fun _=>True) ?hr ?hp rE trivial (Below.refl _ _) (Nat.le_refl _) gQ ?_;(case hd=>rfl);(case hg=>rfl);(case hr=>exact kz);(case hp=>exact GX);intro O7 Y9 ab1 hb hg_ hnew_;clear hg_ hnew_;(first|rw[←Qc.o] at ab1|(simp only[Int.reduceToNat] at ab1;rw[←Qc.o] at ab1));have n_:=jA (Kd.gq adJ (Kd.dJ ab1) hb) (jA (Kd.dC (Kd.jh ab1 (Kd.iY adJ)) (ah vv)) (jA (dE dN hb) (jC (ae vv hb))));clear Ia dN HB;obtain ⟨Ia,yE,dN,HB⟩:=n_;clear hb ab1;refine hK.out _ _ ⟨bc dN 0,bc dN 1,bc dN 2,bc dN 3⟩ (fun hHeld=>?_);clear hK K;refine rN (h:=?_);exact oC zG (hCont (UG,Rk,O7) _ ⟨hHeld,(by refine pR ?_;exact Kd.aD Ia.o mV),aqz,O1,vv⟩)
   skip
   refine Kd.gJ Kd.string _ 9 ?hg (N:=16) ?hd (xs:=([fA]:List ByteArray)) (inner:=[.string fA]) (ok:=fun _=>True) (okp:=fun _=>True) ?hr ?hp rE trivial (Below.refl _ _) (Nat.le_refl _) gQ ?_;(case hd=>rfl);(case hg=>rfl);(case hr=>exact kz);(case hp=>exact GX);intro O7 Q9 vF hb hg_ hnew_;clear hg_ hnew_;(first|rw[←Qc.o] at vF|(simp only[Int.reduceToNat] at vF;rw[←Qc.o] at vF));have n_:=jA (Kd.gq aqH (Kd.dJ vF) hb) (jA (Kd.dC (Kd.jh vF (Kd.iY aqH)) (ah vv)) (jA (dE dN hb) (jC (ae vv hb))));clear Ga dN HB;obtain ⟨Ga,yE,dN,HB⟩:=n_;clear hb vF;refine hK.out _ _ ⟨bc dN 0,bc dN 1,bc dN 2,bc dN 3⟩ (fun hHeld=>?_);clear hK K;refine rN (h:=?_);refine rO 3 (h:=fun K hK=>?_);refine Kd.fD Kd.string (w0:=w) w.heap.size ek (.tmp 10) (.tmp 12) 24 9 (.string ⟨#[]⟩) 16 rfl Tryz.underlying24 l_ rfl au bG UG ab0 dH _ _ _ (fun k_=>some k_≠(O7:Value).ownBlock) (fun _=>False) rfl rfl ?aO ?aR (fun _ _ h=>h) (fun _ h=>h.elim) ?aF ?aB ?aS ?aL ?_
   (case aR=>exact D8)
   (case aB=>exact WV)
   (case aF=>exact aqj)
   (case aO=>exact axW)
   (case aS=>exact WU)
   (case aL=>have:=arQ.o;omega)
   intro Rk Xi ho hb hg hat;rw[←aeS.o] at ho;have n_:=awR;clear dN yE HB Ga;obtain ⟨dN,yE,HB,Ia⟩:=n_;clear ho hb hg hat;refine hK.out _ _ ⟨bc dN 0,bc dN 1,bc dN 2,bc dN 3⟩ (fun hHeld=>?_);clear hK K;refine rN (h:=?_);exact oC zG (hCont (UG,Rk,O7) _ ⟨hHeld,adJ,aqz,O1,vv⟩)
  skip
  refine Kd.gJ Kd.string _ 9 ?hg (N:=16) ?hd (xs:=([fA]:List ByteArray)) (inner:=[.string fA]) (ok:=fun _=>True) (okp:=fun _=>True) ?hr ?hp rE trivial (Below.refl _ _) (Nat.le_refl _) gQ ?_;(case hd=>rfl);(case hg=>rfl);(case hr=>exact kz);(case hp=>exact GX);intro O7 w10 FR hb hg_ hnew_;clear hg_ hnew_;(first|rw[←Qc.o] at FR|(simp only[Int.reduceToNat] at FR;rw[←Qc.o] at FR));have n_:=Z43;clear dN HB;obtain ⟨yE,dN,HB⟩:=n_;clear hb FR;refine hK.out _ _ ⟨bc dN 0,bc dN 1,bc dN 2,bc dN 3⟩ (fun hHeld=>?_);clear hK K;refine rN (h:=?_);refine rO 0 (h:=fun K hK=>?_);refine Kd.gJ Kd.string _ 9 ?hg (N:=10) ?hd (xs:=([]:List ByteArray)) (inner:=[]) (ok:=fun _=>True) (okp:=fun _=>True) ?hr ?hp rE trivial (Below.refl _ _) (Nat.le_refl _) gQ ?_;(case hd=>rfl);(case hg=>rfl);(case hr=>exact kz);(case hp=>exact xk);intro UG Q9 vF hb hg_ hnew_;clear hg_ hnew_;(first|rw[←Zg.o] at vF|(simp only[Int.reduceToNat] at vF;rw[←Zg.o] at vF));have n_:=jA (Kd.gq adq (Kd.dJ vF) hb) (jA (Kd.dC (Kd.jh vF (Kd.iY adq)) (ah vv)) (jA (dE dN hb) (jC (ae vv hb))));clear yE dN HB;obtain ⟨yE,Ga,dN,HB⟩:=n_;clear hb vF;refine hK.out _ _ ⟨bc dN 0,bc dN 1,bc dN 2,bc dN 3⟩ (fun hHeld=>?_);clear hK K;refine rN (h:=?_);refine rO 3 (h:=fun K hK=>?_);refine Kd.fD Kd.string (w0:=w) w.heap.size ek (.tmp 10) (.tmp 12) 24 9 (.string ⟨#[]⟩) 16 rfl Tryz.underlying24 l_ rfl au bG UG ab0 dH _ _ _ (fun k_=>some k_≠(O7:Value).ownBlock) (fun _=>False) rfl rfl ?aO ?aR (fun _ _ h=>h) (fun _ h=>h.elim) ?aF ?aB ?aS ?aL ?_
  (case aR=>exact D8)
  (case aB=>exact WV)
  (case aF=>exact aqj)
  (case aO=>exact axW)
  (case aS=>exact WU)
  (case aL=>have:=arQ.o;omega)
  intro Rk Xi ho hb hg hat;rw[←aeS.o] at ho;have n_:=awR;clear dN yE HB Ga;obtain ⟨dN,yE,HB,Ia⟩:=n_;clear ho hb hg hat;refine hK.out _ _ ⟨bc dN 0,bc dN 1,bc dN 2,bc dN 3⟩ (fun hHeld=>?_);clear hK K;refine rN (h:=?_);exact oC zG (hCont (UG,Rk,O7) _ ⟨hHeld,adJ,aqz,O1,vv⟩)
 rintro ⟨UG,Rk,O7⟩ Zf ⟨hS_,Ik,Il,Gi,Im⟩;have lg:aa (Kd.R Kd.string 9 Zf w.heap.size (fun k_=>some k_≠(O7:Value).ownBlock) Rk Xv):=⟨Ik⟩;have ma:aa (Kd.R Kd.string 9 Zf w.heap.size (fun k_=>some k_≠(Rk:Value).ownBlock) O7 JQ):=⟨Il⟩;have mf:aa (Zf.heap[nI]?=some (.cells #[.slice iq dH.length ig,.string fA,.slice kv eZ.length jI,.slice jX fG.length jF] 28 (0,0))):=⟨Gi⟩;have mg:aa (Below w.heap.size w Zf):=⟨Im⟩;clear dN;clear HB;clear Ik Il Gi Im;have Ia:=lg;have yE:=ma;have dN:=mf;have HB:=mg;clear lg ma mf mg;have hHeld:Zf.cell? ⟨nI,0,none⟩=some (.slice iq dH.length ig)∧Zf.cell? ⟨nI,1,none⟩=some (.string fA)∧Zf.cell? ⟨nI,2,none⟩=some (.slice kv eZ.length jI)∧Zf.cell? ⟨nI,3,none⟩=some (.slice jX fG.length jF):=hS_;obtain ⟨LJ,JO,abP⟩:=Kd.bR yE.o;(first|subst abP|(injection abP with lM qz lN;have qA:=lM.symm;have qC:=lN.symm;clear lM qz lN;subst qA;subst qC));refine oC (a':=?_) ?_ ?_;rotate_left
 ·simp only[wS,Act.put,List.setIfInBounds_toArray,List.set_cons_zero,List.set_cons_succ]
  rfl
 refine rO 7 (h:=fun K hK=>?_);refine Kd.fD Kd.string (w0:=w) w.heap.size ek (.tmp 13) (.tmp 16) 24 9 (.string ⟨#[]⟩) 16 rfl Tryz.underlying24 l_ rfl au bG Rk Xv JQ _ _ _ (fun k_=>some k_≠(.slice LJ JQ.length JO:Value).ownBlock) (fun _=>False) rfl rfl ?aO ?aR (fun _ _ h=>h) (fun _ h=>h.elim) ?aF ?aB ?aS ?aL ?_
 (case aR=>repeat (first|exact (Kd.a_ yE.o).2.2|(with_reducible refine Kd.dF ?_ _)|(with_reducible refine Kd.dG ?_ _)|(with_reducible refine Kd.eQ ?_)))
 (case aB=>exact WV)
 (case aF=>exact aqj)
 (case aO=>exact adJ)
 (case aS=>exact WU)
 (case aL=>exact Xh)
 intro a1i w16 ho hb hg hat;rw[←aAV.o] at ho;have n_:=jA (kQ dN hg (Kd.lJ Ia.o dN.o au)) (jA (Kd.uN (ok:=(fun _=>True)) (by refine pR ?_;exact Kd.aD yE.o (fun _ hk=>⟨trivial,hk⟩)) hg hat) (jA (hb) (jC (ho))));clear dN yE HB Ia;obtain ⟨dN,yE,HB,Zh⟩:=n_;clear ho hb hg hat;obtain ⟨aeE,abV,Xl⟩:=Kd.bR Zh.o;(first|subst Xl|(injection Xl with lM qz lN;have qA:=lM.symm;have qC:=lN.symm;clear lM qz lN;subst qA;subst qC));refine hK.out _ _ ⟨bc dN 0,bc dN 1,bc dN 2,bc dN 3⟩ (fun hHeld=>?_);clear hK K;refine rN (h:=?_);refine rO 8 (h:=fun K hK=>?_);refine Kd.xI (Kd.slice 9 Kd.string) _ 24 ?hg (N':=18) ?hd (xs:=([aeT]:List (List ByteArray))) (inner:=[.slice aeE aeT.length abV]) (ok:=(fun k_=>some k_≠(.slice LJ JQ.length JO:Value).ownBlock∧k_≠nI)) (okp:=(fun k_=>some k_≠(.slice LJ JQ.length JO:Value).ownBlock∧k_≠nI)) ?hr ?hp rE ((show ∀k_,w16.heap.size≤k_→(fun k_=>some k_≠(.slice LJ JQ.length JO:Value).ownBlock∧k_≠nI) k_ from fun k_ hk=>⟨Kd.fresh' (Kd.iY adq) k_ hk,Kd.kg (g:=nI) (o:=.cells #[.slice iq dH.length ig,.string fA,.slice kv eZ.length jI,.slice jX fG.length jF] 28 (0,0)) O1 k_ hk⟩) _ (Nat.le_refl _)) (Below.refl _ _) (Nat.le_refl _) gQ ?_;(case hd=>rfl);(case hg=>rfl);(case hr=>exact kz);(case hp=>exact (d_.one (show Kd.FK (Kd.slice 9 Kd.string) _ _ aeT [.slice aeE aeT.length abV] from (Kd.sJ (Kd.a_ (Kd.aD (ok':=(fun k_=>some k_≠(.slice LJ JQ.length JO:Value).ownBlock∧k_≠nI)) (Kd.iW (Zh.o) dN.o au) (fun k_ hk=>⟨hk.1,hk.2⟩))).2.1 (Kd.R_F (Kd.aD (ok':=(fun k_=>some k_≠(.slice LJ JQ.length JO:Value).ownBlock∧k_≠nI)) (Kd.iW (Zh.o) dN.o au) (fun k_ hk=>⟨hk.1,hk.2⟩))))) (d_.none _ _)));intro a1j Zc aeU hb hg_ hnew_;clear hg_ hnew_;(first|rw[←anJ.o] at aeU|(simp only[Int.reduceToNat] at aeU;rw[←anJ.o] at aeU));have n_:=jA (Kd.qP aeU (ah vv)) (jA (dE dN hb) (jC (ae vv hb)));clear yE dN HB Zh;obtain ⟨aAW,dN,HB⟩:=n_;clear hb aeU;refine hK.out _ _ ⟨bc dN 0,bc dN 1,bc dN 2,bc dN 3⟩ (fun hHeld=>?_);clear hK K;refine rN (h:=?_);refine rP 9 (h:=?_);refine kT (jv HT_.o bD) ?_
 try go_wp2
 go_loopg [3,4] k (fun kq v3 v4 w'=>∃(lK:List (List ByteArray)) (jw:Int),v4=.int .i64 jw∧aa (bY.l0 kq lK jw dH fA eZ fG=some r)∧aa (kq≤k)∧aa (Kd.N (Kd.slice 9 Kd.string) 24 w' w.heap.size (fun k_=>k_≠nI) v3 lK)∧aa (w'.heap[nI]?=some (.cells #[(.slice iq dH.length ig),.string fA,(.slice kv eZ.length jI),(.slice jX fG.length jF)] 28 (0,0)))∧aa (Below w.heap.size w w'))
 case atStart=>exact ⟨(aOU),(0),bT,H',⟨Nat.le_refl _⟩,⟨by refine pN ?_;exact Kd.fE aAW.o mV⟩,⟨O1⟩,⟨vv⟩⟩
 case round=>
  clear H';obtain ⟨lK,jw,rfl,HA,rF,lv,dN,HB⟩:=hrel
  cases gk with
  |zero=>exact absurd HA.o (by simp [bY.l0])
  |succ k1=>
   have H:=HA.o;clear HA;simp only[bY.l0] at H
   replace H:=iD H;obtain ⟨Ii,-,H⟩|⟨Ii,-,H⟩:=H
   ·obtain ⟨aAT,A52,H⟩:=bd H;obtain rfl:=Option.some.inj H;obtain ⟨_,_,_,_,_,_,_,_⟩:=cz dN.o;obtain ⟨ED,D_,Ra⟩:=Kd.nA lv.o;subst Ra
    go_wp2_with (first|(refine gR 62 Tryz.func22 #[.slice ED lK.length D_] (dM.calls ?ai ?aj A52.o) (h:=?_);(case ai=>exact axq);(case aj=>exact (Kd.iK lv.o).2.1);intro wC hb;have lg:=jC (ae vv hb);clear lv;clear dN;clear HB;have HB:=lg;clear lg))
    go_ret;exact ⟨fT,vv⟩
   generalize hyy:(([]:List ByteArray))=aOV at H;have anK:=jC hyy.symm;clear hyy;have H':=jC H;clear H;obtain ⟨_,_,_,_,_,_,_,_⟩:=cz dN.o
   go_wp2_with (first|((with_reducible refine aG (N:=26) rfl ?_);refine Kd.sQ Kd.string _ 9 ?hg (N:=26) ?hd (xs:=([]:List ByteArray)) (inner:=[]) (ok:=fun _=>True) (okp:=fun _=>True) ?hr ?hp rE trivial (Below.refl _ _) (Nat.le_refl _) gQ ?_;(case hd=>rfl);(case hg=>rfl);(case hr=>exact kz);(case hp=>exact xk);intro a1k w23 ab2 hb hg_ hnew_;clear hg_ hnew_;(first|rw[←anK.o] at ab2|(simp only[Int.reduceToNat] at ab2;rw[←anK.o] at ab2));have n_:=jA (Kd.jo Nf (Kd.dJ ab2) hb) (jA (Kd.dC ab2 (ah vv)) (jA (dE dN hb) (jC (ae vv hb))));clear lv dN HB;obtain ⟨lv,aAX,dN,HB⟩:=n_;clear hb ab2))
   go_loopg [5,6] k1 (fun kq v5 v6 w'=>∃(o7:List ByteArray) (qg:Int),v6=.int .i64 qg∧aa (bY.l1 kq lK jw o7 qg dH fA eZ fG=some r)∧aa (kq≤k1)∧aa (Kd.N (Kd.slice 9 Kd.string) 24 w' w.heap.size (fun k_=>some k_≠(v5:Value).ownBlock∧k_≠nI) u3 lK)∧aa (Kd.R Kd.string 9 w' w.heap.size (fun _=>True) v5 o7)∧aa (w'.heap[nI]?=some (.cells #[(.slice iq dH.length ig),.string fA,(.slice kv eZ.length jI),(.slice jX fG.length jF)] 28 (0,0)))∧aa (Below w.heap.size w w'))
   case atStart=>exact ⟨(aOV),(0),bT,H',⟨Nat.le_refl _⟩,⟨by refine pN ?_;exact Kd.fE lv.o (fun _ hk=>⟨hk.2,hk.1⟩)⟩,⟨by refine pR ?_;exact aAX.o⟩,⟨O1⟩,⟨vv⟩⟩
   case round=>
    clear H';obtain ⟨o7,qg,rfl,HA,vD,lv,gK,dN,HB⟩:=hrel
    cases gk with
    |zero=>exact absurd HA.o (by simp [bY.l1])
    |succ k2=>
     have H:=HA.o;clear HA;simp only[bY.l1] at H;obtain ⟨aeV,-,H⟩:=l5 H;obtain ⟨aAY,-,H⟩:=l5 H
     replace H:=jD H;obtain ⟨EH,-,H⟩|⟨EH,-,H⟩:=H
     ·obtain ⟨NI,-,H⟩:=l5 H;obtain ⟨abY,A29,H⟩:=bd H;obtain ⟨Xu,anL,H⟩:=yB H;obtain ⟨c30,H⟩:=nD H;have UH:=jC c30;clear c30;generalize hyy:(o7++Xu)=aOW at H;have aA0:=jC hyy.symm;clear hyy;have H':=jC H;clear H;obtain ⟨_,_,_,_,_,_,_,_⟩:=cz dN.o;obtain ⟨aOX,aOY,Zi,arR,arS,arT,AV,ajU,ajV⟩:=V8 zn.o jw
      cases arT
      replace AV:=(HB.o.cell (World.block_lt_of_cell? w _ AV)).trans AV;obtain ⟨a1l,a1m,aA1,aOZ,aO0,aO1,Mj,aJZ,ajW⟩:=V8 zn.o jw;obtain rfl:Zi=aA1:=(by injection aO1);replace Mj:=(HB.o.cell (World.block_lt_of_cell? w _ Mj)).trans Mj;have ea_:=Option.some.inj (AV.symm.trans Mj);injection ea_ with ea_ en_ ec_;subst ea_;subst ec_;clear en_;obtain ⟨a1n,a1o,aWG,aO2,Rl⟩:=gI ajW.o qg
      cases aO2
      replace Rl:=(HB.o.cell (World.block_lt_of_cell? w _ Rl)).trans Rl
      go_wp2_with (first|(refine gR 46 Tryz.func21 #[.int .i64 (rd (gP eZ jw) qg)] (gm.calls A29.o) (h:=?_);intro w32 hb;have n_:=Z42;clear lv gK dN HB;obtain ⟨lv,gK,dN,HB⟩:=n_)|((with_reducible refine aG (N:=47) rfl ?_);refine Kd.sQ Kd.string _ 9 ?hg (N:=47) ?hd (xs:=([abY]:List ByteArray)) (inner:=[.string abY]) (ok:=fun _=>True) (okp:=fun _=>True) ?hr ?hp rE trivial (Below.refl _ _) (Nat.le_refl _) gQ ?_;(case hd=>rfl);(case hg=>rfl);(case hr=>exact kz);(case hp=>exact (d_.one (show Kd.M Kd.string _ _ _ abY [.string abY] from rfl) (d_.none _ _)));intro a1p w33 Xw hb hg_ hnew_;clear hg_ hnew_;(first|rw[←anL.o] at Xw|(simp only[Int.reduceToNat] at Xw;rw[←anL.o] at Xw));have n_:=jA (Kd.jo Nf (Kd.dJ Xw) hb) (jA (Kd.gq OQ (Kd.dJ Xw) hb) (jA (Kd.dC (Kd.jh Xw (Kd.iY OQ)) (ah vv)) (jA (dE dN hb) (jC (ae vv hb)))));clear lv gK dN HB;obtain ⟨lv,gK,Zj,dN,HB⟩:=n_;clear hb Xw;obtain ⟨aA2,aA3,aO3⟩:=Kd.bR Zj.o;subst aO3)|((with_reducible refine bJ (b:=.append) (xs:=#[.tmp 37,.tmp 47]) rfl ?_);at_builtin;refine Kd.yh Kd.string (w0:=w) w.heap.size rfl (.tmp 37) (.tmp 47) 24 9 (.string ⟨#[]⟩) 16 rfl Tryz.underlying24 l_ rfl au bG u5 o7 Xu _ _ _ (fun k_=>some k_≠(.slice aA2 Xu.length aA3:Value).ownBlock) (fun _=>False) rfl rfl ?aO ?aR (fun _ _ h=>h) (fun _ h=>h.elim) ?aF ?aB ?aS ?aL ?_;(case aR=>repeat (first|exact (Kd.a_ Zj.o).2.2|(with_reducible refine Kd.dF ?_ _)|(with_reducible refine Kd.dG ?_ _)|(with_reducible refine Kd.eQ ?_)));(case aB=>exact WV);(case aF=>exact (fun k_ hk=>Kd.fresh' (Kd.iY (by refine pR ?_;exact Zj.o)) k_ hk));(case aO=>exact axX);(case aS=>exact WU);(case aL=>have:=UH.o;omega);intro a1q w35 ho hb hg hat;rw[←aA0.o] at ho;have n_:=jA (Kd.su (ok:=(fun k_=>some k_≠(.slice aA2 Xu.length aA3:Value).ownBlock∧k_≠nI)) axA hg hat) (jA (kQ dN hg (Kd.lJ gK.o dN.o au)) (jA (hb) (jC (ho))));clear lv dN Zj HB gK;obtain ⟨lv,dN,HB,aA5⟩:=n_;clear ho hb hg hat))
      go_roundg k2
      case measure=>have:=rF.o;have:=vD.o;omega
      case rel=>exact ⟨(aOW),(wrap64 (qg+1)),bT,H',⟨Ca⟩,⟨by refine pN ?_;exact Kd.fE lv.o (fun _ hk=>⟨hk.2,hk.1.2⟩)⟩,⟨by refine pR ?_;exact Kd.aD aA5.o o8⟩,⟨O1⟩,⟨vv⟩⟩
     obtain ⟨anq,-,H⟩:=l5 H;obtain ⟨abZ,A38,H⟩:=bd H;obtain ⟨G5,anM,H⟩:=yB H;obtain ⟨c39,H⟩:=nD H;have aA6:=jC c39;clear c39;generalize hyy:(o7++G5)=ajX at H;have aA7:=jC hyy.symm;clear hyy;obtain ⟨aeR,anN,H⟩:=yB H;obtain ⟨c40,H⟩:=nD H;have aA8:=jC c40;clear c40;generalize hyy:(lK++aeR)=aO5 at H;have aA9:=jC hyy.symm;clear hyy;have H':=jC H;clear H;obtain ⟨_,_,_,_,_,_,_,_⟩:=cz dN.o;obtain ⟨aOX,aOY,Zi,arR,arS,arT,AV,ajU,ajV⟩:=V8 zn.o jw
     cases arT
     replace AV:=(HB.o.cell (World.block_lt_of_cell? w _ AV)).trans AV;obtain ⟨a1r,a1s,anO,aO6,Rm⟩:=gI DD.o jw
     cases aO6
     replace Rm:=(HB.o.cell (World.block_lt_of_cell? w _ Rm)).trans Rm
     go_wp2_with (first|(refine gR 56 Tryz.func21 #[.int .i64 (rd fG jw)] (gm.calls A38.o) (h:=?_);intro w42 hb;have n_:=Z42;clear lv gK dN HB;obtain ⟨lv,gK,dN,HB⟩:=n_)|((with_reducible refine aG (N:=57) rfl ?_);refine Kd.sQ Kd.string _ 9 ?hg (N:=57) ?hd (xs:=([abZ]:List ByteArray)) (inner:=[.string abZ]) (ok:=fun _=>True) (okp:=fun _=>True) ?hr ?hp rE trivial (Below.refl _ _) (Nat.le_refl _) gQ ?_;(case hd=>rfl);(case hg=>rfl);(case hr=>exact kz);(case hp=>exact (d_.one (show Kd.M Kd.string _ _ _ abZ [.string abZ] from rfl) (d_.none _ _)));intro a1t w43 Xx hb hg_ hnew_;clear hg_ hnew_;(first|rw[←anM.o] at Xx|(simp only[Int.reduceToNat] at Xx;rw[←anM.o] at Xx));have n_:=jA (Kd.jo Nf (Kd.dJ Xx) hb) (jA (Kd.gq OQ (Kd.dJ Xx) hb) (jA (Kd.dC (Kd.jh Xx (Kd.iY OQ)) (ah vv)) (jA (dE dN hb) (jC (ae vv hb)))));clear lv gK dN HB;obtain ⟨lv,gK,KX,dN,HB⟩:=n_;clear hb Xx;obtain ⟨O8,O9,aO7⟩:=Kd.bR KX.o;subst aO7)|((with_reducible refine bJ (b:=.append) (xs:=#[.tmp 50,.tmp 57]) rfl ?_);at_builtin;refine Kd.yh Kd.string (w0:=w) w.heap.size rfl (.tmp 50) (.tmp 57) 24 9 (.string ⟨#[]⟩) 16 rfl Tryz.underlying24 l_ rfl au bG u5 o7 G5 _ _ _ (fun k_=>some k_≠(.slice O8 G5.length O9:Value).ownBlock) (fun _=>False) rfl rfl ?aO ?aR (fun _ _ h=>h) (fun _ h=>h.elim) ?aF ?aB ?aS ?aL ?_;(case aR=>repeat (first|exact (Kd.a_ KX.o).2.2|(with_reducible refine Kd.dF ?_ _)|(with_reducible refine Kd.dG ?_ _)|(with_reducible refine Kd.eQ ?_)));(case aB=>exact WV);(case aF=>exact (fun k_ hk=>Kd.fresh' (Kd.iY adI) k_ hk));(case aO=>exact axX);(case aS=>exact WU);(case aL=>have:=aA6.o;omega);intro a1u w45 ho hb hg hat;rw[←aA7.o] at ho;have n_:=jA (Kd.su (ok:=(fun k_=>some k_≠(.slice O8 G5.length O9:Value).ownBlock∧k_≠nI)) axA hg hat) (jA (kQ dN hg (Kd.lJ gK.o dN.o au)) (jA (Kd.uN (ok:=(fun _=>True)) adI hg hat) (jA (hb) (jC (ho)))));clear lv dN KX HB gK;obtain ⟨lv,dN,KX,HB,Zk⟩:=n_;clear ho hb hg hat;obtain ⟨Da,Db,ab3⟩:=Kd.bR Zk.o;subst ab3)|((with_reducible refine aG (N:=59) rfl ?_);refine Kd.aeW (Kd.slice 9 Kd.string) _ 24 ?hg (N':=59) ?hd (xs:=([ajX]:List (List ByteArray))) (inner:=[.slice Da ajX.length Db]) (ok:=(fun k_=>some k_≠(u3:Value).ownBlock∧some k_≠(.slice O8 G5.length O9:Value).ownBlock∧k_≠nI)) (okp:=(fun k_=>some k_≠(u3:Value).ownBlock∧some k_≠(.slice O8 G5.length O9:Value).ownBlock∧k_≠nI)) ?hr ?hp rE ((show ∀k_,w45.heap.size≤k_→(fun k_=>some k_≠(u3:Value).ownBlock∧some k_≠(.slice O8 G5.length O9:Value).ownBlock∧k_≠nI) k_ from fun k_ hk=>⟨Kd.fresh' (Kd.BO Nf) k_ hk,Kd.fresh' (Kd.iY adI) k_ hk,Kd.kg (g:=nI) (o:=.cells #[.slice iq dH.length ig,.string fA,.slice (some Zi) eZ.length jI,.slice (some anO) fG.length jF] 28 (0,0)) O1 k_ hk⟩) _ (Nat.le_refl _)) (Below.refl _ _) (Nat.le_refl _) gQ ?_;(case hd=>rfl);(case hg=>rfl);(case hr=>exact kz);(case hp=>exact (d_.one (show Kd.FK (Kd.slice 9 Kd.string) _ _ ajX [.slice Da ajX.length Db] from (Kd.sJ (Kd.a_ (Kd.aD (ok':=(fun k_=>some k_≠(u3:Value).ownBlock∧some k_≠(.slice O8 G5.length O9:Value).ownBlock∧k_≠nI)) (Kd.iW (Kd.ji (Zk.o) (Kd.m_ lv.o) au) dN.o au) (fun k_ hk=>⟨hk.1.2,⟨hk.1.1,hk.2⟩⟩))).2.1 (Kd.R_F (Kd.aD (ok':=(fun k_=>some k_≠(u3:Value).ownBlock∧some k_≠(.slice O8 G5.length O9:Value).ownBlock∧k_≠nI)) (Kd.iW (Kd.ji (Zk.o) (Kd.m_ lv.o) au) dN.o au) (fun k_ hk=>⟨hk.1.2,⟨hk.1.1,hk.2⟩⟩))))) (d_.none _ _)));intro a1v w48 ab4 hb hg_ hnew_;clear hg_ hnew_;(first|rw[←anN.o] at ab4|(simp only[Int.reduceToNat] at ab4;rw[←anN.o] at ab4));have n_:=jA (Kd.jo Nf (Kd.wK ab4) hb) (jA (Kd.bX adI hb) (jA (Kd.qP ab4 (ah vv)) (jA (dE dN hb) (jC (ae vv hb)))));clear lv KX dN HB Zk;obtain ⟨lv,KX,aeX,dN,HB⟩:=n_;clear hb ab4;obtain ⟨aBb,aBc,ajZ⟩:=Kd.nA aeX.o;subst ajZ)|((with_reducible refine bJ (b:=.append) (xs:=#[.tmp 49,.tmp 59]) rfl ?_);at_builtin;refine Kd.O_ (Kd.slice 9 Kd.string) (w0:=w) w.heap.size rfl (.tmp 49) (.tmp 59) 42 24 (.slice none 0 0) 24 rfl Tryz.underlying42 JK rfl au bG u3 lK aeR _ _ _ (fun k_=>some k_≠(.slice O8 G5.length O9:Value).ownBlock∧k_≠nI) (fun k_=>((fun k_=>some k_≠(.slice O8 G5.length O9:Value).ownBlock∧k_≠nI)) k_∧some k_≠(u3:Value).ownBlock) rfl rfl ?aO ?aR rE ?aF ?aB ?aS ?aL ?_;(case aR=>exact (by skip;exact Kd.N_F (Kd.fE (ok':=(fun k_=>((fun k_=>some k_≠(.slice O8 G5.length O9:Value).ownBlock∧k_≠nI)) k_∧some k_≠(u3:Value).ownBlock)) (aeX.o) (fun k_ hk=>⟨⟨hk.2.1,hk.2.2⟩,hk.1⟩))));(case aB=>exact WV);(case aF=>exact (fun k_ hk=>⟨Kd.fresh' (Kd.iY adI) k_ hk,Kd.kg (g:=nI) (o:=.cells #[.slice iq dH.length ig,.string fA,.slice (some Zi) eZ.length jI,.slice (some anO) fG.length jF] 28 (0,0)) O1 k_ hk⟩));(case aO=>exact axz);(case aS=>exact WU);(case aL=>have:=aA8.o;omega);intro a1w w50 ho hb hg hat;rw[←aA9.o] at ho;have n_:=jA (kQ dN hg (Kd.Ea lv.o dN.o au)) (jA (hb) (jC (ho)));clear dN KX aeX HB lv;obtain ⟨dN,HB,aBd⟩:=n_;clear ho hb hg hat))
     go_roundg k2
     case measure=>have:=rF.o;have:=vD.o;omega
     case rel=>exact ⟨(aO5),(wrap64 (jw+1)),bT,H',⟨Ca⟩,⟨by refine pN ?_;exact Kd.fE aBd.o mV⟩,⟨O1⟩,⟨vv⟩⟩
end Go.Proofs.YtkjbbnijhpldhaaGreatDoor.QFnTable
