/- The machine side of FnTable: what each Go function that it reaches comes to. Conditions: none. -/
import Derived.Test.YtkjbbnijhpldhaaGreatDoorQFnTablex1
namespace Go.Proofs.YtkjbbnijhpldhaaGreatDoor.QFnTable
open Go.RowKit Go.Proofs.YtkjbbnijhpldhaaGreatDoorW.PrintWords Go.Proofs.YtkjbbnijhpldhaaGreatDoorW.PrintLast Go.Proofs.YtkjbbnijhpldhaaGreatDoorW.PrintMore
attribute [local go_sem] oq ou qN qO mr mD ow oz
set_option linter.unusedVariables false
set_option linter.unusedSimpArgs false
set_option maxHeartbeats 8000000
set_option maxRecDepth 100000
mutual
def fU.l0:Nat→List (List ByteArray)→List (List ByteArray)→Int→Option (Bool)
 |0,_,_,_=>none
 |k+1,x0,x1,x5=>if x5<(x0.length:Int) then (if 0≤x5 then (if x5<(x1.length:Int) then (if ((aN x0 x5).length:Int)=((aN x1 x5).length:Int) then (fU.l1 k x0 x1 x5 0) else (some false)) else (none)) else (none)) else (some true)
def fU.l1:Nat→List (List ByteArray)→List (List ByteArray)→Int→Int→Option (Bool)
 |0,_,_,_,_=>none
 |k+1,x0,x1,x5,x6=>if 0≤x5 then (if x5<(x0.length:Int) then (if x6<((aN x0 x5).length:Int) then (if 0≤x6 then (if x5<(x1.length:Int) then (if x6<((aN x1 x5).length:Int) then (if (jg ByteArray.empty (aN x0 x5) x6).toList=(jg ByteArray.empty (aN x1 x5) x6).toList then (fU.l1 k x0 x1 x5 (wrap64 (x6+1))) else (some false)) else (none)) else (none)) else (none)) else (fU.l0 k x0 x1 (wrap64 (x5+1)))) else (none)) else (none)
end
def fU.f (k:Nat) (l0:List (List ByteArray)) (l1:List (List ByteArray)):Option (Bool):=if (l0.length:Int)=(l1.length:Int) then (fU.l0 k l0 l1 0) else (some false)
theorem fU.calls {k:Nat} {A0:Option Addr} {c0:Nat} {l0:List (List ByteArray)} {A1:Option Addr} {c1:Nat} {l1:List (List ByteArray)} {r:Bool} {w:World} (hr0:Kd.C (Kd.slice 9 Kd.string) w A0 l0.length l0) (hc0:l0.length≤c0) (hr1:Kd.C (Kd.slice 9 Kd.string) w A1 l1.length l1) (hc1:l1.length≤c1) (h:fU.f k l0 l1=some r):
  Calls Tryz.prog 68 #[.slice A0 l0.length c0,.slice A1 l1.length c1] w fun e w'=>e=.returned (.bool r)∧iI w w':=by
 have t_:=jC hr0;have BI:=jC hc0;clear hr0 hc0;have HR1:=jC hr1;have HC1:=jC hc1;clear hr1 hc1;have H:=h;clear h;unfold fU.f at H
 replace H:=iE H;obtain ⟨rG,Av,c3,H⟩|⟨rG,Av,c3,H⟩:=H
 ·have Q5:(l0.length==l1.length)=false:=by first|simpa using c3|(simp at c3 ⊢;omega)
  obtain rfl:=Option.some.inj H;go_enter Tryz.func68,Tryz.ntmps68
  go_wp2
  repeat (go_quiet (fail);try go_wp2)
  go_ret;exact ⟨bT,jR⟩
 have Q5:(l0.length==l1.length)=true:=by first|simpa using c3|(simp at c3 ⊢;omega)
 clear c3;have H':=jC H;clear H;go_enter Tryz.func68,Tryz.ntmps68
 go_wp2
 repeat (go_quiet (fail);try go_wp2)
 go_loopg [5] k (fun kq v5 w'=>∃(dY:Int),v5=.int .i64 dY∧aa (fU.l0 kq l0 l1 dY=some r)∧aa (kq≤k)∧iI w w')
 case atStart=>exact ⟨(0),bT,H',⟨Nat.le_refl _⟩,jR⟩
 case round=>
  clear H';obtain ⟨dY,rfl,HA,rF,⟨m1,rfl⟩⟩:=hrel
  cases gk with
  |zero=>exact absurd HA.o (by simp [fU.l0])
  |succ k1=>
   have H:=HA.o;clear HA;simp only[fU.l0] at H
   replace H:=iD H;obtain ⟨qo,-,H⟩|⟨qo,-,H⟩:=H
   ·obtain rfl:=Option.some.inj H
    go_wp2
    repeat (go_quiet (fail);try go_wp2)
    go_ret;exact ⟨bT,jR⟩
   obtain ⟨oZ,-,H⟩:=l5 H;obtain ⟨vU,-,H⟩:=l5 H
   replace H:=iE H;obtain ⟨D9,Re,c7,H⟩|⟨D9,Re,c7,H⟩:=H
   ·have adl:((aN l0 dY).length==(aN l1 dY).length)=false:=by first|simpa using c7|(simp at c7 ⊢;omega)
    obtain rfl:=Option.some.inj H;obtain ⟨aQB,aQC,Qj,asG,asH,asI,ZQ,aks,akt⟩:=S9 t_.o dY
    cases asI
    obtain ⟨aQD,aQE,afE,asJ,asK,asL,ZR,aku,akv⟩:=S9 HR1.o dY
    cases asL
    go_wp2
    repeat (go_quiet (fail);try go_wp2)
    go_ret;exact ⟨bT,jR⟩
   have adl:((aN l0 dY).length==(aN l1 dY).length)=true:=by first|simpa using c7|(simp at c7 ⊢;omega)
   clear c7;have H':=jC H;clear H;obtain ⟨aQB,aQC,Qj,asG,asH,asI,ZQ,aks,akt⟩:=S9 t_.o dY
   cases asI
   obtain ⟨aQD,aQE,afE,asJ,asK,asL,ZR,aku,akv⟩:=S9 HR1.o dY
   cases asL
   go_wp2
   repeat (go_quiet (fail);try go_wp2)
   go_loopg [6] k1 (fun kq v6 w'=>∃(qg:Int),v6=.int .i64 qg∧aa (fU.l1 kq l0 l1 dY qg=some r)∧aa (kq≤k1)∧iI w w')
   case atStart=>exact ⟨(0),bT,H',⟨Nat.le_refl _⟩,jR⟩
   case round=>
    clear H'
    try clear hx6
    try clear ZQ
    try clear ZR
    obtain ⟨qg,rfl,HA,vD,⟨m2,rfl⟩⟩:=hrel
    cases gk with
    |zero=>exact absurd HA.o (by simp [fU.l1])
    |succ k2=>
     have H:=HA.o;clear HA;simp only[fU.l1] at H;obtain ⟨vV,-,H⟩:=l5 H;obtain ⟨G6,-,H⟩:=l5 H
     replace H:=iD H;obtain ⟨vC,-,H⟩|⟨vC,-,H⟩:=H
     ·have H':=jC H;clear H;obtain ⟨aDw,aDx,Vd,afF,afG,afH,Mr,ZT,ZU⟩:=S9 t_.o dY;obtain rfl:Qj=Vd:=(by injection afH)
      go_wp2
      repeat (go_quiet (fail);try go_wp2)
      go_roundg k2
      case measure=>have:=rF.o;have:=vD.o;omega
      case rel=>exact ⟨(wrap64 (dY+1)),bT,H',⟨Ca⟩,jR⟩
     obtain ⟨yA,-,H⟩:=l5 H;obtain ⟨DL,-,H⟩:=l5 H;obtain ⟨Qk,-,H⟩:=l5 H
     replace H:=iE H;obtain ⟨Gf,Ql,c14,H⟩|⟨Gf,Ql,-,H⟩:=H
     ·obtain rfl:=Option.some.inj H;obtain ⟨aDw,aDx,Vd,afF,afG,afH,Mr,ZT,ZU⟩:=S9 t_.o dY;obtain rfl:Qj=Vd:=(by injection afH);obtain ⟨aQF,aQG,afI,asM,asN,asO,RI,akw,RJ⟩:=S9 t_.o dY;obtain rfl:Qj=afI:=(by injection asO);have ea_:=Option.some.inj (Mr.symm.trans RI);injection ea_ with ea_ en_ ec_;subst ea_;subst ec_;clear en_;obtain ⟨aQH,aQI,aDy,asP,akx⟩:=gS RJ.o qg
      cases asP
      obtain ⟨aQJ,aQK,afJ,asQ,asR,asS,aky,akz,RL⟩:=S9 HR1.o dY;obtain rfl:afE=afJ:=(by injection asS);obtain ⟨aQL,aQM,aDz,asT,akA⟩:=gS RL.o qg
      cases asT
      go_wp2
      repeat (go_quiet (fail);try go_wp2)
      go_ret;exact ⟨bT,jR⟩
     have H':=jC H;clear H;obtain ⟨aDw,aDx,Vd,afF,afG,afH,Mr,ZT,ZU⟩:=S9 t_.o dY;obtain rfl:Qj=Vd:=(by injection afH);obtain ⟨aQF,aQG,afI,asM,asN,asO,RI,akw,RJ⟩:=S9 t_.o dY;obtain rfl:Qj=afI:=(by injection asO);have ea_:=Option.some.inj (Mr.symm.trans RI);injection ea_ with ea_ en_ ec_;subst ea_;subst ec_;clear en_;obtain ⟨aQH,aQI,aDy,asP,akx⟩:=gS RJ.o qg
     cases asP
     obtain ⟨aQJ,aQK,afJ,asQ,asR,asS,aky,akz,RL⟩:=S9 HR1.o dY;obtain rfl:afE=afJ:=(by injection asS);obtain ⟨aQL,aQM,aDz,asT,akA⟩:=gS RL.o qg
     cases asT
     go_wp2
     repeat (go_quiet (fail);try go_wp2)
     go_roundg k2
     case measure=>have:=rF.o;have:=vD.o;omega
     case rel=>exact ⟨(wrap64 (qg+1)),bT,H',⟨Ca⟩,jR⟩
def nW.f (k:Nat) (l0:List ByteArray) (l1:List ByteArray):Option (Bool):=(fU.f k (([l0]:List (List ByteArray))) (([l1]:List (List ByteArray)))).bind fun aDA=>(some aDA)
theorem nW.calls (k:Nat) (P0_:Nat→Prop) (A0:Option Addr) (c0:Nat) (l0:List ByteArray) (P1_:Nat→Prop) (A1:Option Addr) (c1:Nat) (l1:List ByteArray) (r:Bool) (w:World) (hs0:Kd.V Kd.string 9 w w.heap.size (fun k_=>P0_ k_) (.slice A0 l0.length c0) l0) (hs1:Kd.V Kd.string 9 w w.heap.size (fun k_=>P1_ k_) (.slice A1 l1.length c1) l1) (h:nW.f k l0 l1=some r):
  Calls Tryz.prog 33 #[.slice A0 l0.length c0,.slice A1 l1.length c1] w fun e w'=>e=.returned (.bool r)∧Below w.heap.size w w':=by
 have HO0:=jC (show Kd.V Kd.string 9 w w.heap.size (fun k_=>((P0_ k_∨P1_ k_)∨w.heap.size≤k_)) (.slice A0 l0.length c0) l0 from Kd.r_ hs0 (fun k_ hk=>.inl (.inl hk)));have HO1:=jC (show Kd.V Kd.string 9 w w.heap.size (fun k_=>((P0_ k_∨P1_ k_)∨w.heap.size≤k_)) (.slice A1 l1.length c1) l1 from Kd.r_ hs1 (fun k_ hk=>.inl (.inr hk)));have HB:=jC (Below.refl w.heap.size w);have H:=h;clear h;unfold nW.f at H;generalize hyy:(([l0]:List (List ByteArray)))=aQO at H;have aor:=jC hyy.symm;clear hyy;generalize hyy:(([l1]:List (List ByteArray)))=aQP at H;have aos:=jC hyy.symm;clear hyy;obtain ⟨aDA,A3,H⟩:=bd H;obtain rfl:=Option.some.inj H;go_enter Tryz.func33,Tryz.ntmps33
 go_wp2_with (first|((with_reducible refine aG (N:=6) rfl ?_);refine Kd.aeW (Kd.slice 9 Kd.string) _ 24 ?hg (N':=6) ?hd (xs:=([l0]:List (List ByteArray))) (inner:=[.slice A0 l0.length c0]) (ok:=(fun k_=>((P0_ k_∨P1_ k_)∨w.heap.size≤k_))) (okp:=(fun k_=>((P0_ k_∨P1_ k_)∨w.heap.size≤k_))) ?hr ?hp rE ((show ∀k_,w.heap.size≤k_→(fun k_=>((P0_ k_∨P1_ k_)∨w.heap.size≤k_)) k_ from fun k_ hk=>(.inr (Nat.le_trans (ah dn) hk))) _ (Nat.le_refl _)) (Below.refl _ _) (Nat.le_refl _) gQ ?_;(case hd=>rfl);(case hg=>rfl);(case hr=>exact kz);(case hp=>exact (d_.one (show Kd.FK (Kd.slice 9 Kd.string) _ _ l0 [.slice A0 l0.length c0] from (Kd.sJ (Kd.yD (Kd.r_ (ok':=(fun k_=>((P0_ k_∨P1_ k_)∨w.heap.size≤k_))) (HO0.o) (fun k_ hk=>hk))).2.1 (Kd.V_F (Kd.r_ (ok':=(fun k_=>((P0_ k_∨P1_ k_)∨w.heap.size≤k_))) (HO0.o) (fun k_ hk=>hk))))) (d_.none _ _)));intro vq1 wq2 Ai hb hg_ hnew_;clear hg_ hnew_;(first|rw[←aor.o] at Ai|(simp only[Int.reduceToNat] at Ai;rw[←aor.o] at Ai));have n_:=jA (Kd.oH (by refine pV ?_;exact HO1.o) (Kd.wK Ai) hb) (jA (Kd.qP Ai (ah dn)) (jC (ae dn hb)));clear HO0 HO1 HB;obtain ⟨HO1,PS,HB⟩:=n_;clear hb Ai)|((with_reducible refine aG (N:=8) rfl ?_);refine Kd.aeW (Kd.slice 9 Kd.string) _ 24 ?hg (N':=8) ?hd (xs:=([l1]:List (List ByteArray))) (inner:=[.slice A1 l1.length c1]) (ok:=(fun k_=>((P0_ k_∨P1_ k_)∨w.heap.size≤k_)∧some k_≠(vq1:Value).ownBlock)) (okp:=(fun k_=>((P0_ k_∨P1_ k_)∨w.heap.size≤k_)∧some k_≠(vq1:Value).ownBlock)) ?hr ?hp rE ((show ∀k_,wq2.heap.size≤k_→(fun k_=>((P0_ k_∨P1_ k_)∨w.heap.size≤k_)∧some k_≠(vq1:Value).ownBlock) k_ from fun k_ hk=>⟨(.inr (Nat.le_trans (ah dn) hk)),Kd.fresh' (Kd.BO ayk) k_ hk⟩) _ (Nat.le_refl _)) (Below.refl _ _) (Nat.le_refl _) gQ ?_;(case hd=>rfl);(case hg=>rfl);(case hr=>exact kz);(case hp=>exact (d_.one (show Kd.FK (Kd.slice 9 Kd.string) _ _ l1 [.slice A1 l1.length c1] from (Kd.sJ (Kd.yD (Kd.r_ (ok':=(fun k_=>((P0_ k_∨P1_ k_)∨w.heap.size≤k_)∧some k_≠(vq1:Value).ownBlock)) (HO1.o) (fun k_ hk=>⟨hk.1,hk.2⟩))).2.1 (Kd.V_F (Kd.r_ (ok':=(fun k_=>((P0_ k_∨P1_ k_)∨w.heap.size≤k_)∧some k_≠(vq1:Value).ownBlock)) (HO1.o) (fun k_ hk=>⟨hk.1,hk.2⟩))))) (d_.none _ _)));intro vq4 wq5 CO hb hg_ hnew_;clear hg_ hnew_;(first|rw[←aos.o] at CO|(simp only[Int.reduceToNat] at CO;rw[←aos.o] at CO));have n_:=jA (Kd.jo ayk (Kd.wK CO) hb) (jA (Kd.qP CO (ah dn)) (jC (ae dn hb)));clear HO1 PS HB;obtain ⟨PS,afK,HB⟩:=n_;clear hb CO;obtain ⟨aQR,aQS,aQT⟩:=Kd.nA PS.o;subst aQT;obtain ⟨aQU,aQV,aQW⟩:=Kd.nA afK.o;subst aQW)|(refine gR 9 Tryz.func68 #[.slice aQR aQO.length aQS,.slice aQU aQP.length aQV] (fU.calls ?ai ?aj ?fI ?gV A3.o) (h:=?_);(case ai=>repeat (first|exact (Kd.iK PS.o).2.2|(with_reducible refine Kd.dF ?_ _)|(with_reducible refine Kd.dG ?_ _)|(with_reducible refine Kd.eQ ?_)));(case aj=>exact (Kd.iK PS.o).2.1);(case fI=>repeat (first|exact (Kd.iK afK.o).2.2|(with_reducible refine Kd.dF ?_ _)|(with_reducible refine Kd.dG ?_ _)|(with_reducible refine Kd.eQ ?_)));(case gV=>exact (Kd.iK afK.o).2.1);rintro w' ⟨nd,rfl⟩))
 go_ret;exact ⟨fT,dn⟩
def iF.l0:Nat→List Int→List Int→Int→Option (Bool)
 |0,_,_,_=>none
 |k+1,x0,x1,x5=>if x5<(x0.length:Int) then (if 0≤x5 then (if x5<(x1.length:Int) then (if (rd x0 x5)=(rd x1 x5) then (iF.l0 k x0 x1 (wrap64 (x5+1))) else (some false)) else (none)) else (none)) else (some true)
def iF.f (k:Nat) (l0:List Int) (l1:List Int):Option (Bool):=if (l0.length:Int)=(l1.length:Int) then (iF.l0 k l0 l1 0) else (some false)
theorem iF.calls {k:Nat} {A0:Option Addr} {c0:Nat} {l0:List Int} {A1:Option Addr} {c1:Nat} {l1:List Int} {r:Bool} {w:World} (hr0:Kd.C (Kd.int .i64) w A0 l0.length l0) (hc0:l0.length≤c0) (hr1:Kd.C (Kd.int .i64) w A1 l1.length l1) (hc1:l1.length≤c1) (h:iF.f k l0 l1=some r):
  Calls Tryz.prog 35 #[.slice A0 l0.length c0,.slice A1 l1.length c1] w fun e w'=>e=.returned (.bool r)∧iI w w':=by
 have t_:=jC hr0;have BI:=jC hc0;clear hr0 hc0;have HR1:=jC hr1;have HC1:=jC hc1;clear hr1 hc1;have H:=h;clear h;unfold iF.f at H
 replace H:=iE H;obtain ⟨rG,Av,c3,H⟩|⟨rG,Av,c3,H⟩:=H
 ·have Q5:(l0.length==l1.length)=false:=by first|simpa using c3|(simp at c3 ⊢;omega)
  obtain rfl:=Option.some.inj H;go_enter Tryz.func35,Tryz.ntmps35
  go_wp2
  repeat (go_quiet (fail);try go_wp2)
  go_ret;exact ⟨bT,jR⟩
 have Q5:(l0.length==l1.length)=true:=by first|simpa using c3|(simp at c3 ⊢;omega)
 clear c3;have H':=jC H;clear H;go_enter Tryz.func35,Tryz.ntmps35
 go_wp2
 repeat (go_quiet (fail);try go_wp2)
 go_loopg [5] k (fun kq v5 w'=>∃(dY:Int),v5=.int .i64 dY∧aa (iF.l0 kq l0 l1 dY=some r)∧aa (kq≤k)∧iI w w')
 case atStart=>exact ⟨(0),bT,H',⟨Nat.le_refl _⟩,jR⟩
 case round=>
  clear H';obtain ⟨dY,rfl,HA,rF,⟨m1,rfl⟩⟩:=hrel
  cases gk with
  |zero=>exact absurd HA.o (by simp [iF.l0])
  |succ k1=>
   have H:=HA.o;clear HA;simp only[iF.l0] at H
   replace H:=iD H;obtain ⟨qo,-,H⟩|⟨qo,-,H⟩:=H
   ·obtain rfl:=Option.some.inj H
    go_wp2
    repeat (go_quiet (fail);try go_wp2)
    go_ret;exact ⟨bT,jR⟩
   obtain ⟨oZ,-,H⟩:=l5 H;obtain ⟨vU,-,H⟩:=l5 H
   replace H:=iE H;obtain ⟨D9,Re,c7,H⟩|⟨D9,Re,-,H⟩:=H
   ·obtain rfl:=Option.some.inj H;obtain ⟨aQX,aQY,aDB,asU,akB⟩:=gI t_.o dY
    cases asU
    obtain ⟨aQZ,aQ0,aDC,asV,akC⟩:=gI HR1.o dY
    cases asV
    go_wp2
    repeat (go_quiet (fail);try go_wp2)
    go_ret;exact ⟨bT,jR⟩
   have H':=jC H;clear H;obtain ⟨aQX,aQY,aDB,asU,akB⟩:=gI t_.o dY
   cases asU
   obtain ⟨aQZ,aQ0,aDC,asV,akC⟩:=gI HR1.o dY
   cases asV
   go_wp2
   repeat (go_quiet (fail);try go_wp2)
   go_roundg k1
   case measure=>have:=rF.o;omega
   case rel=>exact ⟨(wrap64 (dY+1)),bT,H',⟨vE⟩,jR⟩
def jG.l0:Nat→List (List Int)→List (List Int)→Int→Option (Bool)
 |0,_,_,_=>none
 |k+1,x0,x1,x5=>if x5<(x0.length:Int) then (if 0≤x5 then (if x5<(x1.length:Int) then ((iF.f k (gP x0 x5) (gP x1 x5)).bind fun aDD=>(if aDD=true then (jG.l0 k x0 x1 (wrap64 (x5+1))) else (some false))) else (none)) else (none)) else (some true)
def jG.f (k:Nat) (l0:List (List Int)) (l1:List (List Int)):Option (Bool):=if (l0.length:Int)=(l1.length:Int) then (jG.l0 k l0 l1 0) else (some false)
theorem jG.calls {k:Nat} {A0:Option Addr} {c0:Nat} {l0:List (List Int)} {A1:Option Addr} {c1:Nat} {l1:List (List Int)} {r:Bool} {w:World} (hr0:Kd.C (Kd.slice 3 (Kd.int .i64)) w A0 l0.length l0) (hc0:l0.length≤c0) (hr1:Kd.C (Kd.slice 3 (Kd.int .i64)) w A1 l1.length l1) (hc1:l1.length≤c1) (h:jG.f k l0 l1=some r):
  Calls Tryz.prog 34 #[.slice A0 l0.length c0,.slice A1 l1.length c1] w fun e w'=>e=.returned (.bool r)∧iI w w':=by
 have t_:=jC hr0;have BI:=jC hc0;clear hr0 hc0;have HR1:=jC hr1;have HC1:=jC hc1;clear hr1 hc1;have H:=h;clear h;unfold jG.f at H
 replace H:=iE H;obtain ⟨rG,Av,c3,H⟩|⟨rG,Av,c3,H⟩:=H
 ·have Q5:(l0.length==l1.length)=false:=by first|simpa using c3|(simp at c3 ⊢;omega)
  obtain rfl:=Option.some.inj H;go_enter Tryz.func34,Tryz.ntmps34
  go_wp2
  repeat (go_quiet (fail);try go_wp2)
  go_ret;exact ⟨bT,jR⟩
 have Q5:(l0.length==l1.length)=true:=by first|simpa using c3|(simp at c3 ⊢;omega)
 clear c3;have H':=jC H;clear H;go_enter Tryz.func34,Tryz.ntmps34
 go_wp2
 repeat (go_quiet (fail);try go_wp2)
 go_loopg [5] k (fun kq v5 w'=>∃(dY:Int),v5=.int .i64 dY∧aa (jG.l0 kq l0 l1 dY=some r)∧aa (kq≤k)∧iI w w')
 case atStart=>exact ⟨(0),bT,H',⟨Nat.le_refl _⟩,jR⟩
 case round=>
  clear H';obtain ⟨dY,rfl,HA,rF,⟨m1,rfl⟩⟩:=hrel
  cases gk with
  |zero=>exact absurd HA.o (by simp [jG.l0])
  |succ k1=>
   have H:=HA.o;clear HA;simp only[jG.l0] at H
   replace H:=iD H;obtain ⟨qo,-,H⟩|⟨qo,-,H⟩:=H
   ·obtain rfl:=Option.some.inj H
    go_wp2
    repeat (go_quiet (fail);try go_wp2)
    go_ret;exact ⟨bT,jR⟩
   obtain ⟨oZ,-,H⟩:=l5 H;obtain ⟨vU,-,H⟩:=l5 H;obtain ⟨aDD,A7,H⟩:=bd H
   replace H:=iB H;obtain ⟨rfl,H⟩|⟨rfl,H⟩:=H
   ·obtain rfl:=Option.some.inj H;obtain ⟨aQ1,aQ2,aDE,asW,asX,asY,akD,Dh,YO⟩:=V8 t_.o dY
    cases asY
    obtain ⟨aQ3,aQ4,aDF,asZ,as0,as1,akE,Di,YN⟩:=V8 HR1.o dY
    cases as1
    go_wp2_with (first|(go_at_call 35;(with_reducible refine (iF.calls ?ai ?aj ?fI ?gV A7.o).mono ?_);(case ai=>exact aby);(case aj=>exact Dh.o);(case fI=>exact abx);(case gV=>exact Di.o);rintro e w' ⟨rfl,⟨nd,rfl⟩⟩;(try exact zD)))
    repeat (go_quiet (first|(go_at_call 35;(with_reducible refine (iF.calls ?ai ?aj ?fI ?gV A7.o).mono ?_);(case ai=>exact aby);(case aj=>exact Dh.o);(case fI=>exact abx);(case gV=>exact Di.o);rintro e w' ⟨rfl,⟨nd,rfl⟩⟩;(try exact zD)));try go_wp2_with (first|(go_at_call 35;(with_reducible refine (iF.calls ?ai ?aj ?fI ?gV A7.o).mono ?_);(case ai=>exact aby);(case aj=>exact Dh.o);(case fI=>exact abx);(case gV=>exact Di.o);rintro e w' ⟨rfl,⟨nd,rfl⟩⟩;(try exact zD))))
    go_ret;exact ⟨bT,jR⟩
   have H':=jC H;clear H;obtain ⟨aQ1,aQ2,aDE,asW,asX,asY,akD,Dh,YO⟩:=V8 t_.o dY
   cases asY
   obtain ⟨aQ3,aQ4,aDF,asZ,as0,as1,akE,Di,YN⟩:=V8 HR1.o dY
   cases as1
   go_wp2_with (first|(go_at_call 35;(with_reducible refine (iF.calls ?ai ?aj ?fI ?gV A7.o).mono ?_);(case ai=>exact aby);(case aj=>exact Dh.o);(case fI=>exact abx);(case gV=>exact Di.o);rintro e w' ⟨rfl,⟨nd,rfl⟩⟩;(try exact zD)))
   repeat (go_quiet (first|(go_at_call 35;(with_reducible refine (iF.calls ?ai ?aj ?fI ?gV A7.o).mono ?_);(case ai=>exact aby);(case aj=>exact Dh.o);(case fI=>exact abx);(case gV=>exact Di.o);rintro e w' ⟨rfl,⟨nd,rfl⟩⟩;(try exact zD)));try go_wp2_with (first|(go_at_call 35;(with_reducible refine (iF.calls ?ai ?aj ?fI ?gV A7.o).mono ?_);(case ai=>exact aby);(case aj=>exact Dh.o);(case fI=>exact abx);(case gV=>exact Di.o);rintro e w' ⟨rfl,⟨nd,rfl⟩⟩;(try exact zD))))
   go_roundg k1
   case measure=>have:=rF.o;omega
   case rel=>exact ⟨(wrap64 (dY+1)),bT,H',⟨vE⟩,jR⟩
def qa.f (k:Nat) (dH:List ByteArray) (fA:ByteArray) (eZ:List (List Int)) (fG:List Int) (uH:List ByteArray) (EQ:ByteArray) (Aj:List (List Int)) (Ak:List Int):Option (Bool):=(nW.f k dH uH).bind fun aDG=>(if aDG=true then (if fA.toList=EQ.toList then ((jG.f k eZ Aj).bind fun aDH=>(if aDH=true then ((iF.f k fG Ak).bind fun aDI=>(some aDI)) else (some false))) else (some false)) else (some false))
theorem qa.calls {k:Nat} {iq:Option Addr} {ig:Nat} {dH:List ByteArray} {fA:ByteArray} {kv:Option Addr} {jI:Nat} {eZ:List (List Int)} {jX:Option Addr} {jF:Nat} {fG:List Int} {BB:Option Addr} {BC:Nat} {uH:List ByteArray} {EQ:ByteArray} {JV:Option Addr} {JW:Nat} {Aj:List (List Int)} {JX:Option Addr} {JY:Nat} {Ak:List Int} {r:Bool} {w:World} (yG:Kd.C Kd.string w iq dH.length dH) (yH:dH.length≤ig) (yI:Kd.C (Kd.slice 3 (Kd.int .i64)) w kv eZ.length eZ) (yJ:eZ.length≤jI) (yK:Kd.C (Kd.int .i64) w jX fG.length fG) (yL:fG.length≤jF) (Ve:Kd.C Kd.string w BB uH.length uH) (Vf:uH.length≤BC) (Vg:Kd.C (Kd.slice 3 (Kd.int .i64)) w JV Aj.length Aj) (Vh:Aj.length≤JW) (Vi:Kd.C (Kd.int .i64) w JX Ak.length Ak) (Vj:Ak.length≤JY) (h:qa.f k dH fA eZ fG uH EQ Aj Ak=some r):
  Calls Tryz.prog 10 #[.agg #[.slice iq dH.length ig,.string fA,.slice kv eZ.length jI,.slice jX fG.length jF],.agg #[.slice BB uH.length BC,.string EQ,.slice JV Aj.length JW,.slice JX Ak.length JY]] w fun e w'=>e=.returned (.bool r)∧Below w.heap.size w w':=by
 have NB:=Tryz.underlying28;have zo:=jC yG;have H7:=jC yH;clear yG yH;have zn:=jC yI;have Ah:=jC yJ;clear yI yJ;have DD:=jC yK;have Cf:=jC yL;clear yK yL;have adp:=jC Ve;have PN:=jC Vf;clear Ve Vf;have adm:=jC Vg;have Vk:=jC Vh;clear Vg Vh;have afL:=jC Vi;have afM:=jC Vj;clear Vi Vj;have HB:=jC (Below.refl w.heap.size w);have H:=h;clear h;unfold qa.f at H;obtain ⟨aDG,A3,H⟩:=bd H
 replace H:=iB H;obtain ⟨rfl,H⟩|⟨rfl,H⟩:=H
 ·obtain rfl:=Option.some.inj H;go_enter Tryz.func10,Tryz.ntmps10
  go_wp2_with (first|((with_reducible refine aG (N:=2) rfl ?_);refine bE 2 #[.slice iq dH.length ig,.string fA,.slice kv eZ.length jI,.slice jX fG.length jF] 28 (h:=?_);intro PM hg wC hbox hb;have n_:=Z51;clear HB;obtain ⟨HB,qW,Ul⟩:=n_;clear hb hbox hg)|((with_reducible refine aG (N:=3) rfl ?_);refine bE 3 #[.slice BB uH.length BC,.string EQ,.slice JV Aj.length JW,.slice JX Ak.length JY] 28 (h:=?_);intro PL hg wq2 hbox hb;have n_:=Z35;clear qW HB;obtain ⟨qW,HB,xw,YY,xL,xM⟩:=n_;clear hb hbox hg;have EJ:=xL.o;have EK:=xM.o;obtain ⟨_,_,_,_,_,_,_,_⟩:=cz qW.o;obtain ⟨_,_,_,_,_,_,_,_⟩:=cz xw.o)|(refine gR 9 Tryz.func33 #[.slice iq dH.length ig,.slice BB uH.length BC] (nW.calls k (fun k_=>k_<w.heap.size) _ _ dH (fun k_=>k_<w.heap.size) _ _ uH false _ ?ai ?aj A3.o) (h:=?_);(case ai=>exact Z93);(case aj=>exact Z92);intro wq4 hb;have lg:=jC (ae OU hb);clear qW;clear xw;clear HB;have HB:=lg;clear lg))
  go_ret;exact ⟨fT,OU⟩
 replace H:=iE H;obtain ⟨oZ,GY,c5,H⟩|⟨oZ,GY,-,H⟩:=H
 ·obtain rfl:=Option.some.inj H;go_enter Tryz.func10,Tryz.ntmps10
  go_wp2_with (first|((with_reducible refine aG (N:=2) rfl ?_);refine bE 2 #[.slice iq dH.length ig,.string fA,.slice kv eZ.length jI,.slice jX fG.length jF] 28 (h:=?_);intro PM hg wC hbox hb;have n_:=Z51;clear HB;obtain ⟨HB,qW,Ul⟩:=n_;clear hb hbox hg)|((with_reducible refine aG (N:=3) rfl ?_);refine bE 3 #[.slice BB uH.length BC,.string EQ,.slice JV Aj.length JW,.slice JX Ak.length JY] 28 (h:=?_);intro PL hg wq2 hbox hb;have n_:=Z35;clear qW HB;obtain ⟨qW,HB,xw,YY,xL,xM⟩:=n_;clear hb hbox hg;have EJ:=xL.o;have EK:=xM.o;obtain ⟨_,_,_,_,_,_,_,_⟩:=cz qW.o;obtain ⟨_,_,_,_,_,_,_,_⟩:=cz xw.o)|(refine gR 9 Tryz.func33 #[.slice iq dH.length ig,.slice BB uH.length BC] (nW.calls k (fun k_=>k_<w.heap.size) _ _ dH (fun k_=>k_<w.heap.size) _ _ uH true _ ?ai ?aj A3.o) (h:=?_);(case ai=>exact Z93);(case aj=>exact Z92);intro wq4 hb;have n_:=Z91;clear qW xw HB;obtain ⟨qW,xw,HB⟩:=n_;obtain ⟨_,_,_,_,_,_,_,_⟩:=cz qW.o;obtain ⟨_,_,_,_,_,_,_,_⟩:=cz xw.o))
  go_ret;exact ⟨fT,OU⟩
 obtain ⟨aDH,A6,H⟩:=bd H
 replace H:=iB H;obtain ⟨rfl,H⟩|⟨rfl,H⟩:=H
 ·obtain rfl:=Option.some.inj H;go_enter Tryz.func10,Tryz.ntmps10
  go_wp2_with (first|((with_reducible refine aG (N:=2) rfl ?_);refine bE 2 #[.slice iq dH.length ig,.string fA,.slice kv eZ.length jI,.slice jX fG.length jF] 28 (h:=?_);intro PM hg wC hbox hb;have n_:=Z51;clear HB;obtain ⟨HB,qW,Ul⟩:=n_;clear hb hbox hg)|((with_reducible refine aG (N:=3) rfl ?_);refine bE 3 #[.slice BB uH.length BC,.string EQ,.slice JV Aj.length JW,.slice JX Ak.length JY] 28 (h:=?_);intro PL hg wq2 hbox hb;have n_:=Z35;clear qW HB;obtain ⟨qW,HB,xw,YY,xL,xM⟩:=n_;clear hb hbox hg;have EJ:=xL.o;have EK:=xM.o;obtain ⟨_,_,_,_,_,_,_,_⟩:=cz qW.o;obtain ⟨_,_,_,_,_,_,_,_⟩:=cz xw.o)|(refine gR 9 Tryz.func33 #[.slice iq dH.length ig,.slice BB uH.length BC] (nW.calls k (fun k_=>k_<w.heap.size) _ _ dH (fun k_=>k_<w.heap.size) _ _ uH true _ ?ai ?aj A3.o) (h:=?_);(case ai=>exact Z93);(case aj=>exact Z92);intro wq4 hb;have n_:=Z91;clear qW xw HB;obtain ⟨qW,xw,HB⟩:=n_;obtain ⟨_,_,_,_,_,_,_,_⟩:=cz qW.o;obtain ⟨_,_,_,_,_,_,_,_⟩:=cz xw.o)|(go_at_call 34;(with_reducible refine (jG.calls ?ai ?aj ?fI ?gV A6.o).mono ?_);(case ai=>exact abw);(case aj=>exact Ah.o);(case fI=>exact axe);(case gV=>exact Vk.o);rintro e w' ⟨rfl,⟨nd,rfl⟩⟩))
  go_ret;exact ⟨fT,OU⟩
 obtain ⟨aDI,A8,H⟩:=bd H;obtain rfl:=Option.some.inj H;go_enter Tryz.func10,Tryz.ntmps10
 go_wp2_with (first|((with_reducible refine aG (N:=2) rfl ?_);refine bE 2 #[.slice iq dH.length ig,.string fA,.slice kv eZ.length jI,.slice jX fG.length jF] 28 (h:=?_);intro PM hg wC hbox hb;have n_:=Z51;clear HB;obtain ⟨HB,qW,Ul⟩:=n_;clear hb hbox hg)|((with_reducible refine aG (N:=3) rfl ?_);refine bE 3 #[.slice BB uH.length BC,.string EQ,.slice JV Aj.length JW,.slice JX Ak.length JY] 28 (h:=?_);intro PL hg wq2 hbox hb;have n_:=Z35;clear qW HB;obtain ⟨qW,HB,xw,YY,xL,xM⟩:=n_;clear hb hbox hg;have EJ:=xL.o;have EK:=xM.o;obtain ⟨_,_,_,_,_,_,_,_⟩:=cz qW.o;obtain ⟨_,_,_,_,_,_,_,_⟩:=cz xw.o)|(refine gR 9 Tryz.func33 #[.slice iq dH.length ig,.slice BB uH.length BC] (nW.calls k (fun k_=>k_<w.heap.size) _ _ dH (fun k_=>k_<w.heap.size) _ _ uH true _ ?ai ?aj A3.o) (h:=?_);(case ai=>exact Z93);(case aj=>exact Z92);intro wq4 hb;have n_:=Z91;clear qW xw HB;obtain ⟨qW,xw,HB⟩:=n_;obtain ⟨_,_,_,_,_,_,_,_⟩:=cz qW.o;obtain ⟨_,_,_,_,_,_,_,_⟩:=cz xw.o)|(go_at_call 34;(with_reducible refine (jG.calls ?ai ?aj ?fI ?gV A6.o).mono ?_);(case ai=>exact abw);(case aj=>exact Ah.o);(case fI=>exact axe);(case gV=>exact Vk.o);rintro e w' ⟨rfl,⟨nd,rfl⟩⟩)|(go_at_call 35;(with_reducible refine (iF.calls ?ai ?aj ?fI ?gV A8.o).mono ?_);(case ai=>repeat (first|exact (Kd.kR DD.o OU)|(with_reducible refine Kd.dF ?_ _)|(with_reducible refine Kd.dG ?_ _)|(with_reducible refine Kd.eQ ?_)));(case aj=>exact Cf.o);(case fI=>repeat (first|exact (Kd.kR afL.o OU)|(with_reducible refine Kd.dF ?_ _)|(with_reducible refine Kd.dG ?_ _)|(with_reducible refine Kd.eQ ?_)));(case gV=>exact afM.o);rintro e w' ⟨rfl,⟨nd,rfl⟩⟩))
 go_ret;exact ⟨fT,OU⟩
def bS.l0:Nat→List ByteArray→List ByteArray→Int→Int→Option (Bool)
 |0,_,_,_,_=>none
 |k+1,x0,x1,x12,Ma=>if Ma<x12 then (if 0≤Ma then (if Ma<(x0.length:Int) then (if Ma<(x1.length:Int) then (if (jg ByteArray.empty x0 Ma).toList=(jg ByteArray.empty x1 Ma).toList then (bS.l0 k x0 x1 x12 (wrap64 (Ma+1))) else (some false)) else (none)) else (none)) else (none)) else (some true)
def bS.f (k:Nat) (l0:List ByteArray) (l1:List ByteArray):Option (Bool):=if (l0.length:Int)=(l1.length:Int) then (bS.l0 k l0 l1 (l0.length:Int) 0) else (some false)
theorem bS.calls {k:Nat} {A0:Option Addr} {c0:Nat} {l0:List ByteArray} {A1:Option Addr} {c1:Nat} {l1:List ByteArray} {r:Bool} {w:World} (hr0:Kd.C Kd.string w A0 l0.length l0) (hc0:l0.length≤c0) (hr1:Kd.C Kd.string w A1 l1.length l1) (hc1:l1.length≤c1) (h:bS.f k l0 l1=some r):
  Calls Tryz.prog 36 #[.slice A0 l0.length c0,.slice A1 l1.length c1] w fun e w'=>e=.returned (.bool r)∧iI w w':=by
 have t_:=jC hr0;have BI:=jC hc0;clear hr0 hc0;have HR1:=jC hr1;have HC1:=jC hc1;clear hr1 hc1;have H:=h;clear h;unfold bS.f at H
 replace H:=iE H;obtain ⟨rG,Av,c3,H⟩|⟨rG,Av,c3,H⟩:=H
 ·have Q5:(l0.length==l1.length)=false:=by first|simpa using c3|(simp at c3 ⊢;omega)
  obtain rfl:=Option.some.inj H;go_enter Tryz.func36,Tryz.ntmps36
  go_wp2
  repeat (go_quiet (fail);try go_wp2)
  go_ret;exact ⟨bT,jR⟩
 have Q5:(l0.length==l1.length)=true:=by first|simpa using c3|(simp at c3 ⊢;omega)
 clear c3;have H':=jC H;clear H;go_enter Tryz.func36,Tryz.ntmps36
 go_wp2
 repeat (go_quiet (fail);try go_wp2)
 go_loopg [13] k (fun kq v13 w'=>∃(yF:Int),v13=.int .i64 yF∧aa (bS.l0 kq l0 l1 (l0.length:Int) yF=some r)∧aa (kq≤k)∧iI w w')
 case atStart=>exact ⟨(0),bT,H',⟨Nat.le_refl _⟩,jR⟩
 case round=>
  clear H';obtain ⟨yF,rfl,HA,rF,⟨m1,rfl⟩⟩:=hrel
  cases gk with
  |zero=>exact absurd HA.o (by simp [bS.l0])
  |succ k1=>
   have H:=HA.o;clear HA;simp only[bS.l0] at H
   replace H:=iD H;obtain ⟨qo,-,H⟩|⟨qo,-,H⟩:=H
   ·obtain rfl:=Option.some.inj H
    go_wp2
    repeat (go_quiet (fail);try go_wp2)
    go_ret;exact ⟨bT,jR⟩
   obtain ⟨oZ,-,H⟩:=l5 H;obtain ⟨vU,-,H⟩:=l5 H;obtain ⟨D9,-,H⟩:=l5 H
   replace H:=iE H;obtain ⟨vV,FU,c8,H⟩|⟨vV,FU,-,H⟩:=H
   ·obtain rfl:=Option.some.inj H;obtain ⟨aQ5,aQ6,aDJ,as2,akF⟩:=gS t_.o yF
    cases as2
    obtain ⟨aQ7,aQ8,aDK,as3,akG⟩:=gS HR1.o yF
    cases as3
    go_wp2
    repeat (go_quiet (fail);try go_wp2)
    go_ret;exact ⟨bT,jR⟩
   have H':=jC H;clear H;obtain ⟨aQ5,aQ6,aDJ,as2,akF⟩:=gS t_.o yF
   cases as2
   obtain ⟨aQ7,aQ8,aDK,as3,akG⟩:=gS HR1.o yF
   cases as3
   go_wp2
   repeat (go_quiet (fail);try go_wp2)
   go_roundg k1
   case measure=>have:=rF.o;omega
   case rel=>exact ⟨(wrap64 (yF+1)),bT,H',⟨vE⟩,jR⟩
def bN.l0:Nat→List (List Int)→List (List Int)→Int→Int→Option (Bool)
 |0,_,_,_,_=>none
 |k+1,x1,x15,XB,Ow=>if Ow<XB then (if 0≤Ow then (if Ow<(x15.length:Int) then (if Ow<(x1.length:Int) then ((mq.f k (gP x15 Ow) (gP x1 Ow)).bind fun aDL=>(if aDL=true then (bN.l0 k x1 x15 XB (wrap64 (Ow+1))) else (some false))) else (none)) else (none)) else (none)) else (some true)
def bN.f (k:Nat) (l0:List (List Int)) (l1:List (List Int)) (a2:Unit):Option (Bool):=if (l0.length:Int)=(l1.length:Int) then (bN.l0 k l1 l0 (l0.length:Int) 0) else (some false)
theorem bN.calls {k:Nat} {A0:Option Addr} {c0:Nat} {l0:List (List Int)} {A1:Option Addr} {c1:Nat} {l1:List (List Int)} {a2:Unit} {r:Bool} {w:World} (hr0:Kd.C (Kd.slice 3 (Kd.int .i64)) w A0 l0.length l0) (hc0:l0.length≤c0) (hr1:Kd.C (Kd.slice 3 (Kd.int .i64)) w A1 l1.length l1) (hc1:l1.length≤c1) (h:bN.f k l0 l1 a2=some r):
  Calls Tryz.prog 69 #[.slice A0 l0.length c0,.slice A1 l1.length c1,.func (.func 70) #[] #[]] w fun e w'=>e=.returned (.bool r)∧iI w w':=by
 have t_:=jC hr0;have BI:=jC hc0;clear hr0 hc0;have HR1:=jC hr1;have HC1:=jC hc1;clear hr1 hc1;have H:=h;clear h;unfold bN.f at H
 replace H:=iE H;obtain ⟨qo,Q8,c4,H⟩|⟨qo,Q8,c4,H⟩:=H
 ·have aDM:(l0.length==l1.length)=false:=by first|simpa using c4|(simp at c4 ⊢;omega)
  obtain rfl:=Option.some.inj H;go_enter Tryz.func69,Tryz.ntmps69
  go_wp2
  go_ret;exact ⟨bT,jR⟩
 have aDM:(l0.length==l1.length)=true:=by first|simpa using c4|(simp at c4 ⊢;omega)
 clear c4;have H':=jC H;clear H;go_enter Tryz.func69,Tryz.ntmps69
 go_wp2
 go_loopg [17] k (fun kq v17 w'=>∃(DT:Int),v17=.int .i64 DT∧aa (bN.l0 kq l1 l0 (l0.length:Int) DT=some r)∧aa (kq≤k)∧iI w w')
 case atStart=>exact ⟨(0),bT,H',⟨Nat.le_refl _⟩,jR⟩
 case round=>
  clear H';obtain ⟨DT,rfl,HA,rF,⟨m1,rfl⟩⟩:=hrel
  cases gk with
  |zero=>exact absurd HA.o (by simp [bN.l0])
  |succ k1=>
   have H:=HA.o;clear HA;simp only[bN.l0] at H
   replace H:=iD H;obtain ⟨oZ,-,H⟩|⟨oZ,-,H⟩:=H
   ·obtain rfl:=Option.some.inj H
    go_wp2
    go_ret;exact ⟨bT,jR⟩
   obtain ⟨vU,-,H⟩:=l5 H;obtain ⟨D9,-,H⟩:=l5 H;obtain ⟨vV,-,H⟩:=l5 H;obtain ⟨aDL,A9,H⟩:=bd H
   replace H:=iB H;obtain ⟨rfl,H⟩|⟨rfl,H⟩:=H
   ·obtain rfl:=Option.some.inj H;obtain ⟨aQ9,aRa,aDN,as4,as5,as6,akH,RN,YQ⟩:=V8 t_.o DT
    cases as6
    obtain ⟨aRb,aRc,aDO,as7,as8,as9,akI,RO,YP⟩:=V8 HR1.o DT
    cases as9
    go_wp2_with (first|(go_at_call 70;(with_reducible refine (mq.calls k1 _ _ (gP l0 DT) _ _ (gP l1 DT) false _ ?ai ?aj ?fI ?gV A9.o).mono ?_);(case ai=>exact axC);(case aj=>exact RN.o);(case fI=>exact axB);(case gV=>exact RO.o);rintro e w' ⟨rfl,⟨nd,rfl⟩⟩))
    go_ret;exact ⟨bT,jR⟩
   have H':=jC H;clear H;obtain ⟨aQ9,aRa,aDN,as4,as5,as6,akH,RN,YQ⟩:=V8 t_.o DT
   cases as6
   obtain ⟨aRb,aRc,aDO,as7,as8,as9,akI,RO,YP⟩:=V8 HR1.o DT
   cases as9
   go_wp2_with (first|(go_at_call 70;(with_reducible refine (mq.calls k1 _ _ (gP l0 DT) _ _ (gP l1 DT) true _ ?ai ?aj ?fI ?gV A9.o).mono ?_);(case ai=>exact axC);(case aj=>exact RN.o);(case fI=>exact axB);(case gV=>exact RO.o);rintro e w' ⟨rfl,⟨nd,rfl⟩⟩))
   go_roundg k1
   case measure=>have:=rF.o;omega
   case rel=>exact ⟨(wrap64 (DT+1)),bT,H',⟨vE⟩,jR⟩
def oo.f (k:Nat) (l0:List (List Int)) (l1:List (List Int)):Option (Bool):=(bN.f k l0 l1 ()).bind fun aDP=>(some aDP)
theorem oo.calls {k:Nat} {A0:Option Addr} {c0:Nat} {l0:List (List Int)} {A1:Option Addr} {c1:Nat} {l1:List (List Int)} {r:Bool} {w:World} (hr0:Kd.C (Kd.slice 3 (Kd.int .i64)) w A0 l0.length l0) (hc0:l0.length≤c0) (hr1:Kd.C (Kd.slice 3 (Kd.int .i64)) w A1 l1.length l1) (hc1:l1.length≤c1) (h:oo.f k l0 l1=some r):
  Calls Tryz.prog 37 #[.slice A0 l0.length c0,.slice A1 l1.length c1] w fun e w'=>e=.returned (.bool r)∧iI w w':=by
 have t_:=jC hr0;have BI:=jC hc0;clear hr0 hc0;have HR1:=jC hr1;have HC1:=jC hc1;clear hr1 hc1;have H:=h;clear h;unfold oo.f at H;obtain ⟨aDP,A3,H⟩:=bd H;obtain rfl:=Option.some.inj H;go_enter Tryz.func37,Tryz.ntmps37
 go_wp2_with (first|((with_reducible refine yS (f:=69) rfl ?_);refine JM (some 7) rfl rfl Tryz.func69 bD rfl #[.slice A0 l0.length c0,.slice A1 l1.length c1,.func (.func 70) #[] #[]] rfl ql ?_;(with_reducible refine (bN.calls ?ai ?aj ?fI ?gV A3.o).mono ?_);(case ai=>exact Ub);(case aj=>exact BI.o);(case fI=>exact axF);(case gV=>exact HC1.o);rintro e w' ⟨rfl,⟨nd,rfl⟩⟩;refine ⟨_,rfl,?_⟩))
 go_ret;exact ⟨bT,jR⟩
def qb.f (k:Nat) (dH:List ByteArray) (fA:ByteArray) (eZ:List (List Int)) (fG:List Int) (uH:List ByteArray) (EQ:ByteArray) (Aj:List (List Int)) (Ak:List Int):Option (Bool):=(bS.f k dH uH).bind fun aDQ=>(if aDQ=true then (if fA.toList=EQ.toList then ((oo.f k eZ Aj).bind fun aDR=>(if aDR=true then ((dX.f k fG Ak).bind fun aDS=>(some aDS)) else (some false))) else (some false)) else (some false))
theorem qb.calls {k:Nat} {iq:Option Addr} {ig:Nat} {dH:List ByteArray} {fA:ByteArray} {kv:Option Addr} {jI:Nat} {eZ:List (List Int)} {jX:Option Addr} {jF:Nat} {fG:List Int} {BB:Option Addr} {BC:Nat} {uH:List ByteArray} {EQ:ByteArray} {JV:Option Addr} {JW:Nat} {Aj:List (List Int)} {JX:Option Addr} {JY:Nat} {Ak:List Int} {r:Bool} {w:World} (yG:Kd.C Kd.string w iq dH.length dH) (yH:dH.length≤ig) (yI:Kd.C (Kd.slice 3 (Kd.int .i64)) w kv eZ.length eZ) (yJ:eZ.length≤jI) (yK:Kd.C (Kd.int .i64) w jX fG.length fG) (yL:fG.length≤jF) (Ve:Kd.C Kd.string w BB uH.length uH) (Vf:uH.length≤BC) (Vg:Kd.C (Kd.slice 3 (Kd.int .i64)) w JV Aj.length Aj) (Vh:Aj.length≤JW) (Vi:Kd.C (Kd.int .i64) w JX Ak.length Ak) (Vj:Ak.length≤JY) (h:qb.f k dH fA eZ fG uH EQ Aj Ak=some r):
  Calls Tryz.prog 11 #[.agg #[.slice iq dH.length ig,.string fA,.slice kv eZ.length jI,.slice jX fG.length jF],.agg #[.slice BB uH.length BC,.string EQ,.slice JV Aj.length JW,.slice JX Ak.length JY]] w fun e w'=>e=.returned (.bool r)∧Below w.heap.size w w':=by
 have NB:=Tryz.underlying28;have zo:=jC yG;have H7:=jC yH;clear yG yH;have zn:=jC yI;have Ah:=jC yJ;clear yI yJ;have DD:=jC yK;have Cf:=jC yL;clear yK yL;have adp:=jC Ve;have PN:=jC Vf;clear Ve Vf;have adm:=jC Vg;have Vk:=jC Vh;clear Vg Vh;have afL:=jC Vi;have afM:=jC Vj;clear Vi Vj;have HB:=jC (Below.refl w.heap.size w);have H:=h;clear h;unfold qb.f at H;obtain ⟨aDQ,A3,H⟩:=bd H
 replace H:=iB H;obtain ⟨rfl,H⟩|⟨rfl,H⟩:=H
 ·obtain rfl:=Option.some.inj H;go_enter Tryz.func11,Tryz.ntmps11
  go_wp2_with (first|((with_reducible refine aG (N:=2) rfl ?_);refine bE 2 #[.slice iq dH.length ig,.string fA,.slice kv eZ.length jI,.slice jX fG.length jF] 28 (h:=?_);intro PK hg wC hbox hb;have n_:=Z50;clear HB;obtain ⟨HB,xu,Um⟩:=n_;clear hb hbox hg)|((with_reducible refine aG (N:=3) rfl ?_);refine bE 3 #[.slice BB uH.length BC,.string EQ,.slice JV Aj.length JW,.slice JX Ak.length JY] 28 (h:=?_);intro PI hg wq2 hbox hb;have n_:=Z34;clear xu HB;obtain ⟨xu,HB,NN,YZ,xN,xO⟩:=n_;clear hb hbox hg;have EJ:=xN.o;have EK:=xO.o;obtain ⟨_,_,_,_,_,_,_,_⟩:=cz xu.o;obtain ⟨_,_,_,_,_,_,_,_⟩:=cz NN.o)|(refine gR 9 Tryz.func36 #[.slice iq dH.length ig,.slice BB uH.length BC] (bS.calls ?ai ?aj ?fI ?gV A3.o) (h:=?_);(case ai=>exact D8);(case aj=>exact wT);(case fI=>exact ai5);(case gV=>exact PN.o);rintro w' ⟨nd,rfl⟩))
  go_ret;exact ⟨fT,TY⟩
 replace H:=iE H;obtain ⟨oZ,GY,c5,H⟩|⟨oZ,GY,-,H⟩:=H
 ·obtain rfl:=Option.some.inj H;go_enter Tryz.func11,Tryz.ntmps11
  go_wp2_with (first|((with_reducible refine aG (N:=2) rfl ?_);refine bE 2 #[.slice iq dH.length ig,.string fA,.slice kv eZ.length jI,.slice jX fG.length jF] 28 (h:=?_);intro PK hg wC hbox hb;have n_:=Z50;clear HB;obtain ⟨HB,xu,Um⟩:=n_;clear hb hbox hg)|((with_reducible refine aG (N:=3) rfl ?_);refine bE 3 #[.slice BB uH.length BC,.string EQ,.slice JV Aj.length JW,.slice JX Ak.length JY] 28 (h:=?_);intro PI hg wq2 hbox hb;have n_:=Z34;clear xu HB;obtain ⟨xu,HB,NN,YZ,xN,xO⟩:=n_;clear hb hbox hg;have EJ:=xN.o;have EK:=xO.o;obtain ⟨_,_,_,_,_,_,_,_⟩:=cz xu.o;obtain ⟨_,_,_,_,_,_,_,_⟩:=cz NN.o)|(refine gR 9 Tryz.func36 #[.slice iq dH.length ig,.slice BB uH.length BC] (bS.calls ?ai ?aj ?fI ?gV A3.o) (h:=?_);(case ai=>exact D8);(case aj=>exact wT);(case fI=>exact ai5);(case gV=>exact PN.o);rintro w' ⟨nd,rfl⟩))
  go_ret;exact ⟨fT,TY⟩
 obtain ⟨aDR,A6,H⟩:=bd H
 replace H:=iB H;obtain ⟨rfl,H⟩|⟨rfl,H⟩:=H
 ·obtain rfl:=Option.some.inj H;go_enter Tryz.func11,Tryz.ntmps11
  go_wp2_with (first|((with_reducible refine aG (N:=2) rfl ?_);refine bE 2 #[.slice iq dH.length ig,.string fA,.slice kv eZ.length jI,.slice jX fG.length jF] 28 (h:=?_);intro PK hg wC hbox hb;have n_:=Z50;clear HB;obtain ⟨HB,xu,Um⟩:=n_;clear hb hbox hg)|((with_reducible refine aG (N:=3) rfl ?_);refine bE 3 #[.slice BB uH.length BC,.string EQ,.slice JV Aj.length JW,.slice JX Ak.length JY] 28 (h:=?_);intro PI hg wq2 hbox hb;have n_:=Z34;clear xu HB;obtain ⟨xu,HB,NN,YZ,xN,xO⟩:=n_;clear hb hbox hg;have EJ:=xN.o;have EK:=xO.o;obtain ⟨_,_,_,_,_,_,_,_⟩:=cz xu.o;obtain ⟨_,_,_,_,_,_,_,_⟩:=cz NN.o)|(refine gR 9 Tryz.func36 #[.slice iq dH.length ig,.slice BB uH.length BC] (bS.calls ?ai ?aj ?fI ?gV A3.o) (h:=?_);(case ai=>exact D8);(case aj=>exact wT);(case fI=>exact ai5);(case gV=>exact PN.o);rintro w' ⟨nd,rfl⟩)|(go_at_call 37;(with_reducible refine (oo.calls ?ai ?aj ?fI ?gV A6.o).mono ?_);(case ai=>exact Z60);(case aj=>exact Ah.o);(case fI=>exact Z59);(case gV=>exact Vk.o);rintro e w' ⟨rfl,⟨nd,rfl⟩⟩))
  go_ret;exact ⟨fT,TY⟩
 obtain ⟨aDS,A8,H⟩:=bd H;obtain rfl:=Option.some.inj H;go_enter Tryz.func11,Tryz.ntmps11
 go_wp2_with (first|((with_reducible refine aG (N:=2) rfl ?_);refine bE 2 #[.slice iq dH.length ig,.string fA,.slice kv eZ.length jI,.slice jX fG.length jF] 28 (h:=?_);intro PK hg wC hbox hb;have n_:=Z50;clear HB;obtain ⟨HB,xu,Um⟩:=n_;clear hb hbox hg)|((with_reducible refine aG (N:=3) rfl ?_);refine bE 3 #[.slice BB uH.length BC,.string EQ,.slice JV Aj.length JW,.slice JX Ak.length JY] 28 (h:=?_);intro PI hg wq2 hbox hb;have n_:=Z34;clear xu HB;obtain ⟨xu,HB,NN,YZ,xN,xO⟩:=n_;clear hb hbox hg;have EJ:=xN.o;have EK:=xO.o;obtain ⟨_,_,_,_,_,_,_,_⟩:=cz xu.o;obtain ⟨_,_,_,_,_,_,_,_⟩:=cz NN.o)|(refine gR 9 Tryz.func36 #[.slice iq dH.length ig,.slice BB uH.length BC] (bS.calls ?ai ?aj ?fI ?gV A3.o) (h:=?_);(case ai=>exact D8);(case aj=>exact wT);(case fI=>exact ai5);(case gV=>exact PN.o);rintro w' ⟨nd,rfl⟩)|(go_at_call 37;(with_reducible refine (oo.calls ?ai ?aj ?fI ?gV A6.o).mono ?_);(case ai=>exact Z60);(case aj=>exact Ah.o);(case fI=>exact Z59);(case gV=>exact Vk.o);rintro e w' ⟨rfl,⟨nd,rfl⟩⟩)|(go_at_call 38;(with_reducible refine (dX.calls ?ai ?aj ?fI ?gV A8.o).mono ?_);(case ai=>repeat (first|exact (Kd.kR DD.o TY)|(with_reducible refine Kd.dF ?_ _)|(with_reducible refine Kd.dG ?_ _)|(with_reducible refine Kd.eQ ?_)));(case aj=>exact Cf.o);(case fI=>repeat (first|exact (Kd.kR afL.o TY)|(with_reducible refine Kd.dF ?_ _)|(with_reducible refine Kd.dG ?_ _)|(with_reducible refine Kd.eQ ?_)));(case gV=>exact afM.o);rintro e w' ⟨rfl,⟨nd,rfl⟩⟩))
 go_ret;exact ⟨fT,TY⟩
mutual
def bu.j0:Nat→ByteArray→Int→List Int→Bool→Option (ByteArray × Int × Bool)
 |0,_,_,_,_=>none
 |k+1,x0,x1,x7,Tc=>if Tc=true then (bu.l0 k x0 (wrap64 (x1+1)) x7) else (bu.l1 k x0 x1 x7)
def bu.l0:Nat→ByteArray→Int→List Int→Option (ByteArray × Int × Bool)
 |0,_,_,_=>none
 |k+1,x0,x1,x7=>if x1≥(x0.size:Int) then (some ((⟨#[]⟩:ByteArray),x1,false)) else (if 0≤x1 then (if x1<(x0.size:Int) then (if (bt x0 x1)=34 then (if (wrap64 (x1+1))<(x0.size:Int) then (if 0≤(wrap64 (x1+1)) then (if (bt x0 (wrap64 (x1+1)))=34 then (if x7.length<140737488355328 then (bu.l0 k x0 (wrap64 (x1+2)) (x7++ [34])) else (none)) else (some (strOfNums x7,wrap64 (x1+1),true))) else (none)) else (some (strOfNums x7,wrap64 (x1+1),true))) else (if x7.length<140737488355328 then (bu.l0 k x0 (wrap64 (x1+1)) (x7++ [bt x0 x1])) else (none))) else (none)) else (none))
def bu.l1:Nat→ByteArray→Int→List Int→Option (ByteArray × Int × Bool)
 |0,_,_,_=>none
 |k+1,x0,x1,x7=>if x1<(x0.size:Int) then (if 0≤x1 then (if (bt x0 x1)=44 then (bu.j3 k x0 x1 x7 false) else (if (bt x0 x1)=10 then (bu.j3 k x0 x1 x7 false) else (bu.j3 k x0 x1 x7 ((bt x0 x1) !=13)))) else (none)) else (bu.j3 k x0 x1 x7 false)
def bu.j3:Nat→ByteArray→Int→List Int→Bool→Option (ByteArray × Int × Bool)
 |0,_,_,_,_=>none
 |k+1,x0,x1,x7,x80=>if x80=true then (if 0≤x1 then (if x1<(x0.size:Int) then (if (bt x0 x1)=34 then (some ((⟨#[]⟩:ByteArray),x1,false)) else (if x7.length<140737488355328 then (bu.l1 k x0 (wrap64 (x1+1)) (x7++ [bt x0 x1])) else (none))) else (none)) else (none)) else (some (strOfNums x7,x1,true))
end
def bu.f (k:Nat) (a0:ByteArray) (a1:Int):Option (ByteArray × Int × Bool):=(some (([]:List Int):List Int)).bind fun XL=>(if a1<(a0.size:Int) then (if 0≤a1 then (bu.j0 k a0 a1 XL ((bt a0 a1)==34)) else (none)) else (bu.j0 k a0 a1 XL false))
theorem bu.calls {k:Nat} {a0:ByteArray} {a1:Int} {r1:ByteArray} {r2:Int} {r3:Bool} {w:World} (h:bu.f k a0 a1=some (r1,r2,r3)):
  Calls Tryz.prog 72 #[.string a0,.int .i64 a1] w fun e w'=>e=.returned (.tuple #[.string r1,.int .i64 r2,.bool r3])∧Below w.heap.size w w':=by
 have HB:=jC (Below.refl w.heap.size w);have H:=h;clear h;unfold bu.f at H;obtain ⟨XL,aot,H⟩:=yB H;have HC3:=jC H;clear H;go_enter Tryz.func72,Tryz.ntmps72
 go_upto_region 2 with (first|((with_reducible refine aG (N:=8) rfl ?_);refine Kd.sQ (Kd.int .u8) _ 5 ?hg (N:=8) ?hd (xs:=([]:List Int)) (inner:=[]) (ok:=fun _=>True) (okp:=fun _=>True) ?hr ?hp rE trivial (Below.refl _ _) (Nat.le_refl _) gQ ?_;(case hd=>rfl);(case hg=>rfl);(case hr=>exact kz);(case hp=>exact xk);intro aRd w4 ho5 hb hg_ hnew_;clear hg_ hnew_;(first|rw[←aot.o] at ho5|(simp only[Int.reduceToNat] at ho5;rw[←aot.o] at ho5));have n_:=jA (Kd.dC ho5 (ah dn)) (jC (ae dn hb));clear HB;obtain ⟨ayp,HB⟩:=n_;clear hb ho5))
 (try simp only[Act.put,List.setIfInBounds_toArray,List.set_cons_zero,List.set_cons_succ])
 go_cut [18] (fun v18 wc=>∃(kq:Nat) (afO:Bool),v18=.bool afO∧aa (bu.j0 kq a0 a1 XL afO=some (r1,r2,r3))∧aa (kq≤k)∧aa (Kd.R (Kd.int .u8) 5 wc w.heap.size (fun _=>True) aRd XL)∧aa (Below w.heap.size w wc))
 case first=>
  have H:=HC3.o;clear HC3
  replace H:=iD H;obtain ⟨vU,-,H⟩|⟨vU,-,H⟩:=H
  ·(first|rw[vU]|(simp only[jT,kS];rw[vU])|skip);have H':=jC H;clear H
   go_wp2
   go_meet
   case rel=>exact ⟨_,(false),bT,H',⟨Au⟩,⟨ayo⟩,⟨dn⟩⟩
  (first|rw[vU]|(simp only[jT,kS];rw[vU])|skip);obtain ⟨D9,-,H⟩:=l5 H;have H':=jC H;clear H;obtain ⟨p8,q8⟩:=uw (s:=a0) (i:=a1);have hx8:=d9 a0 a1
  go_wp2
  go_meet
  case rel=>exact ⟨_,(((bt a0 a1)==34)),bT,H',⟨Au⟩,⟨ayo⟩,⟨dn⟩⟩
 case rest=>
  clear HC3
  try clear hx8
  obtain ⟨kq,afO,rfl,HA,HJ2,O4,HB⟩:=hcut
  cases kq with
  |zero=>exact absurd HA.o (by simp [bu.j0])
  |succ kj2=>
   have H:=HA.o;clear HA;simp only[bu.j0] at H
   replace H:=iB H;obtain ⟨rfl,G⟩|⟨rfl,G⟩:=H
   ·have H:=G;clear G;have H':=jC H;clear H
    go_wp2
    go_loopg [1,7] kj2 (fun kq v1 v7 w'=>∃(pg:Int) (wD:List Int),v1=.int .i64 pg∧aa (bu.l1 kq a0 pg wD=some (r1,r2,r3))∧aa (kq≤kj2)∧aa (Kd.R (Kd.int .u8) 5 w' w.heap.size (fun _=>True) v7 wD)∧aa (Below w.heap.size w w'))
    case atStart=>exact ⟨(a1),(XL),bT,H',⟨Nat.le_refl _⟩,⟨W9⟩,⟨dn⟩⟩
    case round=>
     clear H'
     try clear hx1
     try clear hx2
     try clear hx8
     try clear ace
     try clear Rf
     try clear hx24
     obtain ⟨pg,wD,rfl,HA,vD,O4,HB⟩:=hrel
     cases gk with
     |zero=>exact absurd HA.o (by simp [bu.l1])
     |succ k2=>
      have H:=HA.o;clear HA;simp only[bu.l1] at H;have atb:=jC H;clear H
      go_upto_region 13 with (fail)
      go_cut [80] (fun v80 wc=>∃(kq:Nat) (XM:Bool),v80=.bool XM∧aa (bu.j3 kq a0 pg wD XM=some (r1,r2,r3))∧aa (kq≤k2)∧aa (Kd.R (Kd.int .u8) 5 wc w.heap.size (fun _=>True) u7 wD)∧aa (Below w.heap.size w wc))
      case first=>
       have H:=atb.o;clear atb
       replace H:=iD H;obtain ⟨NI,-,H⟩|⟨NI,-,H⟩:=H
       ·(first|rw[NI]|(simp only[jT,kS];rw[NI])|skip);have H':=jC H;clear H
        go_wp2
        go_meet
        case rel=>exact ⟨_,(false),bT,H',⟨ajp⟩,⟨W9⟩,⟨dn⟩⟩
       (first|rw[NI]|(simp only[jT,kS];rw[NI])|skip);obtain ⟨afP,-,H⟩:=l5 H
       replace H:=jE H;obtain ⟨P7,afQ,-,H⟩|⟨P7,afQ,c31,H⟩:=H
       ·have H':=jC H;clear H;obtain ⟨p30,NG⟩:=uw (s:=a0) (i:=pg);have O5:=d9 a0 pg
        go_wp2
        go_meet
        case rel=>exact ⟨_,(false),bT,H',⟨ajp⟩,⟨W9⟩,⟨dn⟩⟩
       replace H:=jE H;obtain ⟨ZV,afR,-,H⟩|⟨ZV,afR,c33,H⟩:=H
       ·have H':=jC H;clear H;obtain ⟨p30,NG⟩:=uw (s:=a0) (i:=pg);have O5:=d9 a0 pg;obtain ⟨p32,q32⟩:=uw (s:=a0) (i:=pg);have hx32:=d9 a0 pg
        go_wp2
        go_meet
        case rel=>exact ⟨_,(false),bT,H',⟨ajp⟩,⟨W9⟩,⟨dn⟩⟩
       have H':=jC H;clear H;obtain ⟨p30,NG⟩:=uw (s:=a0) (i:=pg);have O5:=d9 a0 pg;obtain ⟨p32,q32⟩:=uw (s:=a0) (i:=pg);have hx32:=d9 a0 pg;obtain ⟨p34,q34⟩:=uw (s:=a0) (i:=pg);have hx34:=d9 a0 pg
       go_wp2
       go_meet
       case rel=>exact ⟨_,(((bt a0 pg) !=13)),bT,H',⟨ajp⟩,⟨W9⟩,⟨dn⟩⟩
      case rest=>
       clear atb
       try clear hx1
       try clear hx2
       try clear hx3
       try clear hx8
       try clear ace
       try clear Rf
       try clear hx24
       try clear O5
       try clear hx32
       try clear hx34
       obtain ⟨kq,XM,rfl,HA,aDU,O4,HB⟩:=hcut
       cases kq with
       |zero=>exact absurd HA.o (by simp [bu.j3])
       |succ aRe=>
        have H:=HA.o;clear HA;simp only[bu.j3] at H
        replace H:=iB H;obtain ⟨rfl,G⟩|⟨rfl,G⟩:=H
        ·have H:=G;clear G;simp only[Option.some.injEq,Prod.mk.injEq] at H;obtain ⟨rfl,rfl,rfl⟩:=H;have aXO:=qp (P:=Tryz.prog) Tryz.underlying22 Tryz.underlying5 Tryz.underlying9 (Kd.o6 O4.o)
         go_wp2
         go_ret3;exact ⟨fT,dn⟩
        have H:=G;clear G;obtain ⟨anp,-,H⟩:=l5 H;obtain ⟨anq,-,H⟩:=l5 H
        replace H:=jE H;obtain ⟨aDV,aDW,-,H⟩|⟨aDV,aDW,c39,H⟩:=H
        ·simp only[Option.some.injEq,Prod.mk.injEq] at H;obtain ⟨rfl,rfl,rfl⟩:=H;obtain ⟨p38,q38⟩:=uw (s:=a0) (i:=pg);have hx38:=d9 a0 pg
         go_wp2
         go_ret3;exact ⟨fT,dn⟩
        obtain ⟨c41,H⟩:=nD H;have aem:=jC c41;clear c41;generalize hyy:(wD++ [bt a0 pg])=aRf at H;have aDX:=jC hyy.symm;clear hyy;have H':=jC H;clear H;obtain ⟨p38,q38⟩:=uw (s:=a0) (i:=pg);have hx38:=d9 a0 pg;obtain ⟨p40,q40⟩:=uw (s:=a0) (i:=pg);have aOF:=d9 a0 pg
        go_wp2_with (first|((with_reducible refine bJ (b:=.append) (xs:=#[.tmp 86,.tmp 90]) rfl ?_);at_builtin;refine Kd.gH (Kd.int .u8) (w0:=w) w.heap.size rfl (.tmp 86) (.tmp 90) 22 5 (.int .u8 0) 1 rfl Tryz.underlying22 info5 rfl au bG u7 wD (bt a0 pg) [.int .u8 (bt a0 pg)] (fun _=>True) (fun _=>False) rfl rfl ?aP (fun _ hk=>hk.elim) ?aF ?aO ?aB ?aS ?aL ?_;(case aP=>exact rfl);(case aB=>exact zf);(case aF=>exact o8);(case aO=>exact aqA);(case aS=>exact ze);(case aL=>have:=aem.o;omega);intro a2o w42 ho hb hg hat;rw[←aDX.o] at ho;have n_:=jA (hb) (jC (ho));clear HB O4;obtain ⟨HB,aDY⟩:=n_;clear ho hb hg hat))
        go_roundg aRe
        case measure=>have:=HJ2.o;have:=vD.o;have:=aDU.o;omega
        case rel=>exact ⟨(wrap64 (pg+1)),(aRf),bT,H',⟨by have:=HJ2.o;have:=vD.o;have:=aDU.o;omega⟩,⟨by refine pR ?_;exact aDY.o⟩,⟨dn⟩⟩
   have H:=G;clear G;have H':=jC H;clear H
   go_wp2
   go_loopg [1,7] kj2 (fun kq v1 v7 w'=>∃(pg:Int) (wD:List Int),v1=.int .i64 pg∧aa (bu.l0 kq a0 pg wD=some (r1,r2,r3))∧aa (kq≤kj2)∧aa (Kd.R (Kd.int .u8) 5 w' w.heap.size (fun _=>True) v7 wD)∧aa (Below w.heap.size w w'))
   case atStart=>exact ⟨(wrap64 (a1+1)),(XL),bT,H',⟨Nat.le_refl _⟩,⟨W9⟩,⟨dn⟩⟩
   case round=>
    clear H'
    try clear hx8
    obtain ⟨pg,wD,rfl,HA,vD,O4,HB⟩:=hrel
    cases gk with
    |zero=>exact absurd HA.o (by simp [bu.l0])
    |succ k2=>
     have H:=HA.o;clear HA;simp only[bu.l0] at H
     replace H:=jD H;obtain ⟨vC,-,H⟩|⟨vC,-,H⟩:=H
     ·simp only[Option.some.injEq,Prod.mk.injEq] at H;obtain ⟨rfl,rfl,rfl⟩:=H
      go_wp2
      go_ret3;exact ⟨fT,dn⟩
     obtain ⟨yA,-,H⟩:=l5 H;obtain ⟨DL,-,H⟩:=l5 H
     replace H:=iE H;obtain ⟨Gf,Ql,c14,H⟩|⟨Gf,Ql,-,H⟩:=H
     ·obtain ⟨c25,H⟩:=nD H;have aDZ:=jC c25;clear c25;generalize hyy:(wD++ [bt a0 pg])=aRg at H;have aD0:=jC hyy.symm;clear hyy;have H':=jC H;clear H;obtain ⟨p13,q13⟩:=uw (s:=a0) (i:=pg);have ace:=d9 a0 pg;obtain ⟨p24,q24⟩:=uw (s:=a0) (i:=pg);have hx24:=d9 a0 pg
      go_wp2_with (first|((with_reducible refine bJ (b:=.append) (xs:=#[.tmp 30,.tmp 34]) rfl ?_);at_builtin;refine Kd.gH (Kd.int .u8) (w0:=w) w.heap.size rfl (.tmp 30) (.tmp 34) 22 5 (.int .u8 0) 1 rfl Tryz.underlying22 info5 rfl au bG u7 wD (bt a0 pg) [.int .u8 (bt a0 pg)] (fun _=>True) (fun _=>False) rfl rfl ?aP (fun _ hk=>hk.elim) ?aF ?aO ?aB ?aS ?aL ?_;(case aP=>exact rfl);(case aB=>exact zf);(case aF=>exact o8);(case aO=>exact aqA);(case aS=>exact ze);(case aL=>have:=aDZ.o;omega);intro a2p w26 ho hb hg hat;rw[←aD0.o] at ho;have n_:=jA (hb) (jC (ho));clear HB O4;obtain ⟨HB,aD1⟩:=n_;clear ho hb hg hat))
      go_roundg k2
      case measure=>have:=HJ2.o;have:=vD.o;omega
      case rel=>exact ⟨(wrap64 (pg+1)),(aRg),bT,H',⟨by have:=HJ2.o;have:=vD.o;omega⟩,⟨by refine pR ?_;exact aD1.o⟩,⟨dn⟩⟩
     replace H:=iD H;obtain ⟨zx,-,H⟩|⟨zx,-,H⟩:=H
     ·simp only[Option.some.injEq,Prod.mk.injEq] at H;obtain ⟨rfl,rfl,rfl⟩:=H;obtain ⟨p13,q13⟩:=uw (s:=a0) (i:=pg);have ace:=d9 a0 pg;have aeF:=qp (P:=Tryz.prog) Tryz.underlying22 Tryz.underlying5 Tryz.underlying9 (Kd.o6 O4.o)
      go_wp2
      go_ret3;exact ⟨fT,dn⟩
     obtain ⟨Ph,Vl⟩:∃j_:Int,(wrap64 (pg+1))=j_:=⟨_,rfl⟩
     replace H:(if 0≤(Ph) then (if (bt a0 (Ph))=34 then (if wD.length<140737488355328 then (bu.l0 k2 a0 (wrap64 (pg+2)) (wD++ [34])) else (none)) else (some (strOfNums wD,Ph,true))) else (none))=some (r1,r2,r3):=by first|(rw[Vl] at H;exact H)|(simp only[Vl] at H ⊢;exact H)
     (try rw[Vl] at zx);have aRh:(IntKind.i64.wrap (pg+1))=Ph:=(jT _).trans Vl;obtain ⟨K6,-,H⟩:=l5 H
     replace H:=iE H;obtain ⟨Gd,Qe,c19,H⟩|⟨Gd,Qe,-,H⟩:=H
     ·simp only[Option.some.injEq,Prod.mk.injEq] at H;obtain ⟨rfl,rfl,rfl⟩:=H;obtain ⟨p13,q13⟩:=uw (s:=a0) (i:=pg);have ace:=d9 a0 pg;have Xr:0≤((Ph):Int):=oT bL;have Xt:(Ph)<(a0.size:Int):=oT bL;have Rf:=d9 a0 (Ph);replace Xr:=fO Xr;replace Xt:=fO Xt;have aXQ:=qp (P:=Tryz.prog) Tryz.underlying22 Tryz.underlying5 Tryz.underlying9 (Kd.o6 O4.o)
      go_wp2
      go_ret3;exact ⟨by first|rfl|(simp [jM,jN]<;>rfl)|(simp only[←Vl];first|rfl|(simp [jM,jN]<;>rfl))|(simp [*,jM,jN]<;>rfl),dn⟩
     obtain ⟨c20,H⟩:=nD H;have aeZ:=jC c20;clear c20;generalize hyy:(wD++ [34])=aRi at H;have aD2:=jC hyy.symm;clear hyy;have H':=jC H;clear H;obtain ⟨p13,q13⟩:=uw (s:=a0) (i:=pg);have ace:=d9 a0 pg;have Xr:0≤((Ph):Int):=oT bL;have Xt:(Ph)<(a0.size:Int):=oT bL;have Rf:=d9 a0 (Ph);replace Xr:=fO Xr;replace Xt:=fO Xt
     go_wp2_with (first|((with_reducible refine bJ (b:=.append) (xs:=#[.tmp 50,.tmp 51]) rfl ?_);at_builtin;refine Kd.gH (Kd.int .u8) (w0:=w) w.heap.size rfl (.tmp 50) (.tmp 51) 22 5 (.int .u8 0) 1 rfl Tryz.underlying22 info5 rfl au bG u7 wD 34 [.int .u8 34] (fun _=>True) (fun _=>False) rfl rfl ?aP (fun _ hk=>hk.elim) ?aF ?aO ?aB ?aS ?aL ?_;(case aP=>exact rfl);(case aB=>exact zf);(case aF=>exact o8);(case aO=>exact aqA);(case aS=>exact ze);(case aL=>have:=aeZ.o;omega);intro a2q w21 ho hb hg hat;rw[←aD2.o] at ho;have n_:=jA (hb) (jC (ho));clear HB O4;obtain ⟨HB,aD3⟩:=n_;clear ho hb hg hat))
     go_roundg k2
     case measure=>have:=HJ2.o;have:=vD.o;omega
     case rel=>exact ⟨(wrap64 (pg+2)),(aRi),bT,H',⟨by have:=HJ2.o;have:=vD.o;omega⟩,⟨by refine pR ?_;exact aD3.o⟩,⟨dn⟩⟩
end Go.Proofs.YtkjbbnijhpldhaaGreatDoor.QFnTable
