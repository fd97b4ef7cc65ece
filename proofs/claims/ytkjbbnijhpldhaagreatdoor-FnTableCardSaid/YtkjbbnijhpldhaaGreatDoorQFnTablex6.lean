/- The machine side of FnTable: what each Go function that it reaches comes to. Conditions: none. -/
import Derived.Test.YtkjbbnijhpldhaaGreatDoorQFnTablex5
namespace Go.Proofs.YtkjbbnijhpldhaaGreatDoor.QFnTable
open Go.RowKit Go.Proofs.YtkjbbnijhpldhaaGreatDoorW.PrintWords Go.Proofs.YtkjbbnijhpldhaaGreatDoorW.PrintLast Go.Proofs.YtkjbbnijhpldhaaGreatDoorW.PrintMore
attribute [local go_sem] oq ou qN qO mr mD ow oz
set_option linter.unusedVariables false
set_option linter.unusedSimpArgs false
set_option maxHeartbeats 8000000
set_option maxRecDepth 100000
def kN.l0:Nat→List Int→Int→Int→Option (List Int × Int × Int)
 |0,_,_,_=>none
 |k+1,x0,x3,x4=>if x4<(x0.length:Int) then (if x4<4000 then (if 0≤x4 then (kN.l0 k x0 (Go.bits .and .i64 (wrap64 ((wrap64 ((wrap64 (x3 * 131))+(wrap64 (rd x0 x4))))+7)) 1073741823) (wrap64 (x4+1))) else (none)) else (some (x0,0,x3))) else (some (x0,0,x3))
def kN.f (k:Nat) (l0:List Int):Option (List Int × Int × Int):=kN.l0 k l0 (wrap64 (28507+(l0.length:Int))) 0
theorem kN.calls {k:Nat} {A0:Option Addr} {c0:Nat} {l0:List Int} {r1:List Int} {r2:Int} {r3:Int} (w0 w:World) (hB:Below w0.heap.size w0 w) (hr0:Kd.C (Kd.int .u8) w0 A0 l0.length l0) (hc0:l0.length≤c0) (h:kN.f k l0=some (r1,r2,r3)):
  Calls Tryz.prog 16 #[.slice A0 l0.length c0] w fun e w'=>∃g_:Nat,e=.returned (.pointer (some ⟨g_,0,none⟩))∧ag w0 w' g_ r1 r2 r3∧Below w0.heap.size w0 w'∧Below w.heap.size w w':=by
 have a5H:=Tryz.underlying72;have t_:=jC hr0;have BI:=jC hc0;clear hr0 hc0;have HBW:=jC (Below.refl w.heap.size w);have HW0:=jC hB.size;have HB:=jC hB;clear hB;have H:=h;clear h;unfold kN.f at H;have H':=jC H;clear H;go_enter Tryz.func16,Tryz.ntmps16
 go_wp2
 go_loopg [3,4] k (fun kq v3 v4 w'=>∃(lK:Int) (jw:Int),v3=.int .i64 lK∧v4=.int .i64 jw∧aa (kN.l0 kq l0 lK jw=some (r1,r2,r3))∧aa (kq≤k)∧aa (Below w0.heap.size w0 w')∧aa (Below w.heap.size w w'))
 case atStart=>exact ⟨(wrap64 (28507+(l0.length:Int))),(0),bT,bT,H',⟨Nat.le_refl _⟩,⟨dn⟩,⟨aqg⟩⟩
 case round=>
  clear H';obtain ⟨lK,jw,rfl,rfl,HA,rF,HB,HBW⟩:=hrel
  cases gk with
  |zero=>exact absurd HA.o (by simp [kN.l0])
  |succ k1=>
   have H:=HA.o;clear HA;simp only[kN.l0] at H
   replace H:=iD H;obtain ⟨CY,-,H⟩|⟨CY,-,H⟩:=H
   ·simp only[Option.some.injEq,Prod.mk.injEq] at H;obtain ⟨rfl,rfl,rfl⟩:=H
    go_wp2_with (first|((with_reducible refine aG (N:=31) rfl ?_);refine bE 31 #[.slice A0 l0.length c0,.int .i64 0,.int .i64 lK] 72 (h:=?_);intro aaK hg wC hbox hb;have n_:=jA (ae HBW.o hb) (jA (ae dn hb) (jA (hbox) (jA ((ai8:w.heap.size≤aaK)) (jC ((Nat.le_trans HW0.o (ai8:w.heap.size≤aaK):w0.heap.size≤aaK))))));clear HBW HB;obtain ⟨HBW,HB,aIn,aIo,apx⟩:=n_;clear hb hbox hg))
    go_ret;exact ⟨_,rfl,(show ag w0 _ aaK l0 0 lK from ⟨_,_,by refine bP ?_;exact aIn.o,apx.o,t_.o⟩),by repeat (first|(with_reducible first|exact HB.o|apply bq|apply ak|apply aU|refine aJ ?_ apx.o)|exact HB.o),by repeat (first|(with_reducible first|exact HBW.o|apply bq|apply ak|apply aU|refine aJ ?_ aIo.o)|exact HBW.o)⟩
   replace H:=jD H;obtain ⟨rG,-,H⟩|⟨rG,-,H⟩:=H
   ·obtain ⟨qo,-,H⟩:=l5 H;have H':=jC H;clear H;obtain ⟨a5I,a5J,aZR,e311,aaL⟩:=gI t_.o jw
    cases e311
    replace aaL:=rH HB.o aaL
    go_wp2
    go_roundg k1
    case measure=>have:=rF.o;omega
    case rel=>exact ⟨(Go.bits .and .i64 (wrap64 ((wrap64 ((wrap64 (lK * 131))+(wrap64 (rd l0 jw))))+7)) 1073741823),(wrap64 (jw+1)),bT,bT,H',⟨vE⟩,⟨dn⟩,⟨aqg⟩⟩
   simp only[Option.some.injEq,Prod.mk.injEq] at H;obtain ⟨rfl,rfl,rfl⟩:=H
   go_wp2_with (first|((with_reducible refine aG (N:=31) rfl ?_);refine bE 31 #[.slice A0 l0.length c0,.int .i64 0,.int .i64 lK] 72 (h:=?_);intro aaM hg wC hbox hb;have n_:=jA (ae HBW.o hb) (jA (ae dn hb) (jA (hbox) (jA ((ai8:w.heap.size≤aaM)) (jC ((Nat.le_trans HW0.o (ai8:w.heap.size≤aaM):w0.heap.size≤aaM))))));clear HBW HB;obtain ⟨HBW,HB,aIp,aIq,apy⟩:=n_;clear hb hbox hg))
   go_ret;exact ⟨_,rfl,(show ag w0 _ aaM l0 0 lK from ⟨_,_,by refine bP ?_;exact aIp.o,apy.o,t_.o⟩),by repeat (first|(with_reducible first|exact HB.o|apply bq|apply ak|apply aU|refine aJ ?_ apy.o)|exact HB.o),by repeat (first|(with_reducible first|exact HBW.o|apply bq|apply ak|apply aU|refine aJ ?_ aIq.o)|exact HBW.o)⟩
def mi.f (k:Nat) (l0:List Int):Option (List ByteArray × ByteArray × (List (List Int)) × List Int):=(kN.f k l0).bind fun ahC=>((cB.f k ahC.1 ahC.2.1 ahC.2.2).bind fun aaN=>(some (aaN.1,aaN.2.1,aaN.2.2.1,aaN.2.2.2.1)))
theorem mi.calls {k:Nat} {A0:Option Addr} {c0:Nat} {l0:List Int} {r1:List ByteArray} {r2:ByteArray} {r3:List (List Int)} {r4:List Int} {w:World} (hr0:Kd.C (Kd.int .u8) w A0 l0.length l0) (hc0:l0.length≤c0) (h:mi.f k l0=some (r1,r2,r3,r4)):
  Calls Tryz.prog 5 #[.slice A0 l0.length c0] w fun e w'=>∃Ee Y1 Q7:Value,e=.returned (.agg #[Ee,.string r2,Y1,Q7])∧Kd.R Kd.string 9 w' w.heap.size (fun _=>True) Ee r1∧Kd.S (Kd.slice 3 (Kd.int .i64)) 26 w' w.heap.size (fun k_=>some k_≠(Q7:Value).ownBlock) Y1 r3∧Kd.R (Kd.int .i64) 3 w' w.heap.size (fun _=>True) Q7 r4∧Below w.heap.size w w':=by
 have NB:=Tryz.underlying28;have t_:=jC hr0;have BI:=jC hc0;clear hr0 hc0;have HB:=jC (Below.refl w.heap.size w);have H:=h;clear h;unfold mi.f at H;obtain ⟨⟨a5K,a5L,a5M⟩,A2,H⟩:=bd H
 try dsimp only at H
 obtain ⟨⟨aUE,aUF,aUG,aUH,a5N,a5O⟩,A3,H⟩:=bd H
 try dsimp only at H
 simp only[Option.some.injEq,Prod.mk.injEq] at H;obtain ⟨rfl,rfl,rfl,rfl⟩:=H;go_enter Tryz.func5,Tryz.ntmps5
 go_wp2_with (first|((with_reducible refine aG (N:=2) rfl ?_);refine bE 2 #[.slice none 0 0,.string (⟨#[]⟩:ByteArray),.slice none 0 0,.slice none 0 0] 28 (h:=?_);intro apz hg wC hbox hb;have n_:=jA (ae dn hb) (jA (hbox) (jC ((H6:w.heap.size≤apz))));clear HB;obtain ⟨HB,Cr,amO⟩:=n_;clear hb hbox hg)|(refine gC 4 Tryz.func16 #[.slice A0 l0.length c0] (kN.calls w _ ?ai ?aj ?fI A2.o) (h:=?_);(case ai=>repeat (first|(with_reducible first|exact HB.o|apply bq|apply ak|apply aU|refine aJ ?_ amO.o)|exact HB.o));(case aj=>exact t_.o);(case fI=>exact BI.o);rintro e wq2 ⟨gq3,rfl,hi,hb,avu⟩;refine ⟨_,rfl,?_⟩;have n_:=jA (dE Cr avu) (jA (hb) (jA (hi) (jA (ag.adX hi (dE Cr avu) au) (jC (Ne.symm (ag.adX hi (dE Cr avu) au))))));clear Cr HB;obtain ⟨Cr,HB,Ua,Qu,Qv⟩:=n_)|(refine gC 5 Tryz.func15 #[.pointer (some ⟨gq3,0,none⟩)] (cB.calls w _ ?ai ?aj A3.o) (h:=?_);(case ai=>repeat (first|(with_reducible first|exact Ua.o|apply ag.alloc|apply ag.drewN|apply ag.drew|apply ag.uZ|apply ag.yC|refine ag.far ?_ Qu.o _)|exact Ua.o));(case aj=>exact adr);rintro e wq5 ⟨vq6,vq7,vq8,rfl,atr,aIr,D5,hi,hb,hk⟩;refine ⟨_,rfl,?_⟩;have n_:=jA (uz hk Cr Qv.o gQ) (jA (Kd.dC atr (ah adr)) (jA (Kd.sZ aIr (ah adr)) (jA (Kd.dC D5 (ah adr)) (jA (hb) (jC (hi))))));clear Cr HB Ua;obtain ⟨Cr,apA,apB,apC,HB,Ua⟩:=n_;obtain ⟨Cj,Bc,NR⟩:=Kd.bR apA.o;subst NR;have XG:=Qv.o;have XH:=Qu.o;obtain ⟨_,_,_,_,_,_,_,_⟩:=cz Cr.o;obtain ⟨aIs,aIt,aIu⟩:=Kd.kX apB.o;subst aIu;obtain ⟨Gp,EW,VG⟩:=Kd.bR apC.o;subst VG))
 refine bodyPost_ret (results_cell_row rfl _ _ apz 28 #[.slice Cj aUE.length Bc,.string aUF,.slice aIs aUG.length aIt,.slice Gp aUH.length EW] (0,0) _ rfl (by refine bP ?_;exact sH (sH (sH (sH (Cr.o))))) Tryz.underlying28 rfl bD) rfl ?_;exact ⟨_,_,_,fT,by refine pR ?_;exact Kd.aD (hR1 apA.o Cr.o) o8,by refine pS ?_;exact fS4 apB.o Cr.o au,by refine pR ?_;exact Kd.aD (hR1 apC.o Cr.o) o8,adr⟩
def aT.f (l0:List ByteArray):Option (List ByteArray):=if l0.length * 16≤140737488355328 then some l0 else none
theorem aT.calls {A0:Option Addr} {c0:Nat} {l0:List ByteArray} {r:List ByteArray} {w:World} (hr0:Kd.C Kd.string w A0 l0.length l0) (hc0:l0.length≤c0) (h:aT.f l0=some r):
  Calls Tryz.prog 17 #[.slice A0 l0.length c0] w fun e w'=>∃Ee:Value,e=.returned (Ee)∧Kd.R Kd.string 9 w' w.heap.size (fun _=>True) Ee r∧Below w.heap.size w w':=by
 unfold aT.f at h
 by_cases hb:l0.length * 16≤140737488355328
 rotate_left
 ·rw[if_neg hb] at h;cases h
 rw[if_pos hb] at h;obtain rfl:=Option.some.inj h
 rcases Nat.eq_zero_or_pos l0.length with h0|h0
 ·obtain rfl:=List.length_eq_zero_iff.mp h0
  cases A0 with
  |none=>exact (Tryz.slices_Clone_string_nil _ _ w).mono fun e w' ⟨he,hw⟩=>⟨_,he,Kd.Np _ _ _ _ _,hw ▸ Below.refl _ _⟩
  |some a=>exact (Tryz.slices_Clone_string_zero a _ w).mono fun e w' ⟨v,he,ho,_,hb⟩=>⟨v,he,Kd.wV (enc:=Value.string) ho o8,hb⟩
 obtain ⟨_,_,hc'⟩:=hr0;obtain ⟨⟨b,off,f⟩,rfl,hc⟩:=hc' h0;clear hc'
 have hk:∀j,j<l0.length→w.cell? (if j=0 then ⟨b,off,f⟩ else ⟨b,off+j,none⟩)=some (.string (l0.getD j ByteArray.empty)):=by
  intro j hj;obtain ⟨c,_,hcr,hcell⟩:=hc j _ (List.getElem?_eq_getElem hj);have hcr:c=[Value.string l0[j]]:=hcr
  have:=hcell 0 (.string l0[j]) (by rw[hcr];rfl)
  simpa [Kd.string,Kd.scalar,Addr.add,List.getD,List.getElem?_eq_getElem hj] using this
 obtain rfl:f=none:=by
  have:=hk 0 h0
  cases f with
  |none=>rfl
  |some _=>
   simp only[if_true,World.cell?,Option.isSome_some] at this
   split at this<;>simp at this
 have hk:∀j,j<l0.length→w.cell? ⟨b,off+j,none⟩=some (.string (l0.getD j ByteArray.empty)):=by
  intro j hj
  have:=hk j hj
  by_cases e:j=0
  rotate_left
  ·rwa [if_neg e] at this
  subst e;simpa using this
 exact (Tryz.slices_Clone_string b off _ _ l0 w (Nat.le_refl _) hb hk).mono fun e w' ⟨v,he,ho,_,hb⟩=>⟨v,he,Kd.wV (enc:=Value.string) (by simpa [encs] using ho) o8,hb⟩
def il.l0:Nat→ByteArray→Int→Int→Option (Bool)
 |0,_,_,_=>none
 |k+1,x0,x6,x7=>if x7<x6 then (if 0≤x7 then (if x7<(x0.size:Int) then (if (bt x0 x7)≥97 then (if ((bt x0 x7)≤122) then (il.l0 k x0 x6 (wrap64 (x7+1))) else (if x7=0 then (some false) else (if (bt x0 x7)<48 then (some false) else (if (bt x0 x7)>57 then (some false) else (il.l0 k x0 x6 (wrap64 (x7+1))))))) else (if x7=0 then (some false) else (if (bt x0 x7)<48 then (some false) else (if (bt x0 x7)>57 then (some false) else (il.l0 k x0 x6 (wrap64 (x7+1))))))) else (none)) else (none)) else ((gp.f (x0.size:Int) 1 12).bind fun aIv=>(some aIv))
def il.f (k:Nat) (a0:ByteArray):Option (Bool):=il.l0 k a0 (a0.size:Int) 0
theorem il.calls {k:Nat} {a0:ByteArray} {r:Bool} {w:World} (h:il.f k a0=some r):
  Calls Tryz.prog 29 #[.string a0] w fun e w'=>e=.returned (.bool r)∧iI w w':=by
 have H:(il.l0 k a0 (a0.size:Int) 0)=some r:=h;clear h;have H':=jC H;clear H;go_enter Tryz.func29,Tryz.ntmps29
 go_wp2
 go_loopg [7] k (fun kq v7 w'=>∃(jS:Int),v7=.int .i64 jS∧aa (il.l0 kq a0 (a0.size:Int) jS=some r)∧aa (kq≤k)∧iI w w')
 case atStart=>exact ⟨(0),bT,H',⟨Nat.le_refl _⟩,jR⟩
 case round=>
  clear H';obtain ⟨jS,rfl,HA,rF,⟨m1,rfl⟩⟩:=hrel
  cases gk with
  |zero=>exact absurd HA.o (by simp [il.l0])
  |succ k1=>
   have H:=HA.o;clear HA;simp only[il.l0] at H
   replace H:=iD H;obtain ⟨CY,-,H⟩|⟨CY,-,H⟩:=H
   ·obtain ⟨aIv,A19,H⟩:=bd H;obtain rfl:=Option.some.inj H
    go_wp2_with (first|(refine gR 41 Tryz.func23 #[.int .i64 (a0.size:Int),.int .i64 1,.int .i64 12] (gp.calls A19.o) (h:=?_);rintro w' ⟨nd,rfl⟩))
    go_ret;exact ⟨bT,jR⟩
   obtain ⟨rG,-,H⟩:=l5 H;obtain ⟨qo,-,H⟩:=l5 H
   replace H:=iD H;obtain ⟨vU,-,H⟩|⟨vU,-,H⟩:=H
   ·replace H:=jE H;obtain ⟨Gf,Ql,-,H⟩|⟨Gf,Ql,c14,H⟩:=H
    ·obtain rfl:=Option.some.inj H;obtain ⟨p5,q5⟩:=uw (s:=a0) (i:=jS);have hx5:=d9 a0 jS
     go_wp2
     go_ret;exact ⟨bT,jR⟩
    replace H:=jD H;obtain ⟨Gg,-,H⟩|⟨Gg,-,H⟩:=H
    ·obtain rfl:=Option.some.inj H;obtain ⟨p5,q5⟩:=uw (s:=a0) (i:=jS);have hx5:=d9 a0 jS;obtain ⟨p15,q15⟩:=uw (s:=a0) (i:=jS);have aIw:=d9 a0 jS
     go_wp2
     go_ret;exact ⟨bT,jR⟩
    replace H:=jD H;obtain ⟨DN,-,H⟩|⟨DN,-,H⟩:=H
    ·obtain rfl:=Option.some.inj H;obtain ⟨p5,q5⟩:=uw (s:=a0) (i:=jS);have hx5:=d9 a0 jS;obtain ⟨p15,q15⟩:=uw (s:=a0) (i:=jS);have aIw:=d9 a0 jS;obtain ⟨p17,q17⟩:=uw (s:=a0) (i:=jS);have aUI:=d9 a0 jS
     go_wp2
     go_ret;exact ⟨bT,jR⟩
    have H':=jC H;clear H;obtain ⟨p5,q5⟩:=uw (s:=a0) (i:=jS);have hx5:=d9 a0 jS;obtain ⟨p15,q15⟩:=uw (s:=a0) (i:=jS);have aIw:=d9 a0 jS;obtain ⟨p17,q17⟩:=uw (s:=a0) (i:=jS);have aUI:=d9 a0 jS
    go_wp2
    go_roundg k1
    case measure=>have:=rF.o;omega
    case rel=>exact ⟨(wrap64 (jS+1)),bT,H',⟨vE⟩,jR⟩
   replace H:=jD H;obtain ⟨vV,-,H⟩|⟨vV,-,H⟩:=H
   ·have H':=jC H;clear H;obtain ⟨p5,q5⟩:=uw (s:=a0) (i:=jS);have hx5:=d9 a0 jS;obtain ⟨p7,q7⟩:=uw (s:=a0) (i:=jS);have hx7:=d9 a0 jS
    go_wp2
    go_roundg k1
    case measure=>have:=rF.o;omega
    case rel=>exact ⟨(wrap64 (jS+1)),bT,H',⟨vE⟩,jR⟩
   replace H:=jE H;obtain ⟨G6,ab5,-,H⟩|⟨G6,ab5,c9,H⟩:=H
   ·obtain rfl:=Option.some.inj H;obtain ⟨p5,q5⟩:=uw (s:=a0) (i:=jS);have hx5:=d9 a0 jS;obtain ⟨p7,q7⟩:=uw (s:=a0) (i:=jS);have hx7:=d9 a0 jS
    go_wp2
    go_ret;exact ⟨bT,jR⟩
   replace H:=jD H;obtain ⟨yA,-,H⟩|⟨yA,-,H⟩:=H
   ·obtain rfl:=Option.some.inj H;obtain ⟨p5,q5⟩:=uw (s:=a0) (i:=jS);have hx5:=d9 a0 jS;obtain ⟨p7,q7⟩:=uw (s:=a0) (i:=jS);have hx7:=d9 a0 jS;obtain ⟨p10,Zr⟩:=uw (s:=a0) (i:=jS);have Ro:=d9 a0 jS
    go_wp2
    go_ret;exact ⟨bT,jR⟩
   replace H:=jD H;obtain ⟨Qk,-,H⟩|⟨Qk,-,H⟩:=H
   ·obtain rfl:=Option.some.inj H;obtain ⟨p5,q5⟩:=uw (s:=a0) (i:=jS);have hx5:=d9 a0 jS;obtain ⟨p7,q7⟩:=uw (s:=a0) (i:=jS);have hx7:=d9 a0 jS;obtain ⟨p10,Zr⟩:=uw (s:=a0) (i:=jS);have Ro:=d9 a0 jS;obtain ⟨p12,q12⟩:=uw (s:=a0) (i:=jS);have alh:=d9 a0 jS
    go_wp2
    go_ret;exact ⟨bT,jR⟩
   have H':=jC H;clear H;obtain ⟨p5,q5⟩:=uw (s:=a0) (i:=jS);have hx5:=d9 a0 jS;obtain ⟨p7,q7⟩:=uw (s:=a0) (i:=jS);have hx7:=d9 a0 jS;obtain ⟨p10,Zr⟩:=uw (s:=a0) (i:=jS);have Ro:=d9 a0 jS;obtain ⟨p12,q12⟩:=uw (s:=a0) (i:=jS);have alh:=d9 a0 jS
   go_wp2
   go_roundg k1
   case measure=>have:=rF.o;omega
   case rel=>exact ⟨(wrap64 (jS+1)),bT,H',⟨vE⟩,jR⟩
def dB.l0:Nat→List ByteArray→ByteArray→Int→Int→Option (Int)
 |0,_,_,_,_=>none
 |k+1,x0,x1,x7,x8=>if x8<x7 then (if 0≤x8 then (if x8<(x0.length:Int) then (if x1.toList=(jg ByteArray.empty x0 x8).toList then (some x8) else (dB.l0 k x0 x1 x7 (wrap64 (x8+1)))) else (none)) else (none)) else (some (-1))
def dB.f (k:Nat) (l0:List ByteArray) (a1:ByteArray):Option (Int):=dB.l0 k l0 a1 (l0.length:Int) 0
theorem dB.calls {k:Nat} {A0:Option Addr} {c0:Nat} {l0:List ByteArray} {a1:ByteArray} {r:Int} {w:World} (hr0:Kd.C Kd.string w A0 l0.length l0) (hc0:l0.length≤c0) (h:dB.f k l0 a1=some r):
  Calls Tryz.prog 66 #[.slice A0 l0.length c0,.string a1] w fun e w'=>e=.returned (.int .i64 r)∧iI w w':=by
 have t_:=jC hr0;have BI:=jC hc0;clear hr0 hc0;have H:=h;clear h;unfold dB.f at H;have H':=jC H;clear H;go_enter Tryz.func66,Tryz.ntmps66
 go_wp2
 go_loopg [8] k (fun kq v8 w'=>∃(G8:Int),v8=.int .i64 G8∧aa (dB.l0 kq l0 a1 (l0.length:Int) G8=some r)∧aa (kq≤k)∧iI w w')
 case atStart=>exact ⟨(0),bT,H',⟨Nat.le_refl _⟩,jR⟩
 case round=>
  clear H';obtain ⟨G8,rfl,HA,rF,⟨m1,rfl⟩⟩:=hrel
  cases gk with
  |zero=>exact absurd HA.o (by simp [dB.l0])
  |succ k1=>
   have H:=HA.o;clear HA;simp only[dB.l0] at H
   replace H:=iD H;obtain ⟨rG,-,H⟩|⟨rG,-,H⟩:=H
   ·obtain rfl:=Option.some.inj H
    go_wp2
    go_ret;exact ⟨bT,jR⟩
   obtain ⟨qo,-,H⟩:=l5 H;obtain ⟨oZ,-,H⟩:=l5 H
   replace H:=jE H;obtain ⟨vU,Us,-,H⟩|⟨vU,Us,c6,H⟩:=H
   ·obtain rfl:=Option.some.inj H;obtain ⟨aUJ,aUK,aIx,e332,alU⟩:=gS t_.o G8
    cases e332
    go_wp2
    go_ret;exact ⟨bT,jR⟩
   have H':=jC H;clear H;obtain ⟨aUJ,aUK,aIx,e332,alU⟩:=gS t_.o G8
   cases e332
   go_wp2
   go_roundg k1
   case measure=>have:=rF.o;omega
   case rel=>exact ⟨(wrap64 (G8+1)),bT,H',⟨vE⟩,jR⟩
def eO.f (k:Nat) (l0:List ByteArray) (a1:ByteArray):Option (Bool):=(dB.f k l0 a1).bind fun aIy=>(some (decide (aIy≥0)))
theorem eO.calls {k:Nat} {A0:Option Addr} {c0:Nat} {l0:List ByteArray} {a1:ByteArray} {r:Bool} {w:World} (hr0:Kd.C Kd.string w A0 l0.length l0) (hc0:l0.length≤c0) (h:eO.f k l0 a1=some r):
  Calls Tryz.prog 30 #[.slice A0 l0.length c0,.string a1] w fun e w'=>e=.returned (.bool r)∧iI w w':=by
 have t_:=jC hr0;have BI:=jC hc0;clear hr0 hc0;have H:=h;clear h;unfold eO.f at H;obtain ⟨aIy,A3,H⟩:=bd H;obtain rfl:=Option.some.inj H;go_enter Tryz.func30,Tryz.ntmps30
 go_wp2_with (first|(refine gR 7 Tryz.func66 #[.slice A0 l0.length c0,.string a1] (dB.calls ?ai ?aj A3.o) (h:=?_);(case ai=>exact Ub);(case aj=>exact BI.o);rintro w' ⟨nd,rfl⟩))
 go_ret;exact ⟨bT,jR⟩
def gX.l0:Nat→List ByteArray→List ByteArray→Int→Int→Option (Bool)
 |0,_,_,_,_=>none
 |k+1,x0,x5,x6,x7=>if x7<x6 then (if 0≤x7 then (if x7<(x5.length:Int) then ((il.f k (jg ByteArray.empty x5 x7)).bind fun aIz=>(if aIz=true then (if x7≤(x0.length:Int) then ((eO.f k (x0.take (x7:Int).toNat) (jg ByteArray.empty x5 x7)).bind fun aIA=>(if aIA=true then (some false) else (gX.l0 k x0 x5 x6 (wrap64 (x7+1))))) else (none)) else (some false))) else (none)) else (none)) else (some true)
def gX.f (k:Nat) (l0:List ByteArray):Option (Bool):=gX.l0 k l0 l0 (l0.length:Int) 0
theorem gX.calls {k:Nat} {A0:Option Addr} {c0:Nat} {l0:List ByteArray} {r:Bool} {w:World} (hr0:Kd.C Kd.string w A0 l0.length l0) (hc0:l0.length≤c0) (h:gX.f k l0=some r):
  Calls Tryz.prog 24 #[.slice A0 l0.length c0] w fun e w'=>e=.returned (.bool r)∧iI w w':=by
 have t_:=jC hr0;have BI:=jC hc0;clear hr0 hc0;have H:=h;clear h;unfold gX.f at H;have H':=jC H;clear H;go_enter Tryz.func24,Tryz.ntmps24
 go_wp2
 go_loopg [7] k (fun kq v7 w'=>∃(jS:Int),v7=.int .i64 jS∧aa (gX.l0 kq l0 l0 (l0.length:Int) jS=some r)∧aa (kq≤k)∧iI w w')
 case atStart=>exact ⟨(0),bT,H',⟨Nat.le_refl _⟩,jR⟩
 case round=>
  clear H';obtain ⟨jS,rfl,HA,rF,⟨m1,rfl⟩⟩:=hrel
  cases gk with
  |zero=>exact absurd HA.o (by simp [gX.l0])
  |succ k1=>
   have H:=HA.o;clear HA;simp only[gX.l0] at H
   replace H:=iD H;obtain ⟨CY,-,H⟩|⟨CY,-,H⟩:=H
   ·obtain rfl:=Option.some.inj H
    go_wp2
    go_ret;exact ⟨bT,jR⟩
   obtain ⟨rG,-,H⟩:=l5 H;obtain ⟨qo,-,H⟩:=l5 H;obtain ⟨aIz,A5,H⟩:=bd H
   replace H:=iB H;obtain ⟨rfl,H⟩|⟨rfl,H⟩:=H
   ·obtain rfl:=Option.some.inj H;obtain ⟨aIB,aIC,aaO,e334,aaP⟩:=gS t_.o jS
    cases e334
    go_wp2_with (first|(refine gR 13 Tryz.func29 #[.string (jg ByteArray.empty l0 jS)] (il.calls A5.o) (h:=?_);rintro w' ⟨nd,rfl⟩))
    go_ret;exact ⟨bT,jR⟩
   have D9:=fO (oT bL:0≤jS);obtain ⟨c8,H⟩:=nD H;have vV:=fO c8;have FU:=rM c8;clear c8;obtain ⟨aIA,A9,H⟩:=bd H
   replace H:=jB H;obtain ⟨rfl,H⟩|⟨rfl,H⟩:=H
   ·obtain rfl:=Option.some.inj H;obtain ⟨aIB,aIC,aaO,e334,aaP⟩:=gS t_.o jS
    cases e334
    go_wp2_with (first|(refine gR 13 Tryz.func29 #[.string (jg ByteArray.empty l0 jS)] (il.calls A5.o) (h:=?_);rintro w' ⟨nd,rfl⟩;obtain ⟨iq1,afd,_,NM,_⟩:=info_parts l_;obtain ⟨XI,afe,aff⟩:=nZ (P:=Tryz.prog) Value.string (⟨#[]⟩:ByteArray) 24 9 .i64 Tryz.underlying24 afd NM (some aaO) c0 l0 jS (oT bL) (oT bL) BI.o;have amR:=jC (Kd.qi (h1:=fun _=>rfl) (afe _ (Kd.oW t_.o)));have ahD:=jC aff;clear afe aff afd NM)|(go_at_call 30;(with_reducible refine rf (xs:=l0) (j:=jS) (oT bL) (oT bL) ((eO.calls ?ai ?aj A9.o).mono ?_));(case ai=>exact axE);(case aj=>exact ahD.o);rintro e w' ⟨rfl,⟨nd,rfl⟩⟩))
    go_ret;exact ⟨bT,jR⟩
   have H':=jC H;clear H;obtain ⟨aIB,aIC,aaO,e334,aaP⟩:=gS t_.o jS
   cases e334
   go_wp2_with (first|(refine gR 13 Tryz.func29 #[.string (jg ByteArray.empty l0 jS)] (il.calls A5.o) (h:=?_);rintro w' ⟨nd,rfl⟩;obtain ⟨a5S,apD,_,apE,_⟩:=info_parts l_;obtain ⟨aUL,aID,aIE⟩:=nZ (P:=Tryz.prog) Value.string (⟨#[]⟩:ByteArray) 24 9 .i64 Tryz.underlying24 apD apE (some aaO) c0 l0 jS (oT bL) (oT bL) BI.o;have amR:=jC (Kd.qi (h1:=fun _=>rfl) (aID _ (Kd.oW t_.o)));have ahD:=jC aIE;clear aID aIE apD apE)|(go_at_call 30;(with_reducible refine rf (xs:=l0) (j:=jS) (oT bL) (oT bL) ((eO.calls ?ai ?aj A9.o).mono ?_));(case ai=>exact axE);(case aj=>exact ahD.o);rintro e w' ⟨rfl,⟨nd,rfl⟩⟩))
   go_roundg k1
   case measure=>have:=rF.o;omega
   case rel=>exact ⟨(wrap64 (jS+1)),bT,H',⟨vE⟩,jR⟩
section
def bv.l0:Nat→List Int→Int→Int→Option (Int)
 |0,_,_,_=>none
 |k+1,x0,x7,x8=>if x8<x7 then (if 0≤x8 then (if x8<(x0.length:Int) then ((kw.f (rd x0 x8)).bind fun aIF=>(if aIF=true then (some x8) else (bv.l0 k x0 x7 (wrap64 (x8+1))))) else (none)) else (none)) else (some (-1))
def bv.f (k:Nat) (l0:List Int) (a1:Unit):Option (Int):=bv.l0 k l0 (l0.length:Int) 0
set_option maxHeartbeats 8000000 in
set_option maxRecDepth 100000 in
theorem bv.calls (k:Nat) (A0:Option Addr) (c0:Nat) (l0:List Int) (a1:Unit) (r:Int) (w:World) (hr0:Kd.C (Kd.int .i64) w A0 l0.length l0) (hc0:l0.length≤c0) (h:bv.f k l0 a1=some r):
  Calls Tryz.prog 83 #[.slice A0 l0.length c0,.func (.func 61) #[] #[]] w fun e w'=>e=.returned (.int .i64 r)∧iI w w':=by
 have t_:=jC hr0;have BI:=jC hc0;clear hr0 hc0;have H:=h;clear h;unfold bv.f at H;have H':=jC H;clear H;go_enter Tryz.func83,Tryz.ntmps83
 go_wp2
 go_loopg [8] k (fun kq v8 w'=>∃(G8:Int),v8=.int .i64 G8∧aa (bv.l0 kq l0 (l0.length:Int) G8=some r)∧aa (kq≤k)∧iI w w')
 case atStart=>exact ⟨(0),bT,H',⟨Nat.le_refl _⟩,jR⟩
 case round=>
  clear H';obtain ⟨G8,rfl,HA,rF,⟨m1,rfl⟩⟩:=hrel
  cases gk with
  |zero=>exact absurd HA.o (by simp [bv.l0])
  |succ k1=>
   have H:=HA.o;clear HA;simp only[bv.l0] at H
   replace H:=iD H;obtain ⟨rG,-,H⟩|⟨rG,-,H⟩:=H
   ·obtain rfl:=Option.some.inj H
    go_wp2
    go_ret;exact ⟨bT,jR⟩
   obtain ⟨qo,-,H⟩:=l5 H;obtain ⟨oZ,-,H⟩:=l5 H;obtain ⟨aIF,A6,H⟩:=bd H
   replace H:=jB H;obtain ⟨rfl,H⟩|⟨rfl,H⟩:=H
   ·obtain rfl:=Option.some.inj H;obtain ⟨aUM,aUN,aIG,avv,alV⟩:=gI t_.o G8
    cases avv
    go_wp2_with (first|(go_at_call 61;(with_reducible refine (kw.calls (rd l0 G8) true _ A6.o).mono ?_);rintro e w' ⟨rfl,⟨nd,rfl⟩⟩))
    go_ret;exact ⟨bT,jR⟩
   have H':=jC H;clear H;obtain ⟨aUM,aUN,aIG,avv,alV⟩:=gI t_.o G8
   cases avv
   go_wp2_with (first|(go_at_call 61;(with_reducible refine (kw.calls (rd l0 G8) false _ A6.o).mono ?_);rintro e w' ⟨rfl,⟨nd,rfl⟩⟩))
   go_roundg k1
   case measure=>have:=rF.o;omega
   case rel=>exact ⟨(wrap64 (G8+1)),bT,H',⟨vE⟩,jR⟩
def iH.f (k:Nat) (l0:List Int) (a1:Unit):Option (Bool):=(bv.f k l0 a1).bind fun avw=>(some (decide (avw≥0)))
set_option maxHeartbeats 8000000 in
set_option maxRecDepth 100000 in
theorem iH.calls (k:Nat) (A0:Option Addr) (c0:Nat) (l0:List Int) (a1:Unit) (r:Bool) (w:World) (hr0:Kd.C (Kd.int .i64) w A0 l0.length l0) (hc0:l0.length≤c0) (h:iH.f k l0 a1=some r):
  Calls Tryz.prog 60 #[.slice A0 l0.length c0,.func (.func 61) #[] #[]] w fun e w'=>e=.returned (.bool r)∧iI w w':=by
 have t_:=jC hr0;have BI:=jC hc0;clear hr0 hc0;have H:=h;clear h;unfold iH.f at H;obtain ⟨avw,A3,H⟩:=bd H;obtain rfl:=Option.some.inj H;go_enter Tryz.func60,Tryz.ntmps60
 go_wp2_with (first|((with_reducible refine yS (f:=83) rfl ?_);refine JM (some 7) rfl rfl Tryz.func83 bD rfl #[.slice A0 l0.length c0,.func (.func 61) #[] #[]] rfl ql ?_;(with_reducible refine (bv.calls k _ _ l0 a1 avw _ ?ai ?aj A3.o).mono ?_);(case ai=>exact Ub);(case aj=>exact BI.o);rintro e w' ⟨rfl,⟨nd,rfl⟩⟩;refine ⟨_,rfl,?_⟩))
 go_ret;exact ⟨bT,jR⟩
def jV.f (k:Nat) (l0:List Int):Option (Bool):=(iH.f k l0 ()).bind fun avx=>(some (!avx))
set_option maxHeartbeats 8000000 in
set_option maxRecDepth 100000 in
theorem jV.calls {k:Nat} {A0:Option Addr} {c0:Nat} {l0:List Int} {r:Bool} {w:World} (hr0:Kd.C (Kd.int .i64) w A0 l0.length l0) (hc0:l0.length≤c0) (h:jV.f k l0=some r):
  Calls Tryz.prog 25 #[.slice A0 l0.length c0] w fun e w'=>e=.returned (.bool r)∧iI w w':=by
 have t_:=jC hr0;have BI:=jC hc0;clear hr0 hc0;have H:=h;clear h;unfold jV.f at H;obtain ⟨avx,A2,H⟩:=bd H;obtain rfl:=Option.some.inj H;go_enter Tryz.func25,Tryz.ntmps25
 go_wp2_with (first|((with_reducible refine yS (f:=60) rfl ?_);refine JM (some 4) rfl rfl Tryz.func60 bD rfl #[.slice A0 l0.length c0,.func (.func 61) #[] #[]] rfl ql ?_;(with_reducible refine (iH.calls k _ _ l0 () avx _ ?ai ?aj A2.o).mono ?_);(case ai=>exact Ub);(case aj=>exact BI.o);rintro e w' ⟨rfl,⟨nd,rfl⟩⟩;refine ⟨_,rfl,?_⟩))
 go_ret;exact ⟨bT,jR⟩
def aH.dc (x:Int):Bool:=decide (-2147483647≤x∧x≤2147483647)
theorem aH.aIH (x:Int):kw.f x=some (!aH.dc x):=by
 unfold kw.f eP.f gp.f aH.dc
 by_cases h:x≥-2147483647
 rotate_left
 ·rw[if_neg h];simp only[Option.bind_some]
  congr 2
  simp
  omega
 rw[if_pos h];simp only[Option.bind_some]
 congr 2
 by_cases h2:x≤2147483647<;>simp [h2]<;>omega
theorem aH.xg {x:Int} (h1:-9223372036854775808≤x) (h2:x≤9223372036854775807):wrap64 x=x:=by unfold wrap64;omega
theorem aH.idx (l:List Int) (hl:l.length≤9223372036854775807):∀d n:Nat,n+d=l.length→∃r:Int,bv.l0 (d+1) l (l.length:Int) (n:Int)=some r∧decide (r≥0)= !((l.drop n).all aH.dc):=by
 intro d
 induction d with
 |zero=>
  intro n hn
  obtain rfl:n=l.length:=by omega
  refine ⟨-1,?_,gQ⟩;simp only[bv.l0];rw[if_neg bG]
 |succ d ih=>
  intro n hn
  have hlt:n<l.length:=by omega
  have er:rd l (n:Int)=l[n]:=by unfold rd;simp [List.getD,List.getElem?_eq_getElem hlt]
  have ed:l.drop n=l[n]::l.drop (n+1):=List.drop_eq_getElem_cons hlt;obtain ⟨r,e,hr⟩:=ih (n+1) bG;generalize d+1=m at e ⊢
  have hw:wrap64 ((n:Int)+1)=((n+1:Nat):Int):=by rw[aH.xg bG bG];rfl
  by_cases h:aH.dc l[n]=true
  rotate_left
  ·have h:=Bool.eq_false_iff.mpr h;refine ⟨(n:Int),?_,by rw[ed,List.all_cons,h,Bool.false_and];simp⟩;simp only[bv.l0];rw[if_pos bG,if_pos bG,if_pos bG,er,aH.aIH,h]
   rfl
  refine ⟨r,?_,by rw[ed,List.all_cons,h,Bool.true_and];exact hr⟩;simp only[bv.l0];rw[if_pos bG,if_pos bG,if_pos bG,er,aH.aIH,h];rw[Option.bind_some,Bool.not_true,if_neg Bool.false_ne_true,hw];exact e
theorem aH.aUO (l:List Int) (hl:l.length≤9223372036854775807):jV.f (l.length+1) l=some (l.all aH.dc):=by
 obtain ⟨r,e,hr⟩:=aH.idx l hl l.length 0 bG;unfold jV.f iH.f bv.f;have e':bv.l0 (l.length+1) l (l.length:Int) 0=some r:=e;rw[e'];simp only[Option.bind_some];rw[hr,List.drop_zero,Bool.not_not]
def aH.bad (n:Nat) (row:List Int):Bool:=decide ((row.length:Int)≠(n:Int))|| !(row.all aH.dc)
theorem aH.ada {n:Nat} {row:List Int} (e:(row.length:Int)≠(n:Int)):aH.bad n row=true:=by unfold aH.bad;rw[rM e,Bool.true_or]
theorem aH.bad_eq {n:Nat} {row:List Int} (e:(row.length:Int)=(n:Int)):aH.bad n row= !(row.all aH.dc):=by unfold aH.bad;rw[M_ (fun h=>h e),Bool.false_or]
def aH.f (l0:List (List Int)) (l1:List ByteArray):Option (Bool):=some (l0.any (aH.bad l1.length))
set_option maxHeartbeats 4000000 in
theorem aH.at1 (g:Nat) (A1:Option Addr) (c1 n:Nat) (A:Option Addr) (c:Nat) (row:List Int) (w:World) (hx:w.cell? ⟨g,0,none⟩=some (.slice A1 n c1)) (hn:((row.length:Int) !=(n:Int))=true):
  Calls Tryz.prog 27 #[.slice A row.length c,.pointer (some ⟨g,0,none⟩)] w fun e w'=>e=.returned (.bool true)∧iI w w':=by
 go_enter Tryz.func27,Tryz.ntmps27
 go_wp2_with (fail)
 go_ret;exact ⟨bT,jR⟩
set_option maxHeartbeats 4000000 in
theorem aH.at2 (k:Nat) (g:Nat) (A1:Option Addr) (c1 n:Nat) (A:Option Addr) (c:Nat) (row:List Int) (w:World) (hx:w.cell? ⟨g,0,none⟩=some (.slice A1 n c1)) (hr:Kd.C (Kd.int .i64) w A row.length row) (hc:row.length≤c) (q:Bool) (hq:jV.f k row=some q) (hn:((row.length:Int) !=(n:Int))=false):
  Calls Tryz.prog 27 #[.slice A row.length c,.pointer (some ⟨g,0,none⟩)] w fun e w'=>e=.returned (.bool (!q))∧iI w w':=by
 have A2:=jC hq;have HR:=jC hr;have HC:=jC hc;clear hq hr hc;go_enter Tryz.func27,Tryz.ntmps27
 go_wp2_with (first|((with_reducible refine yS (f:=25) rfl ?_);(try (refine cO ek ?_;dsimp only));refine JM (some 12) rfl rfl Tryz.func25 bD rfl #[.slice A row.length c] rfl (by (try simp only[List.map_toArray,List.map_cons,List.map_nil]);first|done|rfl) ?_;(with_reducible refine (jV.calls HR.o HC.o A2.o).mono ?_);rintro e w' ⟨rfl,⟨nd,rfl⟩⟩;refine ⟨_,rfl,?_⟩))
 go_ret;exact ⟨bT,jR⟩
def aH.El (w:World):Type:={x:Option Addr × Nat × List Int // x.2.2.length≤x.2.1∧Kd.C (Kd.int .i64) w x.1 x.2.2.length x.2.2}
instance (w:World):Inhabited (aH.El w):=⟨⟨(none,0,[]),Nat.le_refl _,rfl,gQ,fun h=>absurd h gQ⟩⟩
def aH.enc (w:World) (x:aH.El w):Value:=.slice x.1.1 x.1.2.2.length x.1.2.1
theorem aH.calls (A0:Option Addr) (c0:Nat) (l0:List (List Int)) (g:Nat) (A1:Option Addr) (c1:Nat) (l1:List ByteArray) (r:Bool) (w:World) (hr0:Kd.C (Kd.slice 3 (Kd.int .i64)) w A0 l0.length l0) (hc0:l0.length≤c0) (hx:w.cell? ⟨g,0,none⟩=some (.slice A1 l1.length c1)) (h:aH.f l0 l1=some r):
  Calls Tryz.prog 26 #[.slice A0 l0.length c0,.func (.func 27) #[] #[.pointer (some ⟨g,0,none⟩)]] w fun e w'=>e=.returned (.bool r)∧Below w.heap.size w w':=by
 unfold aH.f at h;obtain rfl:=Option.some.inj h;obtain ⟨_,hn,hc'⟩:=hr0
 rcases Nat.eq_zero_or_pos l0.length with h0|h0
 ·obtain rfl:=List.length_eq_zero_iff.mp h0
  exact (Tryz.yV (α:=Int) A0 c0 _ w).mono fun e w' ⟨he,hw⟩=>⟨he,hw ▸ Below.refl _ _⟩
 obtain ⟨⟨b,off,f⟩,rfl,hc⟩:=hc' h0;clear hc'
 have hk:∀i:Fin l0.length,∃x:aH.El w,x.1.2.2=l0[i]∧w.cell? (if i.1=0 then ⟨b,off,f⟩ else ⟨b,off+i.1,none⟩)=some (aH.enc w x):=by
  intro i;obtain ⟨c,_,hcr,hcell⟩:=hc i.1 _ (List.getElem?_eq_getElem i.2);obtain ⟨A,cc,rfl,hle,hC⟩:=hcr;refine ⟨⟨(A,cc,l0[i]),hle,hC⟩,rfl,?_⟩
  have:=hcell 0 _ rfl
  simpa [Kd.slice,Addr.add,aH.enc] using this
 obtain rfl:f=none:=by
  obtain ⟨x,_,this⟩:=hk ⟨0,h0⟩
  cases f with
  |none=>rfl
  |some _=>
   simp only[if_true,World.cell?,Option.isSome_some] at this
   split at this<;>simp at this
 have hk:∀i:Fin l0.length,∃x:aH.El w,x.1.2.2=l0[i]∧w.cell? ⟨b,off+i.1,none⟩=some (aH.enc w x):=by
  intro i;obtain ⟨x,e,this⟩:=hk i;refine ⟨x,e,?_⟩
  by_cases e0:i.1=0
  rotate_left
  ·rwa [if_neg e0] at this
  rw[if_pos e0] at this;rw[e0];exact this
 let zs:List (aH.El w):=List.ofFn fun i=>(hk i).choose
 have hzl:zs.length=l0.length:=List.length_ofFn
 have hzg:∀j (hj:j<l0.length),zs[j]! =(hk ⟨j,hj⟩).choose:=by
  intro j hj;rw[getElem!_pos zs j bG];exact List.getElem_ofFn _
 have hmap:zs.map (fun x=>x.1.2.2)=l0:=by
  apply List.ext_getElem (by simpa using hzl);intro j h1 h2;rw[List.getElem_map,List.getElem_ofFn];exact (hk ⟨j,h2⟩).choose_spec.1
 have hp:PredAt Tryz.prog 27 #[.pointer (some ⟨g,0,none⟩)] (aH.enc w) (fun x=>aH.bad l1.length x.1.2.2) w:=by
  intro W x hb;have hx':=(hb.cell (World.block_lt_of_cell? _ _ hx)).trans hx;obtain ⟨⟨A,c,row⟩,hle,hC⟩:=x;have hC':=Kd.kR hC hb;have hlen:row.length≤9223372036854775807:=hC.2.1
  by_cases e:(row.length:Int)=(l1.length:Int)
  rotate_left
  ·refine (aH.at1 g A1 c1 l1.length A c row W hx' (bne_iff_ne.mpr e)).mono fun e_ w' ⟨he,hd⟩=>⟨?_,hd.out⟩
   rw[he]
   congr 2
   exact (aH.ada e).symm
  refine (aH.at2 (row.length+1) g A1 c1 l1.length A c row W hx' hC' hle _ (aH.aUO row hlen) (bne_eq_false_iff_eq.mpr e)).mono fun e_ w' ⟨he,hd⟩=>⟨?_,hd.out⟩
  rw[he]
  congr 2
  exact (aH.bad_eq e).symm
 refine (Tryz.Cs (aH.enc w) _ 27 _ (fun args w=>SC Tryz.func27 bD rfl args w) b off l0.length c0 zs w hp bG hn (fun j hj=>by rw[hzg j bG];exact (hk ⟨j,bG⟩).choose_spec.2)).mono fun e w' ⟨he,q,hw⟩=>?_
 rw[show zs.take l0.length=zs from List.take_of_length_le bG,show zs.any (fun x=>aH.bad l1.length x.1.2.2)=(zs.map (fun x=>x.1.2.2)).any (aH.bad l1.length) from by rw[List.any_map];rfl,hmap] at he;refine ⟨he,?_⟩;rw[hw];exact ak (Below.refl _ _) q
end
end Go.Proofs.YtkjbbnijhpldhaaGreatDoor.QFnTable
