/- The machine side of FnTable: what each Go function that it reaches comes to. Conditions: none. -/
import Derived.Test.YtkjbbnijhpldhaaGreatDoorQFnTablex0
namespace Go.Proofs.YtkjbbnijhpldhaaGreatDoor.QFnTable
open Go.RowKit Go.Proofs.YtkjbbnijhpldhaaGreatDoorW.PrintWords Go.Proofs.YtkjbbnijhpldhaaGreatDoorW.PrintLast Go.Proofs.YtkjbbnijhpldhaaGreatDoorW.PrintMore
attribute [local go_sem] oq ou qN qO mr mD ow oz
set_option linter.unusedVariables false
set_option linter.unusedSimpArgs false
theorem am1 (d:Nat) (w:World) (x0 y0:Int) (x1 y1:Int) (x2 y2:Int):
  (Op.equalIn (d+2) 33 (.agg #[.int .i64 x0,.int .i64 x1,.int .i64 x2]) (.agg #[.int .i64 y0,.int .i64 y1,.int .i64 y2])).run Tryz.prog w=.ok (x0==y0 && (x1==y1 && (x2==y2))) w:=by
 refine aqY Tryz.underlying33 bD ?_;refine Ur ek abM abM (by go_simp) ?_;refine Ur ek abM abM (by go_simp) ?_;exact adV ek abM abM (by go_simp)
section
set_option maxHeartbeats 8000000
set_option maxRecDepth 100000
def gp.f (a0:Int) (a1:Int) (a2:Int):Option (Bool):=if a0≥a1 then (some (decide (a0≤a2))) else (some false)
theorem gp.calls {a0:Int} {a1:Int} {a2:Int} {r:Bool} {w:World} (h:gp.f a0 a1 a2=some r):
  Calls Tryz.prog 23 #[.int .i64 a0,.int .i64 a1,.int .i64 a2] w fun e w'=>e=.returned (.bool r)∧iI w w':=by
 have H:=h;clear h;unfold gp.f at H
 replace H:=jD H;obtain ⟨qo,-,H⟩|⟨qo,-,H⟩:=H
 ·obtain rfl:=Option.some.inj H;go_enter Tryz.func23,Tryz.ntmps23
  go_wp2
  go_ret;exact ⟨bT,jR⟩
 obtain rfl:=Option.some.inj H;go_enter Tryz.func23,Tryz.ntmps23
 go_wp2
 go_ret;exact ⟨bT,jR⟩
def eP.f (a0:Int):Option (Bool):=(gp.f a0 (-2147483647) 2147483647).bind fun ayQ=>(some ayQ)
theorem eP.calls {a0:Int} {r:Bool} {w:World} (h:eP.f a0=some r):
  Calls Tryz.prog 54 #[.int .i64 a0] w fun e w'=>e=.returned (.bool r)∧iI w w':=by
 have H:=h;clear h;unfold eP.f at H;obtain ⟨ayQ,A2,H⟩:=bd H;obtain rfl:=Option.some.inj H;go_enter Tryz.func54,Tryz.ntmps54
 go_wp2_with (first|(refine gR 4 Tryz.func23 #[.int .i64 a0,.int .i64 (-2147483647),.int .i64 2147483647] (gp.calls A2.o) (h:=?_);rintro w' ⟨nd,rfl⟩))
 go_ret;exact ⟨bT,jR⟩
def kw.f (a0:Int):Option (Bool):=(eP.f a0).bind fun ayR=>(some (!ayR))
theorem kw.calls (a0:Int) (r:Bool) (w:World) (h:kw.f a0=some r):
  Calls Tryz.prog 61 #[.int .i64 a0] w fun e w'=>e=.returned (.bool r)∧iI w w':=by
 have H:=h;clear h;unfold kw.f at H;obtain ⟨ayR,A2,H⟩:=bd H;obtain rfl:=Option.some.inj H;go_enter Tryz.func61,Tryz.ntmps61
 go_wp2_with (first|(refine gR 4 Tryz.func54 #[.int .i64 a0] (eP.calls A2.o) (h:=?_);rintro w' ⟨nd,rfl⟩))
 go_ret;exact ⟨bT,jR⟩
def dX.l0:Nat→List Int→List Int→Int→Int→Option (Bool)
 |0,_,_,_,_=>none
 |k+1,x0,x1,x12,Ma=>if Ma<x12 then (if 0≤Ma then (if Ma<(x0.length:Int) then (if Ma<(x1.length:Int) then (if (rd x0 Ma)=(rd x1 Ma) then (dX.l0 k x0 x1 x12 (wrap64 (Ma+1))) else (some false)) else (none)) else (none)) else (none)) else (some true)
def dX.f (k:Nat) (l0:List Int) (l1:List Int):Option (Bool):=if (l0.length:Int)=(l1.length:Int) then (dX.l0 k l0 l1 (l0.length:Int) 0) else (some false)
theorem dX.calls {k:Nat} {A0:Option Addr} {c0:Nat} {l0:List Int} {A1:Option Addr} {c1:Nat} {l1:List Int} {r:Bool} {w:World} (hr0:Kd.C (Kd.int .i64) w A0 l0.length l0) (hc0:l0.length≤c0) (hr1:Kd.C (Kd.int .i64) w A1 l1.length l1) (hc1:l1.length≤c1) (h:dX.f k l0 l1=some r):
  Calls Tryz.prog 38 #[.slice A0 l0.length c0,.slice A1 l1.length c1] w fun e w'=>e=.returned (.bool r)∧iI w w':=by
 have t_:=jC hr0;have BI:=jC hc0;clear hr0 hc0;have HR1:=jC hr1;have HC1:=jC hc1;clear hr1 hc1;have H:=h;clear h;unfold dX.f at H
 replace H:=iE H;obtain ⟨rG,Av,c3,H⟩|⟨rG,Av,c3,H⟩:=H
 ·have Q5:(l0.length==l1.length)=false:=by first|simpa using c3|(simp at c3 ⊢;omega)
  obtain rfl:=Option.some.inj H;go_enter Tryz.func38,Tryz.ntmps38
  go_wp2
  repeat (go_quiet (fail);try go_wp2)
  go_ret;exact ⟨bT,jR⟩
 have Q5:(l0.length==l1.length)=true:=by first|simpa using c3|(simp at c3 ⊢;omega)
 clear c3;have H':=jC H;clear H;go_enter Tryz.func38,Tryz.ntmps38
 go_wp2
 repeat (go_quiet (fail);try go_wp2)
 go_loopg [13] k (fun kq v13 w'=>∃(yF:Int),v13=.int .i64 yF∧aa (dX.l0 kq l0 l1 (l0.length:Int) yF=some r)∧aa (kq≤k)∧iI w w')
 case atStart=>exact ⟨(0),bT,H',⟨Nat.le_refl _⟩,jR⟩
 case round=>
  clear H';obtain ⟨yF,rfl,HA,rF,⟨m1,rfl⟩⟩:=hrel
  cases gk with
  |zero=>exact absurd HA.o (by simp [dX.l0])
  |succ k1=>
   have H:=HA.o;clear HA;simp only[dX.l0] at H
   replace H:=iD H;obtain ⟨qo,-,H⟩|⟨qo,-,H⟩:=H
   ·obtain rfl:=Option.some.inj H
    go_wp2
    repeat (go_quiet (fail);try go_wp2)
    go_ret;exact ⟨bT,jR⟩
   obtain ⟨oZ,-,H⟩:=l5 H;obtain ⟨vU,-,H⟩:=l5 H;obtain ⟨D9,-,H⟩:=l5 H
   replace H:=iE H;obtain ⟨vV,FU,c8,H⟩|⟨vV,FU,-,H⟩:=H
   ·obtain rfl:=Option.some.inj H;obtain ⟨aNy,aNz,ayS,aq0,ajz⟩:=gI t_.o yF
    cases aq0
    obtain ⟨aNA,aNB,ayT,aq1,ajA⟩:=gI HR1.o yF
    cases aq1
    go_wp2
    repeat (go_quiet (fail);try go_wp2)
    go_ret;exact ⟨bT,jR⟩
   have H':=jC H;clear H;obtain ⟨aNy,aNz,ayS,aq0,ajz⟩:=gI t_.o yF
   cases aq0
   obtain ⟨aNA,aNB,ayT,aq1,ajA⟩:=gI HR1.o yF
   cases aq1
   go_wp2
   repeat (go_quiet (fail);try go_wp2)
   go_roundg k1
   case measure=>have:=rF.o;omega
   case rel=>exact ⟨(wrap64 (yF+1)),bT,H',⟨vE⟩,jR⟩
def mq.f (k:Nat) (l0:List Int) (l1:List Int):Option (Bool):=(dX.f k l0 l1).bind fun t105=>(some t105)
theorem mq.calls (k:Nat) (A0:Option Addr) (c0:Nat) (l0:List Int) (A1:Option Addr) (c1:Nat) (l1:List Int) (r:Bool) (w:World) (hr0:Kd.C (Kd.int .i64) w A0 l0.length l0) (hc0:l0.length≤c0) (hr1:Kd.C (Kd.int .i64) w A1 l1.length l1) (hc1:l1.length≤c1) (h:mq.f k l0 l1=some r):
  Calls Tryz.prog 70 #[.slice A0 l0.length c0,.slice A1 l1.length c1] w fun e w'=>e=.returned (.bool r)∧iI w w':=by
 have t_:=jC hr0;have BI:=jC hc0;clear hr0 hc0;have HR1:=jC hr1;have HC1:=jC hc1;clear hr1 hc1;have H:=h;clear h;unfold mq.f at H;obtain ⟨t105,A3,H⟩:=bd H;obtain rfl:=Option.some.inj H;go_enter Tryz.func70,Tryz.ntmps70
 go_wp2_with (first|(refine gR 7 Tryz.func38 #[.slice A0 l0.length c0,.slice A1 l1.length c1] (dX.calls ?ai ?aj ?fI ?gV A3.o) (h:=?_);(case ai=>exact Ub);(case aj=>exact BI.o);(case fI=>exact axF);(case gV=>exact HC1.o);rintro w' ⟨nd,rfl⟩))
 go_ret;exact ⟨bT,jR⟩
def laws_big.f (l0:List Int):Option (Bool):=some (decide ((l0.length:Int)>1048576))
theorem laws_big.calls {A0:Option Addr} {c0:Nat} {l0:List Int} {r:Bool} {w:World} (hr0:Kd.C (Kd.int .u8) w A0 l0.length l0) (hc0:l0.length≤c0) (h:laws_big.f l0=some r):
  Calls Tryz.prog 4 #[.slice A0 l0.length c0] w fun e w'=>e=.returned (.bool r)∧iI w w':=by
 have t_:=jC hr0;have BI:=jC hc0;clear hr0 hc0;have H:=h;clear h;unfold laws_big.f at H;obtain rfl:=Option.some.inj H;go_enter Tryz.func4,Tryz.ntmps4
 go_wp2
 go_ret;exact ⟨bT,jR⟩
def ag (w0 W:World) (g:Nat) (f0:List Int) (f1:Int) (f2:Int):Prop:=∃A0 c0,W.heap[g]?=some (.cells #[.slice A0 f0.length c0,.int .i64 f1,.int .i64 f2] 72 (0,0))∧w0.heap.size≤g∧Kd.C (Kd.int .u8) w0 A0 f0.length f0
theorem ag.grown {w0 W:World} {g:Nat} {f0:List Int} {f1:Int} {f2:Int} {W1:World} {row:Option Nat} (h:ag w0 W g f0 f1 f2) (hw:W.grownBy W1 row) (hne:some g≠row):ag w0 W1 g f0 f1 f2:=by
 obtain ⟨A0,c0,hb,hg,hr0⟩:=h;exact ⟨A0,c0,uQ hb hw hne,hg,hr0⟩
theorem ag.below {w0 W:World} {g:Nat} {f0:List Int} {f1:Int} {f2:Int} {W1:World} (h:ag w0 W g f0 f1 f2) (hw:Below W.heap.size W W1):ag w0 W1 g f0 f1 f2:=h.grown (Ad hw none) gQ
theorem ag.alloc {w0 W:World} {g:Nat} {f0:List Int} {f1:Int} {f2:Int} (h:ag w0 W g f0 f1 f2) (o:Obj):ag w0 (W.alloc o) g f0 f1 f2:=h.below (bq (Below.refl _ _) o)
theorem ag.drewN {w0 W:World} {g:Nat} {f0:List Int} {f1:Int} {f2:Int} (h:ag w0 W g f0 f1 f2) (m:Nat):ag w0 (W.drewN m) g f0 f1 f2:=h
theorem ag.drew {w0 W:World} {g:Nat} {f0:List Int} {f1:Int} {f2:Int} (h:ag w0 W g f0 f1 f2):ag w0 W.drew g f0 f1 f2:=h
theorem ag.apart {w0 W:World} {g:Nat} {f0:List Int} {f1:Int} {f2:Int} {α:Type} {d:Kd α} {e:Nat} {base:Nat} {ok:Nat→Prop} {v:Value} {xs:List α} (h:ag w0 W g f0 f1 f2) (ho:d.R e W base ok v xs) (ht:∀q,q ∈ e::d.E→q≠72):d.R e W base (fun k=>ok k∧k≠g) v xs:=by
 obtain ⟨A0,c0,hb,hg,hr0⟩:=h;exact Kd.iW ho hb ht
theorem ag.own_ne {w0 W:World} {g:Nat} {f0:List Int} {f1:Int} {f2:Int} {α:Type} {d:Kd α} {e:Nat} {base:Nat} {ok:Nat→Prop} {v:Value} {xs:List α} (h:ag w0 W g f0 f1 f2) (ho:d.R e W base ok v xs) (ht:e≠72):some g≠v.ownBlock:=by
 obtain ⟨A0,c0,hb,hg,hr0⟩:=h;exact Kd.lJ ho hb ht
theorem ag.qD {w0 W:World} {g:Nat} {f0:List Int} {f1:Int} {f2:Int} {α:Type} {d:Kd α} {e:Nat} {base:Nat} {ok:Nat→Prop} {v:Value} {xs:List α} (h:ag w0 W g f0 f1 f2) (ho:d.S e W base ok v xs) (ht:∀q,q ∈ e::d.E→q≠72):d.S e W base (fun k=>ok k∧k≠g) v xs:=by
 obtain ⟨A0,c0,hb,hg,hr0⟩:=h;exact Kd.vI ho hb ht
theorem ag.ui {w0 W:World} {g:Nat} {f0:List Int} {f1:Int} {f2:Int} {α:Type} {d:Kd α} {e:Nat} {base:Nat} {ok:Nat→Prop} {v:Value} {xs:List α} (h:ag w0 W g f0 f1 f2) (ho:d.S e W base ok v xs) (ht:e≠72):some g≠v.ownBlock:=by
 obtain ⟨A0,c0,hb,hg,hr0⟩:=h;exact Kd.Ex ho hb ht
theorem ag.lt {w0 W:World} {g:Nat} {f0:List Int} {f1:Int} {f2:Int} (h:ag w0 W g f0 f1 f2):g<W.heap.size:=by
 obtain ⟨A0,c0,hb,hg,hr0⟩:=h;exact CX hb
theorem ag.ge {w0 W:World} {g:Nat} {f0:List Int} {f1:Int} {f2:Int} (h:ag w0 W g f0 f1 f2):w0.heap.size≤g:=by
 obtain ⟨A0,c0,hb,hg,hr0⟩:=h;exact hg
theorem ag.adX {w0 W:World} {g:Nat} {f0:List Int} {f1:Int} {f2:Int} {a:Nat} {cs:Array Value} {t:TypeId} {fr:Nat × Nat} (h:ag w0 W g f0 f1 f2) (hb2:W.heap[a]?=some (.cells cs t fr)) (ht:t≠72):g≠a:=by
 obtain ⟨A0,c0,hb,hg,hr0⟩:=h;rintro rfl;rw[hb] at hb2;injection hb2 with hb2;injection hb2 with _ ht2;exact ht ht2.symm
theorem ag.far {w0 W:World} {g:Nat} {f0:List Int} {f1:Int} {f2:Int} {p:Addr} (h:ag w0 W g f0 f1 f2) (hne:g≠p.block) (u:Value):ag w0 (W.setCell p u) g f0 f1 f2:=by
 obtain ⟨A0,c0,hb,hg,hr0⟩:=h;exact ⟨A0,c0,zH hb hne u,hg,hr0⟩
theorem PY {W:World} {g:Nat} {A0:Option Addr} {c0:Nat} {f0:List Int} {f1:Int} {f2:Int} (h:W.heap[g]?=some (.cells #[.slice A0 f0.length c0,.int .i64 f1,.int .i64 f2] 72 (0,0))):W.cell? ⟨g,0,none⟩=some (.slice A0 f0.length c0):=(cu h 0).trans rfl
theorem PZ {W:World} {g:Nat} {A0:Option Addr} {c0:Nat} {f0:List Int} {f1:Int} {f2:Int} (h:W.heap[g]?=some (.cells #[.slice A0 f0.length c0,.int .i64 f1,.int .i64 f2] 72 (0,0))):W.cell? ⟨g,1,none⟩=some (.int .i64 f1):=(cu h 1).trans rfl
theorem ag.uZ {w0 W:World} {g:Nat} {f0:List Int} {f1:Int} {f2:Int} (h:ag w0 W g f0 f1 f2) (x:Int):ag w0 (W.setCell ⟨g,1,none⟩ (.int .i64 x)) g f0 x f2:=by
 obtain ⟨A0,c0,hb,hg,hr0⟩:=h;exact ⟨A0,c0,by simpa using Fh hb 1 (.int .i64 x),hg,hr0⟩
theorem P5 {W:World} {g:Nat} {A0:Option Addr} {c0:Nat} {f0:List Int} {f1:Int} {f2:Int} (h:W.heap[g]?=some (.cells #[.slice A0 f0.length c0,.int .i64 f1,.int .i64 f2] 72 (0,0))):W.cell? ⟨g,2,none⟩=some (.int .i64 f2):=(cu h 2).trans rfl
theorem ag.yC {w0 W:World} {g:Nat} {f0:List Int} {f1:Int} {f2:Int} (h:ag w0 W g f0 f1 f2) (x:Int):ag w0 (W.setCell ⟨g,2,none⟩ (.int .i64 x)) g f0 f1 x:=by
 obtain ⟨A0,c0,hb,hg,hr0⟩:=h;exact ⟨A0,c0,by simpa using Fh hb 2 (.int .i64 x),hg,hr0⟩
def kL.f (bi:List Int) (gL:Int) (mG:Int):Option (Int × Int × Int):=if gL<(bi.length:Int) then (if 0≤gL then (some (Go.bits .and .i64 (wrap64 ((Go.bits .and .i64 (Go.bits .xor .i64 ((wrap64 ((wrap64 (mG * 6364136223846793005))+1442695040888963407)) / 8589934592) ((wrap64 ((wrap64 (mG * 6364136223846793005))+1442695040888963407)) / 35184372088832)) 255)+(wrap64 (rd bi gL)))) 255,wrap64 (gL+1),wrap64 ((wrap64 (mG * 6364136223846793005))+1442695040888963407))) else (none)) else (some (Go.bits .and .i64 (Go.bits .xor .i64 ((wrap64 ((wrap64 (mG * 6364136223846793005))+1442695040888963407)) / 8589934592) ((wrap64 ((wrap64 (mG * 6364136223846793005))+1442695040888963407)) / 35184372088832)) 255,gL,wrap64 ((wrap64 (mG * 6364136223846793005))+1442695040888963407)))
theorem kL.calls {g:Nat} {bi:List Int} {gL:Int} {mG:Int} {r1:Int} {r2:Int} {r3:Int} (w0 w:World) (hI:ag w0 w g bi gL mG) (hB:Below w0.heap.size w0 w) (h:kL.f bi gL mG=some (r1,r2,r3)):
  Calls Tryz.prog 73 #[.pointer (some ⟨g,0,none⟩)] w fun e w'=>e=.returned (.int .i64 r1)∧ag w0 w' g bi r2 r3∧Below w0.heap.size w0 w'∧aA w w' g none:=by
 have HI0:=jC hI;have HK:=jC (aA.refl w g none);have HL:=jC hB.size;clear hI;have HW0:=jC hB.size;have HB:=jC hB;clear hB;have H:=h;clear h;unfold kL.f at H
 replace H:=iD H;obtain ⟨CY,-,H⟩|⟨CY,-,H⟩:=H
 ·simp only[Option.some.injEq,Prod.mk.injEq] at H;obtain ⟨rfl,rfl,rfl⟩:=H;obtain ⟨aNC,aND,LF,aq2,aNE⟩:=HI0.o;have aq3:=PY LF;have aq4:=PZ LF;have aNF:=P5 LF;have aq5:=az LF 1;have aNG:=az LF 2;clear LF aq2;go_enter Tryz.func73,Tryz.ntmps73
  go_wp2
  repeat (go_quiet (fail);try go_wp2)
  go_ret;exact ⟨fT,nk,nQ,qy⟩
 obtain ⟨rG,-,H⟩:=l5 H;simp only[Option.some.injEq,Prod.mk.injEq] at H;obtain ⟨rfl,rfl,rfl⟩:=H;obtain ⟨aNH,aNI,LG,aq6,aq7⟩:=HI0.o;have aq8:=PY LG;have aq9:=PZ LG;have aNJ:=P5 LG;have ara:=az LG 1;have aNK:=az LG 2;clear LG aq6;obtain ⟨a0d,a0e,ayU,aNL,Fj⟩:=gI aq7 gL
 cases aNL
 have Mc:ayU.block≠g:=Nat.ne_of_lt (Nat.lt_of_lt_of_le (by have:=World.block_lt_of_cell? _ _ Fj;first|rwa [add_block] at this|exact this) (ag.ge HI0.o));replace Fj:=rH HB.o Fj;replace Fj:=(cell_far (p:=⟨g,2,none⟩) (by first|(rw[add_block];exact Mc)|(show (Addr.add _ _).block≠_;rw[add_block];exact Mc)|exact Mc) (.int .i64 (wrap64 ((wrap64 (mG * 6364136223846793005))+1442695040888963407)))).trans Fj;(try have aJQ:=fun (n_:Nat)=>(show (((w.drewN n_).setCell ⟨g,2,none⟩ (.int .i64 (wrap64 ((wrap64 (mG * 6364136223846793005))+1442695040888963407))))).cell? _=some _ from Fj));clear Mc;go_enter Tryz.func73,Tryz.ntmps73
 go_wp2
 repeat (go_quiet (fail);try go_wp2)
 go_ret;exact ⟨fT,nk,nQ,qy⟩
def bf.f (bi:List Int) (gL:Int) (mG:Int) (a1:Int):Option (Int × Int × Int):=if a1≤0 then (some (0,gL,mG)) else (if a1≤256 then ((kL.f bi gL mG).bind fun adY=>(if a1=0 then (none) else (some (Int.tmod adY.1 a1,adY.2.1,adY.2.2)))) else ((kL.f bi gL mG).bind fun adZ=>((kL.f bi adZ.2.1 adZ.2.2).bind fun ad1=>((kL.f bi ad1.2.1 ad1.2.2).bind fun ad2=>((kL.f bi ad2.2.1 ad2.2.2).bind fun ad3=>(if a1=0 then (none) else (some (Int.tmod (wrap64 ((wrap64 ((wrap64 ((wrap64 (adZ.1 * 16777216))+(wrap64 (ad1.1 * 65536))))+(wrap64 (ad2.1 * 256))))+ad3.1)) a1,ad3.2.1,ad3.2.2))))))))
theorem bf.calls {g:Nat} {bi:List Int} {gL:Int} {mG:Int} {a1:Int} {r1:Int} {r2:Int} {r3:Int} (w0 w:World) (hI:ag w0 w g bi gL mG) (hB:Below w0.heap.size w0 w) (h:bf.f bi gL mG a1=some (r1,r2,r3)):
  Calls Tryz.prog 42 #[.pointer (some ⟨g,0,none⟩),.int .i64 a1] w fun e w'=>e=.returned (.int .i64 r1)∧ag w0 w' g bi r2 r3∧Below w0.heap.size w0 w'∧aA w w' g none:=by
 have HI0:=jC hI;have HK:=jC (aA.refl w g none);have HL:=jC hB.size;clear hI;have HW0:=jC hB.size;have HB:=jC hB;clear hB;have H:=h;clear h;unfold bf.f at H
 replace H:=jD H;obtain ⟨rG,-,H⟩|⟨rG,-,H⟩:=H
 ·simp only[Option.some.injEq,Prod.mk.injEq] at H;obtain ⟨rfl,rfl,rfl⟩:=H;go_enter Tryz.func42,Tryz.ntmps42
  go_wp2
  go_ret;exact ⟨fT,nk,nQ,qy⟩
 replace H:=jD H;obtain ⟨qo,-,H⟩|⟨qo,-,H⟩:=H
 ·obtain ⟨⟨t107,a0f,t109⟩,A5,H⟩:=bd H
  try dsimp only at H
  by_cases c6:a1=0
  ·rw[if_pos c6] at H;exact absurd H gQ
  rw[if_neg c6] at H;have vU:=eqF c6;have Us:=neT c6;simp only[Option.some.injEq,Prod.mk.injEq] at H;obtain ⟨rfl,rfl,rfl⟩:=H;go_enter Tryz.func42,Tryz.ntmps42
  go_wp2_with (first|(refine gC 14 Tryz.func73 #[.pointer (some ⟨g,0,none⟩)] (kL.calls w0 _ ?ai ?aj A5.o) (h:=?_);(case ai=>exact nk);(case aj=>exact nQ);rintro e wC ⟨rfl,hi,hb,hk⟩;refine ⟨_,rfl,?_⟩;have n_:=vT;clear HK HB HI0;obtain ⟨HK,HB,HI0⟩:=n_))
  go_ret;exact ⟨fT,nk,nQ,qy⟩
 obtain ⟨⟨a0g,a0h,a0i⟩,A8,H⟩:=bd H
 try dsimp only at H
 obtain ⟨⟨a0j,a0k,a0l⟩,A9,H⟩:=bd H
 try dsimp only at H
 obtain ⟨⟨t116,t117,a0m⟩,A10,H⟩:=bd H
 try dsimp only at H
 obtain ⟨⟨t119,a0n,a0o⟩,Q6,H⟩:=bd H
 try dsimp only at H
 by_cases c12:a1=0
 ·rw[if_pos c12] at H;exact absurd H gQ
 rw[if_neg c12] at H;have DL:=eqF c12;have ayV:=neT c12;simp only[Option.some.injEq,Prod.mk.injEq] at H;obtain ⟨rfl,rfl,rfl⟩:=H;go_enter Tryz.func42,Tryz.ntmps42
 go_wp2_with (first|(refine gC 18 Tryz.func73 #[.pointer (some ⟨g,0,none⟩)] (kL.calls w0 _ ?ai ?aj A8.o) (h:=?_);(case ai=>exact nk);(case aj=>exact nQ);rintro e wC ⟨rfl,hi,hb,hk⟩;refine ⟨_,rfl,?_⟩;have n_:=vT;clear HK HB HI0;obtain ⟨HK,HB,HI0⟩:=n_)|(refine gC 20 Tryz.func73 #[.pointer (some ⟨g,0,none⟩)] (kL.calls w0 _ ?ai ?aj A9.o) (h:=?_);(case ai=>exact nk);(case aj=>exact nQ);rintro e wq2 ⟨rfl,hi,hb,hk⟩;refine ⟨_,rfl,?_⟩;have n_:=vT;clear HK HB HI0;obtain ⟨HK,HB,HI0⟩:=n_)|(refine gC 22 Tryz.func73 #[.pointer (some ⟨g,0,none⟩)] (kL.calls w0 _ ?ai ?aj A10.o) (h:=?_);(case ai=>exact nk);(case aj=>exact nQ);rintro e wq3 ⟨rfl,hi,hb,hk⟩;refine ⟨_,rfl,?_⟩;have n_:=vT;clear HK HB HI0;obtain ⟨HK,HB,HI0⟩:=n_)|(refine gC 24 Tryz.func73 #[.pointer (some ⟨g,0,none⟩)] (kL.calls w0 _ ?ai ?aj Q6.o) (h:=?_);(case ai=>exact nk);(case aj=>exact nQ);rintro e wq4 ⟨rfl,hi,hb,hk⟩;refine ⟨_,rfl,?_⟩;have n_:=vT;clear HK HB HI0;obtain ⟨HK,HB,HI0⟩:=n_))
 go_ret;exact ⟨fT,nk,nQ,qy⟩
def iN.f (bi:List Int) (gL:Int) (mG:Int) (a1:Int):Option (Bool × Int × Int):=(bf.f bi gL mG a1).bind fun ad5=>(some ((ad5.1==0),ad5.2.1,ad5.2.2))
theorem iN.calls {g:Nat} {bi:List Int} {gL:Int} {mG:Int} {a1:Int} {r1:Bool} {r2:Int} {r3:Int} (w0 w:World) (hI:ag w0 w g bi gL mG) (hB:Below w0.heap.size w0 w) (h:iN.f bi gL mG a1=some (r1,r2,r3)):
  Calls Tryz.prog 40 #[.pointer (some ⟨g,0,none⟩),.int .i64 a1] w fun e w'=>e=.returned (.bool r1)∧ag w0 w' g bi r2 r3∧Below w0.heap.size w0 w'∧aA w w' g none:=by
 have HI0:=jC hI;have HK:=jC (aA.refl w g none);have HL:=jC hB.size;clear hI;have HW0:=jC hB.size;have HB:=jC hB;clear hB;have H:=h;clear h;unfold iN.f at H;obtain ⟨⟨a0p,a0q,t124⟩,A3,H⟩:=bd H
 try dsimp only at H
 simp only[Option.some.injEq,Prod.mk.injEq] at H;obtain ⟨rfl,rfl,rfl⟩:=H;go_enter Tryz.func40,Tryz.ntmps40
 go_wp2_with (first|(refine gC 7 Tryz.func42 #[.pointer (some ⟨g,0,none⟩),.int .i64 a1] (bf.calls w0 _ ?ai ?aj A3.o) (h:=?_);(case ai=>exact nk);(case aj=>exact nQ);rintro e wC ⟨rfl,hi,hb,hk⟩;refine ⟨_,rfl,?_⟩;have n_:=vT;clear HK HB HI0;obtain ⟨HK,HB,HI0⟩:=n_))
 go_ret;exact ⟨fT,nk,nQ,qy⟩
def lG.f (bi:List Int) (gL:Int) (mG:Int) (l1:List Int):Option (Int × Int × Int):=(bf.f bi gL mG (l1.length:Int)).bind fun Ut=>(if 0≤Ut.1 then (if Ut.1<(l1.length:Int) then (some (rd l1 Ut.1,Ut.2.1,Ut.2.2)) else (none)) else (none))
theorem lG.calls {g:Nat} {bi:List Int} {gL:Int} {mG:Int} {A1:Option Addr} {c1:Nat} {l1:List Int} {r1:Int} {r2:Int} {r3:Int} (w0 w:World) (hI:ag w0 w g bi gL mG) (hB:Below w0.heap.size w0 w) (hr1:Kd.C (Kd.int .i64) w A1 l1.length l1) (hc1:l1.length≤c1) (hf1:∀ad,A1=some ad→0<l1.length→ad.block≠g) (h:lG.f bi gL mG l1=some (r1,r2,r3)):
  Calls Tryz.prog 52 #[.pointer (some ⟨g,0,none⟩),.slice A1 l1.length c1] w fun e w'=>e=.returned (.int .i64 r1)∧ag w0 w' g bi r2 r3∧Below w0.heap.size w0 w'∧aA w w' g none:=by
 have HR1:=jC hr1;have HC1:=jC hc1;clear hr1 hc1;have HI0:=jC hI;have HK:=jC (aA.refl w g none);have HL:=jC hB.size;clear hI;have HW0:=jC hB.size;have HB:=jC hB;clear hB;have H:=h;clear h;unfold lG.f at H;obtain ⟨⟨arb,a0r,t127⟩,A3,H⟩:=bd H
 try dsimp only at H
 obtain ⟨qo,-,H⟩:=l5 H;obtain ⟨oZ,-,H⟩:=l5 H;simp only[Option.some.injEq,Prod.mk.injEq] at H;obtain ⟨rfl,rfl,rfl⟩:=H;go_enter Tryz.func52,Tryz.ntmps52
 go_wp2_with (first|(refine gC 9 Tryz.func42 #[.pointer (some ⟨g,0,none⟩),.int .i64 (l1.length:Int)] (bf.calls w0 _ ?ai ?aj A3.o) (h:=?_);(case ai=>exact nk);(case aj=>exact nQ);rintro e wC ⟨rfl,hi,hb,hk⟩;refine ⟨_,rfl,?_⟩;have n_:=vT;clear HK HB HI0;obtain ⟨HK,HB,HI0⟩:=n_;have pq2:0≤(arb:Int):=oT bL;have qq2:arb<(l1.length:Int):=oT bL;obtain ⟨ayb,eq2,Nw⟩:=Kd.JL HR1.o arb pq2 qq2;cases eq2;replace Nw:=xE HK.o Nw aya;replace pq2:=fO pq2;replace qq2:=fO qq2))
 go_ret;exact ⟨fT,nk,nQ,qy⟩
def lh.f (bi:List Int) (gL:Int) (mG:Int):Option (Int × Int × Int):=(iN.f bi gL mG 20).bind fun Uu=>(if Uu.1=true then ((lG.f bi Uu.2.1 Uu.2.2 (([2147483647,(-2147483647),1,(-1),1000000000]:List Int))).bind fun ad7=>(some (ad7.1,ad7.2.1,ad7.2.2))) else ((iN.f bi Uu.2.1 Uu.2.2 2).bind fun Uv=>(if Uv.1=true then ((bf.f bi Uv.2.1 Uv.2.2 9).bind fun ad8=>(some (wrap64 (1000 * (wrap64 (ad8.1 - 4))),ad8.2.1,ad8.2.2))) else ((bf.f bi Uv.2.1 Uv.2.2 41).bind fun ad9=>(some (wrap64 (250 * (wrap64 (ad9.1 - 20))),ad9.2.1,ad9.2.2))))))
theorem lh.calls {g:Nat} {bi:List Int} {gL:Int} {mG:Int} {r1:Int} {r2:Int} {r3:Int} (w0 w:World) (hI:ag w0 w g bi gL mG) (hB:Below w0.heap.size w0 w) (h:lh.f bi gL mG=some (r1,r2,r3)):
  Calls Tryz.prog 71 #[.pointer (some ⟨g,0,none⟩)] w fun e w'=>e=.returned (.int .i64 r1)∧ag w0 w' g bi r2 r3∧Below w0.heap.size w0 w'∧aA w w' g none:=by
 have HI0:=jC hI;have HK:=jC (aA.refl w g none);have HL:=jC hB.size;clear hI;have HW0:=jC hB.size;have HB:=jC hB;clear hB;have H:=h;clear h;unfold lh.f at H;obtain ⟨⟨a0s,t130,t131⟩,A2,H⟩:=bd H
 try dsimp only at H
 replace H:=jB H;obtain ⟨rfl,G⟩|⟨rfl,G⟩:=H
 ·have H:=G;clear G;generalize hyy:(([2147483647,(-2147483647),1,(-1),1000000000]:List Int))=aNN at H;have am3:=jC hyy.symm;clear hyy;obtain ⟨⟨a0t,a0u,a0v⟩,A4,H⟩:=bd H
  try dsimp only at H
  simp only[Option.some.injEq,Prod.mk.injEq] at H;obtain ⟨rfl,rfl,rfl⟩:=H;go_enter Tryz.func71,Tryz.ntmps71
  go_wp2_with (first|(refine gC 4 Tryz.func40 #[.pointer (some ⟨g,0,none⟩),.int .i64 20] (iN.calls w0 _ ?ai ?aj A2.o) (h:=?_);(case ai=>exact nk);(case aj=>exact nQ);rintro e wC ⟨rfl,hi,hb,hk⟩;refine ⟨_,rfl,?_⟩;have n_:=vT;clear HK HB HI0;obtain ⟨HK,HB,HI0⟩:=n_)|((with_reducible refine aG (N:=6) rfl ?_);refine Kd.sQ (Kd.int .i64) _ 3 ?hg (N:=6) ?hd (xs:=([2147483647,(-2147483647),1,(-1),1000000000]:List Int)) (inner:=[.int .i64 2147483647,.int .i64 (-2147483647),.int .i64 1,.int .i64 (-1),.int .i64 1000000000]) (ok:=fun _=>True) (okp:=fun _=>True) ?hr ?hp rE trivial (Below.refl _ _) (Nat.le_refl _) gQ ?_;(case hd=>rfl);(case hg=>rfl);(case hr=>exact kz);(case hp=>exact (d_.one (show Kd.M (Kd.int .i64) _ _ _ 2147483647 [.int .i64 2147483647] from rfl) (d_.one (show Kd.M (Kd.int .i64) _ _ _ (-2147483647) [.int .i64 (-2147483647)] from rfl) (d_.one (show Kd.M (Kd.int .i64) _ _ _ 1 [.int .i64 1] from rfl) (d_.one (show Kd.M (Kd.int .i64) _ _ _ (-1) [.int .i64 (-1)] from rfl) (d_.one (show Kd.M (Kd.int .i64) _ _ _ 1000000000 [.int .i64 1000000000] from rfl) (d_.none _ _)))))));intro vq2 wq3 D5 hb hg_ hnew_;clear hg_ hnew_;(first|rw[←am3.o] at D5|(simp only[Int.reduceToNat] at D5;rw[←am3.o] at D5));have n_:=Z24;clear HI0 HK HB;obtain ⟨Uw,HI0,HK,HB⟩:=n_;clear hb D5;obtain ⟨ard,arf,arh⟩:=Kd.bR Uw.o;subst arh)|(refine gC 7 Tryz.func52 #[.pointer (some ⟨g,0,none⟩),.slice ard aNN.length arf] (lG.calls w0 _ ?ai ?aj ?fI ?gV ?nz A4.o) (h:=?_);(case ai=>exact nk);(case aj=>exact nQ);(case fI=>repeat (first|exact (Kd.a_ Uw.o).2.2|(with_reducible refine Kd.dF ?_ _)|(with_reducible refine Kd.dG ?_ _)|(with_reducible refine Kd.eQ ?_)));(case gV=>exact (Kd.a_ Uw.o).2.1);(case nz=>exact xG (ag.own_ne HI0.o Uw.o au));rintro e wq6 ⟨rfl,hi,hb,hk⟩;refine ⟨_,rfl,?_⟩;have n_:=vT;clear Uw HK HB HI0;obtain ⟨HK,HB,HI0⟩:=n_))
  go_ret;exact ⟨fT,nk,nQ,qy⟩
 have H:=G;clear G;obtain ⟨⟨t138,t139,a0w⟩,A10,H⟩:=bd H
 try dsimp only at H
 replace H:=jB H;obtain ⟨rfl,G⟩|⟨rfl,G⟩:=H
 ·have H:=G;clear G;obtain ⟨⟨t141,a0x,t143⟩,Y0,H⟩:=bd H
  try dsimp only at H
  simp only[Option.some.injEq,Prod.mk.injEq] at H;obtain ⟨rfl,rfl,rfl⟩:=H;go_enter Tryz.func71,Tryz.ntmps71
  go_wp2_with (first|(refine gC 4 Tryz.func40 #[.pointer (some ⟨g,0,none⟩),.int .i64 20] (iN.calls w0 _ ?ai ?aj A2.o) (h:=?_);(case ai=>exact nk);(case aj=>exact nQ);rintro e wC ⟨rfl,hi,hb,hk⟩;refine ⟨_,rfl,?_⟩;have n_:=vT;clear HK HB HI0;obtain ⟨HK,HB,HI0⟩:=n_)|(refine gC 9 Tryz.func40 #[.pointer (some ⟨g,0,none⟩),.int .i64 2] (iN.calls w0 _ ?ai ?aj A10.o) (h:=?_);(case ai=>exact nk);(case aj=>exact nQ);rintro e wq2 ⟨rfl,hi,hb,hk⟩;refine ⟨_,rfl,?_⟩;have n_:=vT;clear HK HB HI0;obtain ⟨HK,HB,HI0⟩:=n_)|(refine gC 11 Tryz.func42 #[.pointer (some ⟨g,0,none⟩),.int .i64 9] (bf.calls w0 _ ?ai ?aj Y0.o) (h:=?_);(case ai=>exact nk);(case aj=>exact nQ);rintro e wq3 ⟨rfl,hi,hb,hk⟩;refine ⟨_,rfl,?_⟩;have n_:=vT;clear HK HB HI0;obtain ⟨HK,HB,HI0⟩:=n_))
  go_ret;exact ⟨fT,nk,nQ,qy⟩
 have H:=G;clear G;obtain ⟨⟨a0y,t145,t146⟩,A16,H⟩:=bd H
 try dsimp only at H
 simp only[Option.some.injEq,Prod.mk.injEq] at H;obtain ⟨rfl,rfl,rfl⟩:=H;go_enter Tryz.func71,Tryz.ntmps71
 go_wp2_with (first|(refine gC 4 Tryz.func40 #[.pointer (some ⟨g,0,none⟩),.int .i64 20] (iN.calls w0 _ ?ai ?aj A2.o) (h:=?_);(case ai=>exact nk);(case aj=>exact nQ);rintro e wC ⟨rfl,hi,hb,hk⟩;refine ⟨_,rfl,?_⟩;have n_:=vT;clear HK HB HI0;obtain ⟨HK,HB,HI0⟩:=n_)|(refine gC 9 Tryz.func40 #[.pointer (some ⟨g,0,none⟩),.int .i64 2] (iN.calls w0 _ ?ai ?aj A10.o) (h:=?_);(case ai=>exact nk);(case aj=>exact nQ);rintro e wq2 ⟨rfl,hi,hb,hk⟩;refine ⟨_,rfl,?_⟩;have n_:=vT;clear HK HB HI0;obtain ⟨HK,HB,HI0⟩:=n_)|(refine gC 15 Tryz.func42 #[.pointer (some ⟨g,0,none⟩),.int .i64 41] (bf.calls w0 _ ?ai ?aj A16.o) (h:=?_);(case ai=>exact nk);(case aj=>exact nQ);rintro e wq3 ⟨rfl,hi,hb,hk⟩;refine ⟨_,rfl,?_⟩;have n_:=vT;clear HK HB HI0;obtain ⟨HK,HB,HI0⟩:=n_))
 go_ret;exact ⟨fT,nk,nQ,qy⟩
end
section
set_option maxHeartbeats 8000000
set_option maxRecDepth 100000
mutual
def aM.j0:Nat→Int→Int→List Int→Int→Int→List ByteArray→ByteArray→Option (List ByteArray × ByteArray × (List (List Int)) × List Int × Int × Int)
 |0,_,_,_,_,_,_,_=>none
 |k+1,x3,x5,x1000,nU,vk,yf,yg=>(iN.f x1000 nU vk 12).bind fun aeb=>(aM.l0 k x3 x5 aeb.1 0 x1000 aeb.2.1 aeb.2.2 yf yg ([]:List (List Int)) ([]:List Int))
def aM.l0:Nat→Int→Int→Bool→Int→List Int→Int→Int→List ByteArray→ByteArray→List (List Int)→List Int→Option (List ByteArray × ByteArray × (List (List Int)) × List Int × Int × Int)
 |0,_,_,_,_,_,_,_,_,_,_,_=>none
 |k+1,x3,x5,x6,x7,x1000,nU,vk,yf,yg,CZ,wU=>if x7<x5 then (aM.l1 k x3 x5 x6 x7 (([]:List Int)) 0 x1000 nU vk yf yg CZ wU) else (some (yf,yg,CZ,wU,nU,vk))
def aM.l1:Nat→Int→Int→Bool→Int→List Int→Int→List Int→Int→Int→List ByteArray→ByteArray→List (List Int)→List Int→Option (List ByteArray × ByteArray × (List (List Int)) × List Int × Int × Int)
 |0,_,_,_,_,_,_,_,_,_,_,_,_,_=>none
 |k+1,x3,x5,x6,x7,x8,x9,x1000,nU,vk,yf,yg,CZ,wU=>if x9<x3 then ((lh.f x1000 nU vk).bind fun Ux=>(if x6=true then (if x8.length<17592186044416 then (aM.l1 k x3 x5 x6 x7 (x8++ [Ux.1]) (wrap64 (x9+1)) x1000 Ux.2.1 Ux.2.2 yf yg CZ wU) else (none)) else ((bf.f x1000 Ux.2.1 Ux.2.2 7).bind fun aec=>(if x8.length<17592186044416 then (aM.l1 k x3 x5 x6 x7 (x8++ [wrap64 (500 * (wrap64 (aec.1 - 3)))]) (wrap64 (x9+1)) x1000 aec.2.1 aec.2.2 yf yg CZ wU) else (none))))) else (if CZ.length<5864062014805 then ((some (CZ++ [x8]:List (List Int))).bind fun JN=>((lh.f x1000 nU vk).bind fun P6=>(if x6=true then (if wU.length<17592186044416 then (aM.l0 k x3 x5 x6 (wrap64 (x7+1)) x1000 P6.2.1 P6.2.2 yf yg JN (wU++ [P6.1])) else (none)) else ((iN.f x1000 P6.2.1 P6.2.2 4).bind fun Uy=>(if Uy.1=true then (if wU.length<17592186044416 then (aM.l0 k x3 x5 x6 (wrap64 (x7+1)) x1000 Uy.2.1 Uy.2.2 yf yg JN (wU++ [P6.1])) else (none)) else (if 0<(x8.length:Int) then ((bf.f x1000 Uy.2.1 Uy.2.2 5).bind fun aed=>(if wU.length<17592186044416 then (aM.l0 k x3 x5 x6 (wrap64 (x7+1)) x1000 aed.2.1 aed.2.2 yf yg JN (wU++ [wrap64 ((wrap64 ((rd x8 0) * 2))+(wrap64 (100 * aed.1)))])) else (none))) else (none))))))) else (none))
end
def aM.f (k:Nat) (bi:List Int) (gL:Int) (mG:Int):Option (List ByteArray × ByteArray × (List (List Int)) × List Int × Int × Int):=(bf.f bi gL mG 3).bind fun Ny=>((some (([]:List ByteArray):List ByteArray)).bind fun y151=>((some (([(⟨#[97]⟩:ByteArray),(⟨#[98]⟩:ByteArray),(⟨#[99,50]⟩:ByteArray),(⟨#[100]⟩:ByteArray)]:List ByteArray):List ByteArray)).bind fun LH=>(if 0≤(wrap64 (1+Ny.1)) then (if (wrap64 (1+Ny.1))≤(LH.length:Int) then ((some (LH.take ((wrap64 (1+Ny.1)):Int).toNat:List ByteArray)).bind fun y157=>(if y151.length+y157.length<8796093022208 then ((some (y151++y157:List ByteArray)).bind fun Ae=>((bf.f bi Ny.2.1 Ny.2.2 9).bind fun Nz=>((iN.f bi Nz.2.1 Nz.2.2 10).bind fun EC=>(if EC.1=true then ((bf.f bi EC.2.1 EC.2.2 40).bind fun NA=>(aM.j0 k (wrap64 (1+Ny.1)) (wrap64 (1+NA.1)) bi NA.2.1 NA.2.2 Ae (⟨#[121]⟩:ByteArray))) else (aM.j0 k (wrap64 (1+Ny.1)) (wrap64 (1+Nz.1)) bi EC.2.1 EC.2.2 Ae (⟨#[121]⟩:ByteArray)))))) else (none))) else (none)) else (none))))
def aM.T21:Bool × List (List Nat × List Nat):=(true,[([],[]),([0],[0]),([1],[1]),([2],[2]),([],[]),([4],[4]),([5],[5]),([3,6],[3,6]),([7,5,0,1,2,3,4,5,6,7],[7])])
def aM.B21:List Nat:=[0,1,3,7,0,16,48,127,255]
theorem aM.ayX:o_ .any (opsOf Tryz.f39 21)=aM.T21:=by kernel_rfl
theorem aM.ari:lq aM.T21.2 aM.B21=true:=by kernel_rfl
theorem aM.calls {k:Nat} {g:Nat} {bi:List Int} {gL:Int} {mG:Int} {r1:List ByteArray} {r2:ByteArray} {r3:List (List Int)} {r4:List Int} {r5:Int} {r6:Int} (w0 w:World) (hI:ag w0 w g bi gL mG) (hB:Below w0.heap.size w0 w) (h:aM.f k bi gL mG=some (r1,r2,r3,r4,r5,r6)):
  Calls Tryz.prog 39 #[.pointer (some ⟨g,0,none⟩)] w fun e w'=>∃Ee Y1 Q7:Value,e=.returned (.agg #[Ee,.string r2,Y1,Q7])∧Kd.R Kd.string 9 w' w.heap.size (fun _=>True) Ee r1∧Kd.S (Kd.slice 3 (Kd.int .i64)) 26 w' w.heap.size (fun k_=>some k_≠(Q7:Value).ownBlock) Y1 r3∧Kd.R (Kd.int .i64) 3 w' w.heap.size (fun _=>True) Q7 r4∧ag w0 w' g bi r5 r6∧Below w0.heap.size w0 w'∧aA w w' g none:=by
 have NB:=Tryz.underlying28;have HI0:=jC hI;have HK:=jC (aA.refl w g none);have HL:=jC hB.size;clear hI;have HW0:=jC hB.size;have HB:=jC hB;clear hB;have H:=h;clear h;unfold aM.f at H;obtain ⟨⟨t148,ajB,ajC⟩,A2,H⟩:=bd H
 try dsimp only at H
 obtain ⟨y151,am4,H⟩:=yB H;obtain ⟨LH,am5,H⟩:=yB H
 obtain ⟨Y3,aee⟩:∃j_:Int,(wrap64 (1+t148))=j_:=⟨_,rfl⟩
 replace H:(if 0≤(Y3) then (if (Y3)≤(LH.length:Int) then ((some (LH.take ((Y3):Int).toNat:List ByteArray)).bind fun y157=>(if y151.length+y157.length<8796093022208 then ((some (y151++y157:List ByteArray)).bind fun Ae=>((bf.f bi ajB ajC 9).bind fun Nz=>((iN.f bi Nz.2.1 Nz.2.2 10).bind fun EC=>(if EC.1=true then ((bf.f bi EC.2.1 EC.2.2 40).bind fun NA=>(aM.j0 k Y3 (wrap64 (1+NA.1)) bi NA.2.1 NA.2.2 Ae (⟨#[121]⟩:ByteArray))) else (aM.j0 k Y3 (wrap64 (1+Nz.1)) bi EC.2.1 EC.2.2 Ae (⟨#[121]⟩:ByteArray)))))) else (none))) else (none)) else (none))=some (r1,r2,r3,r4,r5,r6):=by first|(rw[aee] at H;exact H)|(simp only[aee] at H ⊢;exact H)
 (try rw[aee] at A2);have aV8:(IntKind.i64.wrap (1+t148))=Y3:=(jT _).trans aee;obtain ⟨c4,H⟩:=nD H;have qo:=fO c4;have Q8:=rM c4;clear c4;obtain ⟨c5,H⟩:=nD H;have oZ:=fO c5;have GY:=rM c5;clear c5;obtain ⟨y157,am6,H⟩:=yB H;obtain ⟨c6,H⟩:=nD H;have aNO:=jC c6;clear c6;obtain ⟨Ae,ayY,H⟩:=yB H;obtain ⟨⟨aNP,aNQ,t167⟩,A7,H⟩:=bd H
 try dsimp only at H
 obtain ⟨⟨t168,ayZ,ay0⟩,A8,H⟩:=bd H
 try dsimp only at H
 have HC9:=jC H;clear H;go_enter Tryz.func39,Tryz.ntmps39
 go_upto_if 25 with (first|((with_reducible refine aG (N:=2) rfl ?_);refine bE 2 #[.slice none 0 0,.string (⟨#[]⟩:ByteArray),.slice none 0 0,.slice none 0 0] 28 (h:=?_);intro Af hg w10 hbox hb;have n_:=jA (ag.below nk hb) (jA (aA.trans qy (aA.of_below hb g none) (.inl rfl)) (jA (ae nQ hb) (jA (hbox) (jA ((aiX:w.heap.size≤Af)) (jA ((Nat.le_trans HW0.o (aiX:w.heap.size≤Af):w0.heap.size≤Af)) (jA ((by rw[hg];exact Nat.ne_of_lt (ag.lt (show ag w0 _ g bi gL mG from nk)):g≠Af)) (jC ((by rw[hg];exact Nat.ne_of_gt (ag.lt (show ag w0 _ g bi gL mG from nk)):Af≠g)))))))));clear HI0 HK HB;obtain ⟨HI0,HK,HB,fP,amW,amP,CW,ug⟩:=n_;clear hb hbox hg)|(refine gC 13 Tryz.func42 #[.pointer (some ⟨g,0,none⟩),.int .i64 3] (bf.calls w0 _ ?ai ?aj A2.o) (h:=?_);(case ai=>exact abv);(case aj=>exact ads);rintro e w11 ⟨rfl,hi,hb,hk⟩;refine ⟨_,rfl,?_⟩;have n_:=jA (uz hk fP ug.o gQ) (jA (aA.trans Q0 hk (.inl rfl)) (jA (hb) (jC (hi))));clear fP HK HB HI0;obtain ⟨fP,HK,HB,HI0⟩:=n_)|((with_reducible refine aG (N:=15) rfl ?_);refine Kd.sQ Kd.string _ 9 ?hg (N:=15) ?hd (xs:=([]:List ByteArray)) (inner:=[]) (ok:=fun _=>True) (okp:=fun _=>True) ?hr ?hp rE trivial (Below.refl _ _) (Nat.le_refl _) gQ ?_;(case hd=>rfl);(case hg=>rfl);(case hr=>exact kz);(case hp=>exact xk);intro v152 Q9 vF hb hg_ hnew_;clear hg_ hnew_;(first|rw[←am4.o] at vF|(simp only[Int.reduceToNat] at vF;rw[←am4.o] at vF));have n_:=jA (Kd.dC vF (kY (w:=w) (g:=g) (row:=none) Q0)) (jA (ag.below abv hb) (jA (dE fP hb) (jA (aA.trans Q0 (aA.of_below hb g none) (.inl rfl)) (jC (ae ads hb)))));clear HI0 fP HK HB;obtain ⟨K3,HI0,fP,HK,HB⟩:=n_;clear hb vF)|((with_reducible refine aG (N:=16) rfl ?_);refine Kd.sQ Kd.string _ 9 ?hg (N:=16) ?hd (xs:=([(⟨#[97]⟩:ByteArray),(⟨#[98]⟩:ByteArray),(⟨#[99,50]⟩:ByteArray),(⟨#[100]⟩:ByteArray)]:List ByteArray)) (inner:=[.string (⟨#[97]⟩:ByteArray),.string (⟨#[98]⟩:ByteArray),.string (⟨#[99,50]⟩:ByteArray),.string (⟨#[100]⟩:ByteArray)]) (ok:=fun _=>True) (okp:=fun _=>True) ?hr ?hp rE trivial (Below.refl _ _) (Nat.le_refl _) gQ ?_;(case hd=>rfl);(case hg=>rfl);(case hr=>exact kz);(case hp=>exact (d_.one (show Kd.M Kd.string _ _ _ (⟨#[97]⟩:ByteArray) [.string (⟨#[97]⟩:ByteArray)] from rfl) (d_.one (show Kd.M Kd.string _ _ _ (⟨#[98]⟩:ByteArray) [.string (⟨#[98]⟩:ByteArray)] from rfl) (d_.one (show Kd.M Kd.string _ _ _ (⟨#[99,50]⟩:ByteArray) [.string (⟨#[99,50]⟩:ByteArray)] from rfl) (d_.one (show Kd.M Kd.string _ _ _ (⟨#[100]⟩:ByteArray) [.string (⟨#[100]⟩:ByteArray)] from rfl) (d_.none _ _))))));intro a0A Xi abO hb hg_ hnew_;clear hg_ hnew_;(first|rw[←am5.o] at abO|(simp only[Int.reduceToNat] at abO;rw[←am5.o] at abO));have n_:=jA (Kd.gq ayi (Kd.dJ abO) hb) (jA (Kd.dC (Kd.jh abO (Kd.iY ayi)) (kY (w:=w) (g:=g) (row:=none) Q0)) (jA (ag.below abv hb) (jA (dE fP hb) (jA (aA.trans Q0 (aA.of_below hb g none) (.inl rfl)) (jC (ae ads hb))))));clear K3 HI0 fP HK HB;obtain ⟨K3,Uz,HI0,fP,HK,HB⟩:=n_;clear hb abO;obtain ⟨LJ,JO,abP⟩:=Kd.bR Uz.o;subst abP;have q16:((Y3):Int)≤((LH.length:Int):Int):=oT bL;obtain ⟨a0B,am7,_,ay1,_⟩:=info_parts l_;have Y4:LH.length≤JO:=(Kd.a_ Uz.o).2.1;have ay2:Kd.C Kd.string _ LJ LH.length LH:=(Kd.a_ Uz.o).2.2;have arj:=GZ (P:=Tryz.prog) 24 9 .i64 Tryz.underlying24 am7 LJ LH.length JO (Y3) (oT bL) q16 Y4;have ark:=Kd.Q_ (m:=((Y3):Int).toNat) ay2 bG;have arl:y157.length=((Y3):Int).toNat:=(by rw[am6.o,List.length_take];omega);rw[←am6.o] at ark;rw[←arl] at arj;have aeg:=jC ark;have aV9:=jC (show y157.length≤JO from bG);clear ark ay2 Y4 am7 ay1;have a0C:=jC arl;clear arl;have a0D:=jC (show ((Y3):Int).toNat≤LH.length from bG);replace q16:=fO q16)|((with_reducible refine bJ (b:=.append) (xs:=#[.tmp 15,.tmp 18]) rfl ?_);at_builtin;refine Kd.yh Kd.string w.heap.size rfl (.tmp 15) (.tmp 18) 24 9 (.string ⟨#[]⟩) 16 rfl Tryz.underlying24 l_ rfl au bG v152 y151 y157 _ _ _ (fun k_=>some k_≠(.slice LJ LH.length JO:Value).ownBlock) (fun _=>False) rfl rfl ?aO ?aR (fun _ _ h=>h) (fun _ h=>h.elim) ?aF (Below.refl _ _) ?aS ?aL ?_;(case aR=>repeat (first|exact (by repeat (first|(with_reducible exact aeg.o)|(with_reducible refine Kd.dF ?_ _)|(with_reducible refine Kd.dG ?_ _)|(with_reducible refine Kd.eQ ?_)|exact aeg.o))|(with_reducible refine Kd.dF ?_ _)|(with_reducible refine Kd.dG ?_ _)|(with_reducible refine Kd.eQ ?_)));(case aF=>exact (fun k_ hk=>Kd.fresh' (Kd.iY (by refine pR ?_;exact Uz.o)) k_ hk));(case aO=>exact (by refine pR ?_;exact Kd.aD K3.o mV));(case aS=>exact (kY (w:=w) (g:=g) (row:=none) Q0));(case aL=>have:=aNO.o;omega);intro v162 w18 ho hb hg hat;rw[←ayY.o] at ho;have n_:=jA (ag.grown (by repeat (first|(with_reducible first|exact HI0.o|exact ag.far HI0.o CW.o _|apply ag.alloc|apply ag.drewN|apply ag.drew|apply ag.uZ|apply ag.yC|refine ag.far ?_ CW.o _)|exact HI0.o)) hg (ag.own_ne HI0.o K3.o au)) (jA (kQ fP hg (Kd.lJ K3.o fP.o au)) (jA (ni ads HL.o hb) (jA (aA.trans Q0 (aA.qR hg g) (Kd.zC K3.o)) (jC (ho)))));clear HI0 fP Uz HB HK aeg K3;obtain ⟨HI0,fP,HB,HK,DK⟩:=n_;clear ho hb hg hat;obtain ⟨NC,ND,aNS⟩:=Kd.bR DK.o;subst aNS)|((with_reducible refine aG (N:=4) rfl ?_);refine bE 4 #[.slice none 0 0,.string (⟨#[]⟩:ByteArray),.slice none 0 0,.slice none 0 0] 28 (h:=?_);intro AR hg w20 hbox hb;have n_:=jA (Kd.bX aqK hb) (jA (ag.below abv hb) (jA (dE fP hb) (jA (aA.trans Q0 (aA.of_below hb g none) (.inl rfl)) (jA (ae ads hb) (jA (hbox) (jA ((awU:w.heap.size≤AR)) (jA ((Nat.le_trans HW0.o (awU:w.heap.size≤AR):w0.heap.size≤AR)) (jA ((by rw[hg];exact Nat.ne_of_lt (tJ fP):Af≠AR)) (jA ((by rw[hg];exact Nat.ne_of_gt (tJ fP):AR≠Af)) (jA ((by rw[hg];exact Nat.ne_of_lt (ag.lt (show ag w0 _ g bi ajB ajC from abv)):g≠AR)) (jC ((by rw[hg];exact Nat.ne_of_gt (ag.lt (show ag w0 _ g bi ajB ajC from abv)):AR≠g)))))))))))));clear DK HI0 fP HK HB;obtain ⟨DK,HI0,fP,HK,HB,fK,ayN,ayM,tV,Cc,AQ,qQ⟩:=n_;clear hb hbox hg;have aWa:=Cc.o;have aWb:=tV.o;have ay4:=qQ.o;have ay5:=AQ.o;obtain ⟨_,_,_,_,_,_,_,_⟩:=cz fK.o)|(refine gC 22 Tryz.func42 #[.pointer (some ⟨g,0,none⟩),.int .i64 9] (bf.calls w0 _ ?ai ?aj A7.o) (h:=?_);(case ai=>exact nK);(case aj=>exact xh);rintro e w24 ⟨rfl,hi,hb,hk⟩;refine ⟨_,rfl,?_⟩;have n_:=jA (aA.blk hk (g':=Af) (o:=.cells #[.slice none 0 0,.string (⟨#[]⟩:ByteArray),.slice none 0 0,.slice none 0 0] 28 (0,0)) (by refine bF tV ?_;refine bF tV ?_;refine bF tV ?_;refine bF tV ?_;refine bP ?_;exact fP.o) ug.o gQ) (jA (Kd.aD (Kd.ky (ag.apart (show ag w0 _ g bi ajB ajC from nK) (by refine pR ?_;exact (fR4 DK.o fK.o au)) au) hk mV) oI) (jA (aA.blk hk (g':=AR) (o:=.cells #[.slice NC Ae.length ND,.string (⟨#[121]⟩:ByteArray),.slice none 0 0,.slice none 0 0] 28 (0,0)) (by refine bP ?_;exact sH (sH (sH (sH (fK.o))))) qQ.o gQ) (jA (aA.trans wM hk (.inl rfl)) (jA (hb) (jC (hi))))));clear fP DK fK HK HB HI0;obtain ⟨fP,DK,fK,HK,HB,HI0⟩:=n_)|(refine gC 25 Tryz.func40 #[.pointer (some ⟨g,0,none⟩),.int .i64 10] (iN.calls w0 _ ?ai ?aj A8.o) (h:=?_);(case ai=>exact nK);(case aj=>exact xh);rintro e V9 ⟨rfl,hi,hb,hk⟩;refine ⟨_,rfl,?_⟩;have n_:=jA (uz hk fP ug.o gQ) (jA (Kd.aD (Kd.ky (ag.apart (show ag w0 _ g bi aNQ t167 from nK) aqK au) hk mV) oI) (jA (uz hk fK qQ.o gQ) (jA (aA.trans wM hk (.inl rfl)) (jA (hb) (jC (hi))))));clear fP DK fK HK HB HI0;obtain ⟨fP,DK,fK,HK,HB,HI0⟩:=n_))
 (try simp only[Act.put,List.setIfInBounds_toArray,List.set_cons_zero,List.set_cons_succ])
 go_cut [5] (fun v5 wc=>∃(kq:Nat) (aeh:Int) (Md:Int) (Me:Int),v5=.int .i64 aeh∧aa (aM.j0 kq Y3 aeh bi Md Me Ae (⟨#[121]⟩:ByteArray)=some (r1,r2,r3,r4,r5,r6))∧aa (kq≤k)∧aa (Kd.R Kd.string 9 wc w.heap.size (fun _=>True) (.slice NC Ae.length ND) Ae)∧aa (wc.heap[Af]?=some (.cells #[(.slice none 0 0),.string (⟨#[]⟩:ByteArray),(.slice none 0 0),(.slice none 0 0)] 28 (0,0)))∧aa (wc.heap[AR]?=some (.cells #[(.slice NC Ae.length ND),.string (⟨#[121]⟩:ByteArray),(.slice none 0 0),(.slice none 0 0)] 28 (0,0)))∧aa (ag w0 wc g bi Md Me)∧aa (aA w wc g none)∧aa (Below w0.heap.size w0 wc))
 case first=>
  have H:=HC9.o;clear HC9
  replace H:=iB H;obtain ⟨rfl,G⟩|⟨rfl,G⟩:=H
  ·have H:=G;clear G;have H':=jC H;clear H
   go_wp2
   go_meet
   case rel=>exact ⟨_,(wrap64 (1+aNP)),(ayZ),(ay0),bT,H',⟨Au⟩,⟨ax3⟩,⟨abL⟩,⟨abK⟩,⟨nK⟩,⟨wM⟩,⟨xh⟩⟩
  have H:=G;clear G;obtain ⟨⟨t171,aNT,t173⟩,A27,H⟩:=bd H
  try dsimp only at H
  have H':=jC H;clear H
  go_wp2_with (first|(refine gC 27 Tryz.func42 #[.pointer (some ⟨g,0,none⟩),.int .i64 40] (bf.calls w0 _ ?ai ?aj A27.o) (h:=?_);(case ai=>exact nK);(case aj=>exact xh);rintro e w28 ⟨rfl,hi,hb,hk⟩;refine ⟨_,rfl,?_⟩;have n_:=jA (uz hk fP ug.o gQ) (jA (Kd.aD (Kd.ky (ag.apart (show ag w0 _ g bi ayZ ay0 from nK) aqK au) hk mV) oI) (jA (uz hk fK qQ.o gQ) (jA (aA.trans wM hk (.inl rfl)) (jA (hb) (jC (hi))))));clear fP DK fK HK HB HI0;obtain ⟨fP,DK,fK,HK,HB,HI0⟩:=n_))
  go_meet
  case rel=>exact ⟨_,(wrap64 (1+t171)),(aNT),(t173),bT,H',⟨Au⟩,⟨ax3⟩,⟨abL⟩,⟨abK⟩,⟨nK⟩,⟨wM⟩,⟨xh⟩⟩
 case rest=>
  clear HC9;obtain ⟨kq,aeh,Md,Me,rfl,HA,HJ8,eD,fP,fK,HI0,HK,HB⟩:=hcut
  cases kq with
  |zero=>exact absurd HA.o (by simp [aM.j0])
  |succ kj8=>
   have H:=HA.o;clear HA;simp only[aM.j0] at H;obtain ⟨⟨ay7,t175,aNU⟩,A29,H⟩:=bd H
   try dsimp only at H
   have H':=jC H;clear H
   go_wp2_with (first|(refine gC 30 Tryz.func40 #[.pointer (some ⟨g,0,none⟩),.int .i64 12] (iN.calls w0 _ ?ai ?aj A29.o) (h:=?_);(case ai=>exact nK);(case aj=>exact xh);rintro e w30 ⟨rfl,hi,hb,hk⟩;refine ⟨_,rfl,?_⟩;have n_:=jA (Kd.aD (Kd.ky (ag.apart (show ag w0 _ g bi Md Me from nK) GQ au) hk mV) oI) (jA (uz hk fP ug.o gQ) (jA (uz hk fK qQ.o gQ) (jA (aA.trans wM hk (.inl rfl)) (jA (hb) (jC (hi))))));clear eD fP fK HK HB HI0;obtain ⟨eD,fP,fK,HK,HB,HI0⟩:=n_))
   go_loopg [7] kj8 (fun kq v7 w'=>∃(wD:Int) (wN:Int) (wP:Int) (uR:List (List Int)) (qH:List Int) (vH:Value) (mP:Value),v7=.int .i64 wD∧aa (aM.l0 kq Y3 aeh ay7 wD bi wN wP Ae (⟨#[121]⟩:ByteArray) uR qH=some (r1,r2,r3,r4,r5,r6))∧aa (kq≤kj8)∧aa (Kd.R Kd.string 9 w' w.heap.size (fun _=>True) (.slice NC Ae.length ND) Ae)∧aa (Kd.S (Kd.slice 3 (Kd.int .i64)) 26 w' w.heap.size (fun k_=>some k_≠(mP:Value).ownBlock) vH uR)∧aa (Kd.R (Kd.int .i64) 3 w' w.heap.size (fun _=>True) mP qH)∧aa (w'.heap[Af]?=some (.cells #[(.slice none 0 0),.string (⟨#[]⟩:ByteArray),(.slice none 0 0),(.slice none 0 0)] 28 (0,0)))∧aa (w'.heap[AR]?=some (.cells #[(.slice NC Ae.length ND),.string (⟨#[121]⟩:ByteArray),vH,mP] 28 (0,0)))∧aa (ag w0 w' g bi wN wP)∧aa (aA w w' g none)∧aa (Below w0.heap.size w0 w'))
   case atStart=>exact ⟨(0),(t175),(aNU),(([]:List (List Int))),(([]:List Int)),(.slice none 0 0),(.slice none 0 0),bT,H',⟨Nat.le_refl _⟩,⟨GQ⟩,⟨Bu⟩,⟨wB⟩,⟨abL⟩,⟨abK⟩,⟨nK⟩,⟨wM⟩,⟨xh⟩⟩
   case round=>
    clear H';obtain ⟨wD,wN,wP,uR,qH,vH,mP,rfl,HA,vD,eD,ic,eB,fP,fK,HI0,HK,HB⟩:=hrel
    cases gk with
    |zero=>exact absurd HA.o (by simp [aM.l0])
    |succ k2=>
     have H:=HA.o;clear HA;simp only[aM.l0] at H
     replace H:=iD H;obtain ⟨P7,-,H⟩|⟨P7,-,H⟩:=H
     ·simp only[Option.some.injEq,Prod.mk.injEq] at H;obtain ⟨rfl,rfl,rfl,rfl,rfl,rfl⟩:=H;have aWd:=Cc.o;have aWe:=tV.o;have am9:=qQ.o;have ana:=AQ.o;obtain ⟨_,_,_,_,_,_,_,_⟩:=cz fK.o;have ay8:=ug.o;have ay9:=CW.o;obtain ⟨_,_,_,_,_,_,_,_⟩:=cz fP.o;obtain ⟨aza,azb,azc⟩:=Kd.kX ic.o;subst azc;obtain ⟨anb,anc,aei⟩:=Kd.bR eB.o;subst aei
      go_wp2
      refine bodyPost_ret (results_cell_row rfl _ _ Af 28 #[.slice NC Ae.length ND,.string (⟨#[121]⟩:ByteArray),.slice aza uR.length azb,.slice anb qH.length anc] (0,0) _ rfl (by refine bP ?_;exact sH (sH (sH (sH (fP.o))))) Tryz.underlying28 rfl bD) rfl ?_;exact ⟨_,_,_,by first|rfl|(simp [jM,jN]<;>rfl)|(simp only[←aee];first|rfl|(simp [jM,jN]<;>rfl))|(simp [*,jM,jN]<;>rfl),by refine pR ?_;exact Kd.aD (hR1 eD.o fP.o) o8,by refine pS ?_;exact fS4 ic.o fP.o au,by refine pR ?_;exact Kd.aD (hR1 eB.o fP.o) o8,nK,xh,wM⟩
     generalize hyy:(([]:List Int))=aNW at H;have ane:=jC hyy.symm;clear hyy;have H':=jC H;clear H
     go_wp2_with (first|((with_reducible refine aG (N:=36) rfl ?_);refine Kd.sQ (Kd.int .i64) _ 3 ?hg (N:=36) ?hd (xs:=([]:List Int)) (inner:=[]) (ok:=fun _=>True) (okp:=fun _=>True) ?hr ?hp rE trivial (Below.refl _ _) (Nat.le_refl _) gQ ?_;(case hd=>rfl);(case hg=>rfl);(case hr=>exact kz);(case hp=>exact xk);intro a0E w32 Xj hb hg_ hnew_;clear hg_ hnew_;(first|rw[←ane.o] at Xj|(simp only[Int.reduceToNat] at Xj;rw[←ane.o] at Xj));have n_:=jA (Kd.bX GQ hb) (jA (Kd.tK TR (Kd.dJ Xj) hb) (jA (Kd.gq Na (Kd.dJ Xj) hb) (jA (Kd.dC (Kd.jh Xj (Kd.iY Na)) (kY (w:=w) (g:=g) (row:=none) wM)) (jA (dE fP hb) (jA (dE fK hb) (jA (ag.below nK hb) (jA (aA.trans wM (aA.of_below hb g none) (.inl rfl)) (jC (ae xh hb)))))))));clear eD ic eB fP fK HI0 HK HB;obtain ⟨eD,ic,eB,azd,fP,fK,HI0,HK,HB⟩:=n_;clear hb Xj))
     go_loopg [8,9] k2 (fun kq v8 v9 w'=>∃(Ag:List Int) (aej:Int) (ko:Int) (kr:Int),v9=.int .i64 aej∧aa (aM.l1 kq Y3 aeh ay7 wD Ag aej bi ko kr Ae (⟨#[121]⟩:ByteArray) uR qH=some (r1,r2,r3,r4,r5,r6))∧aa (kq≤k2)∧aa (Kd.R (Kd.int .i64) 3 w' w.heap.size (fun k_=>some k_≠(mP:Value).ownBlock) v8 Ag)∧aa (Kd.R Kd.string 9 w' w.heap.size (fun _=>True) (.slice NC Ae.length ND) Ae)∧aa (Kd.S (Kd.slice 3 (Kd.int .i64)) 26 w' w.heap.size (fun k_=>some k_≠(v8:Value).ownBlock∧some k_≠(mP:Value).ownBlock) vH uR)∧aa (Kd.R (Kd.int .i64) 3 w' w.heap.size (fun k_=>some k_≠(v8:Value).ownBlock) mP qH)∧aa (w'.heap[Af]?=some (.cells #[(.slice none 0 0),.string (⟨#[]⟩:ByteArray),(.slice none 0 0),(.slice none 0 0)] 28 (0,0)))∧aa (w'.heap[AR]?=some (.cells #[(.slice NC Ae.length ND),.string (⟨#[121]⟩:ByteArray),vH,mP] 28 (0,0)))∧aa (ag w0 w' g bi ko kr)∧aa (aA w w' g none)∧aa (Below w0.heap.size w0 w'))
     case atStart=>exact ⟨(aNW),(0),(wN),(wP),bT,H',⟨Nat.le_refl _⟩,⟨by refine pR ?_;exact Kd.aD azd.o mV⟩,⟨GQ⟩,⟨aiL⟩,⟨aqx⟩,⟨abL⟩,⟨abK⟩,⟨nK⟩,⟨wM⟩,⟨xh⟩⟩
     case round=>
      clear H';obtain ⟨Ag,aej,ko,kr,rfl,HA,Xa,uA,eD,ic,eB,fP,fK,HI0,HK,HB⟩:=hrel
      cases gk with
      |zero=>exact absurd HA.o (by simp [aM.l1])
      |succ k3=>
       have H:=HA.o;clear HA;simp only[aM.l1] at H
       replace H:=jD H;obtain ⟨anf,-,H⟩|⟨anf,-,H⟩:=H
       ·obtain ⟨⟨arn,aek,t182⟩,A35,H⟩:=bd H
        try dsimp only at H
        replace H:=jB H;obtain ⟨rfl,G⟩|⟨rfl,G⟩:=H
        ·have H:=G;clear G;obtain ⟨c37,H⟩:=nD H;have ael:=jC c37;clear c37;generalize hyy:(Ag++ [arn])=aNX at H;have aze:=jC hyy.symm;clear hyy;have H':=jC H;clear H
         go_wp2_with (first|(refine gC 43 Tryz.func71 #[.pointer (some ⟨g,0,none⟩)] (lh.calls w0 _ ?ai ?aj A35.o) (h:=?_);(case ai=>exact nK);(case aj=>exact xh);rintro e S_ ⟨rfl,hi,hb,hk⟩;refine ⟨_,rfl,?_⟩;have n_:=Z2;clear uA eD ic eB fP fK HK HB HI0;obtain ⟨uA,eD,ic,eB,fP,fK,HK,HB,HI0⟩:=n_)|((with_reducible refine bJ (b:=.append) (xs:=#[.tmp 50,.tmp 52]) rfl ?_);at_builtin;refine Kd.gH (Kd.int .i64) w.heap.size rfl (.tmp 50) (.tmp 52) 26 3 (.int .i64 0) 8 rfl Tryz.underlying26 info3 rfl au bG u8 Ag arn [.int .i64 arn] (fun k_=>some k_≠(mP:Value).ownBlock) (fun _=>False) rfl rfl ?aP (fun _ hk=>hk.elim) ?aF ?aO (Below.refl _ _) ?aS ?aL ?_;(case aP=>exact rfl);(case aF=>exact adB);(case aO=>exact ax8);(case aS=>exact Z97);(case aL=>have:=ael.o;omega);intro a0F w39 ho hb hg hat;rw[←aze.o] at ho;have n_:=Z5;clear eD ic eB fP fK HI0 HB HK uA;obtain ⟨eD,ic,eB,fP,fK,HI0,HB,HK,azf⟩:=n_;clear ho hb hg hat))
         go_roundg k3
         case measure=>have:=HJ8.o;have:=vD.o;have:=Xa.o;omega
         case rel=>exact ⟨(aNX),(wrap64 (aej+1)),(aek),(t182),bT,H',⟨adP⟩,⟨by refine pR ?_;exact azf.o⟩,⟨GQ⟩,⟨aiL⟩,⟨aqx⟩,⟨abL⟩,⟨abK⟩,⟨nK⟩,⟨wM⟩,⟨xh⟩⟩
        have H:=G;clear G;obtain ⟨⟨aro,aNY,aNZ⟩,A40,H⟩:=bd H
        try dsimp only at H
        obtain ⟨c41,H⟩:=nD H;have aem:=jC c41;clear c41;generalize hyy:(Ag++ [wrap64 (500 * (wrap64 (aro - 3)))])=aN1 at H;have azh:=jC hyy.symm;clear hyy;have H':=jC H;clear H
        go_wp2_with (first|(refine gC 43 Tryz.func71 #[.pointer (some ⟨g,0,none⟩)] (lh.calls w0 _ ?ai ?aj A35.o) (h:=?_);(case ai=>exact nK);(case aj=>exact xh);rintro e w42 ⟨rfl,hi,hb,hk⟩;refine ⟨_,rfl,?_⟩;have n_:=Z2;clear uA eD ic eB fP fK HK HB HI0;obtain ⟨uA,eD,ic,eB,fP,fK,HK,HB,HI0⟩:=n_)|(refine gC 47 Tryz.func42 #[.pointer (some ⟨g,0,none⟩),.int .i64 7] (bf.calls w0 _ ?ai ?aj A40.o) (h:=?_);(case ai=>exact nK);(case aj=>exact xh);rintro e w43 ⟨rfl,hi,hb,hk⟩;refine ⟨_,rfl,?_⟩;have n_:=jA (Kd.aD (Kd.ky (ag.apart (show ag w0 _ g bi aek t182 from nK) abo au) hk mV) oI) (jA (Kd.aD (Kd.ky (ag.apart (show ag w0 _ g bi aek t182 from nK) GQ au) hk mV) oI) (jA (Kd.gu (Kd.rC (ag.qD (show ag w0 _ g bi aek t182 from nK) TR au) hk mV) oI) (jA (Kd.aD (Kd.ky (ag.apart (show ag w0 _ g bi aek t182 from nK) Na au) hk mV) oI) (jA (uz hk fP ug.o gQ) (jA (uz hk fK qQ.o gQ) (jA (aA.trans wM hk (.inl rfl)) (jA (hb) (jC (hi)))))))));clear uA eD ic eB fP fK HK HB HI0;obtain ⟨uA,eD,ic,eB,fP,fK,HK,HB,HI0⟩:=n_)|((with_reducible refine bJ (b:=.append) (xs:=#[.tmp 50,.tmp 52]) rfl ?_);at_builtin;refine Kd.gH (Kd.int .i64) w.heap.size rfl (.tmp 50) (.tmp 52) 26 3 (.int .i64 0) 8 rfl Tryz.underlying26 info3 rfl au bG u8 Ag (wrap64 (500 * (wrap64 (aro - 3)))) [.int .i64 (wrap64 (500 * (wrap64 (aro - 3))))] (fun k_=>some k_≠(mP:Value).ownBlock) (fun _=>False) rfl rfl ?aP (fun _ hk=>hk.elim) ?aF ?aO (Below.refl _ _) ?aS ?aL ?_;(case aP=>exact rfl);(case aF=>exact adB);(case aO=>exact ax8);(case aS=>exact Z97);(case aL=>have:=aem.o;omega);intro a0G w44 ho hb hg hat;rw[←azh.o] at ho;have n_:=Z5;clear eD ic eB fP fK HI0 HB HK uA;obtain ⟨eD,ic,eB,fP,fK,HI0,HB,HK,azj⟩:=n_;clear ho hb hg hat))
        go_roundg k3
        case measure=>have:=HJ8.o;have:=vD.o;have:=Xa.o;omega
        case rel=>exact ⟨(aN1),(wrap64 (aej+1)),(aNY),(aNZ),bT,H',⟨adP⟩,⟨by refine pR ?_;exact azj.o⟩,⟨GQ⟩,⟨aiL⟩,⟨aqx⟩,⟨abL⟩,⟨abK⟩,⟨nK⟩,⟨wM⟩,⟨xh⟩⟩
       obtain ⟨c45,H⟩:=nD H;have aeo:=jC c45;clear c45;obtain ⟨JN,aep,H⟩:=yB H;obtain ⟨⟨abR,t196,UA⟩,A46,H⟩:=bd H
       try dsimp only at H
       replace H:=jB H;obtain ⟨rfl,G⟩|⟨rfl,G⟩:=H
       ·have H:=G;clear G;obtain ⟨c48,H⟩:=nD H;have azk:=jC c48;clear c48;generalize hyy:(qH++ [abR])=azl at H;have azm:=jC hyy.symm;clear hyy;have H':=jC H;clear H;have aWh:=Cc.o;have aWi:=tV.o;have azn:=qQ.o;have azo:=AQ.o;obtain ⟨_,_,_,_,_,_,_,_⟩:=cz fK.o;obtain ⟨azp,azq,aN4⟩:=Kd.bR uA.o;subst aN4
        go_wp2_with (first|((with_reducible refine bJ (b:=.append) (xs:=#[.tmp 55,.tmp 57]) rfl ?_);at_builtin;refine Kd.Ce (Kd.slice 3 (Kd.int .i64)) w.heap.size rfl (.tmp 55) (.tmp 57) 25 26 (.slice none 0 0) 24 rfl Tryz.underlying25 Bv rfl au bG vH uR Ag [.slice azp Ag.length azq] (fun k_=>some k_≠(mP:Value).ownBlock) (fun k_=>some k_=(.slice azp Ag.length azq:Value).ownBlock) rfl rfl ?aP (fun k_ hk_=>((Kd.aD (ok':=fun k_=>((fun k_=>some k_≠(mP:Value).ownBlock)) k_∧some k_≠(vH:Value).ownBlock) (Kd.ji (uA.o) (Kd.kI ic.o) au) (fun k_ hk=>⟨hk.1,hk.2⟩))).1 k_ hk_.symm) ?aF ?aO (Below.refl _ _) ?aS ?aL ?_;(case aP=>exact Z94);(case aF=>exact adB);(case aO=>exact aqe);(case aS=>exact Z97);(case aL=>have:=aeo.o;omega);intro v193 w52 ho hb hg hat;rw[←aep.o] at ho;have n_:=Z10;clear eD eB fP fK HI0 HB HK ic uA;obtain ⟨eD,eB,fP,fK,HI0,HB,HK,qf⟩:=n_;clear ho hb hg hat;obtain ⟨ED,D_,Ra⟩:=Kd.kX qf.o;subst Ra;obtain ⟨_,_,_,_,_,_,_,_⟩:=cz fK.o)|(refine gC 61 Tryz.func71 #[.pointer (some ⟨g,0,none⟩)] (lh.calls w0 _ ?ai ?aj A46.o) (h:=?_);(case ai=>exact nK);(case aj=>exact xh);rintro e w56 ⟨rfl,hi,hb,hk⟩;refine ⟨_,rfl,?_⟩;have n_:=jA (Kd.aD (Kd.ky (ag.apart (show ag w0 _ g bi ko kr from nK) aqs au) hk mV) oI) (jA (Kd.aD (Kd.ky (ag.apart (show ag w0 _ g bi ko kr from nK) aqr au) hk mV) oI) (jA (aA.blk hk (g':=Af) (o:=.cells #[.slice none 0 0,.string (⟨#[]⟩:ByteArray),.slice none 0 0,.slice none 0 0] 28 (0,0)) abD ug.o gQ) (jA (aA.blk hk (g':=AR) (o:=.cells #[.slice NC Ae.length ND,.string (⟨#[121]⟩:ByteArray),.slice ED JN.length D_,mP] 28 (0,0)) abG qQ.o gQ) (jA (Kd.gu (Kd.rC (ag.qD (show ag w0 _ g bi ko kr from nK) aqv au) hk mV) oI) (jA (aA.trans wM hk (.inl rfl)) (jA (hb) (jC (hi))))))));clear eD eB fP fK qf HK HB HI0;obtain ⟨eD,eB,fP,fK,qf,HK,HB,HI0⟩:=n_;obtain ⟨_,_,_,_,_,_,_,_⟩:=cz fK.o)|((with_reducible refine bJ (b:=.append) (xs:=#[.tmp 78,.tmp 80]) rfl ?_);at_builtin;refine Kd.gH (Kd.int .i64) w.heap.size rfl (.tmp 78) (.tmp 80) 26 3 (.int .i64 0) 8 rfl Tryz.underlying26 info3 rfl au bG mP qH abR [.int .i64 abR] (fun _=>True) (fun _=>False) rfl rfl ?aP (fun _ hk=>hk.elim) ?aF ?aO (Below.refl _ _) ?aS ?aL ?_;(case aP=>exact rfl);(case aF=>exact o8);(case aO=>exact aqu);(case aS=>exact Z97);(case aL=>have:=azk.o;omega);intro a0I w58 ho hb hg hat;rw[←azm.o] at ho;have n_:=Z11;clear eD fP fK HI0 qf HB HK eB;obtain ⟨eD,fP,fK,HI0,qf,HB,HK,ang⟩:=n_;clear ho hb hg hat;obtain ⟨arp,arq,ajE⟩:=Kd.bR ang.o;subst ajE;obtain ⟨_,_,_,_,_,_,_,_⟩:=cz fK.o))
        go_roundg k3
        case measure=>have:=HJ8.o;have:=vD.o;have:=Xa.o;omega
        case rel=>exact ⟨(wrap64 (wD+1)),(t196),(UA),(JN),(azl),(.slice ED JN.length D_),(.slice arp azl.length arq),bT,H',⟨adP⟩,⟨aqp⟩,⟨aqt⟩,⟨by refine pR ?_;exact Kd.aD (hR0 ang.o fK.o) o8⟩,⟨abD⟩,⟨abG⟩,⟨nK⟩,⟨wM⟩,⟨xh⟩⟩
       have H:=G;clear G;obtain ⟨⟨t201,ajF,t203⟩,A61,H⟩:=bd H
       try dsimp only at H
       replace H:=jB H;obtain ⟨rfl,G⟩|⟨rfl,G⟩:=H
       ·have H:=G;clear G;obtain ⟨c63,H⟩:=nD H;have azr:=jC c63;clear c63;generalize hyy:(qH++ [abR])=azs at H;have azt:=jC hyy.symm;clear hyy;have H':=jC H;clear H;have aWm:=Cc.o;have aWn:=tV.o;have azu:=qQ.o;have azv:=AQ.o;obtain ⟨_,_,_,_,_,_,_,_⟩:=cz fK.o;obtain ⟨azw,ars,ajG⟩:=Kd.bR uA.o;subst ajG
        go_wp2_with (first|((with_reducible refine bJ (b:=.append) (xs:=#[.tmp 55,.tmp 57]) rfl ?_);at_builtin;refine Kd.Ce (Kd.slice 3 (Kd.int .i64)) w.heap.size rfl (.tmp 55) (.tmp 57) 25 26 (.slice none 0 0) 24 rfl Tryz.underlying25 Bv rfl au bG vH uR Ag [.slice azw Ag.length ars] (fun k_=>some k_≠(mP:Value).ownBlock) (fun k_=>some k_=(.slice azw Ag.length ars:Value).ownBlock) rfl rfl ?aP (fun k_ hk_=>((Kd.aD (ok':=fun k_=>((fun k_=>some k_≠(mP:Value).ownBlock)) k_∧some k_≠(vH:Value).ownBlock) (Kd.ji (uA.o) (Kd.kI ic.o) au) (fun k_ hk=>⟨hk.1,hk.2⟩))).1 k_ hk_.symm) ?aF ?aO (Below.refl _ _) ?aS ?aL ?_;(case aP=>exact Z94);(case aF=>exact adB);(case aO=>exact aqe);(case aS=>exact Z97);(case aL=>have:=aeo.o;omega);intro v193 w67 ho hb hg hat;rw[←aep.o] at ho;have n_:=Z10;clear eD eB fP fK HI0 HB HK ic uA;obtain ⟨eD,eB,fP,fK,HI0,HB,HK,qf⟩:=n_;clear ho hb hg hat;obtain ⟨azx,azy,aN5⟩:=Kd.kX qf.o;subst aN5;obtain ⟨_,_,_,_,_,_,_,_⟩:=cz fK.o)|(refine gC 61 Tryz.func71 #[.pointer (some ⟨g,0,none⟩)] (lh.calls w0 _ ?ai ?aj A46.o) (h:=?_);(case ai=>exact nK);(case aj=>exact xh);rintro e w71 ⟨rfl,hi,hb,hk⟩;refine ⟨_,rfl,?_⟩;have n_:=jA (Kd.aD (Kd.ky (ag.apart (show ag w0 _ g bi ko kr from nK) aqs au) hk mV) oI) (jA (Kd.aD (Kd.ky (ag.apart (show ag w0 _ g bi ko kr from nK) aqr au) hk mV) oI) (jA (aA.blk hk (g':=Af) (o:=.cells #[.slice none 0 0,.string (⟨#[]⟩:ByteArray),.slice none 0 0,.slice none 0 0] 28 (0,0)) abD ug.o gQ) (jA (aA.blk hk (g':=AR) (o:=.cells #[.slice NC Ae.length ND,.string (⟨#[121]⟩:ByteArray),.slice azx JN.length azy,mP] 28 (0,0)) abG qQ.o gQ) (jA (Kd.gu (Kd.rC (ag.qD (show ag w0 _ g bi ko kr from nK) aqv au) hk mV) oI) (jA (aA.trans wM hk (.inl rfl)) (jA (hb) (jC (hi))))))));clear eD eB fP fK qf HK HB HI0;obtain ⟨eD,eB,fP,fK,qf,HK,HB,HI0⟩:=n_)|(go_at_call 40;(with_reducible refine (iN.calls w0 _ ?ai ?aj A61.o).mono ?_);(case ai=>exact nK);(case aj=>exact xh);rintro e w72 ⟨rfl,hi,hb,hk⟩;have n_:=jA (Kd.aD (Kd.ky (ag.apart (show ag w0 _ g bi t196 UA from nK) GQ au) hk mV) oI) (jA (Kd.aD (Kd.ky (ag.apart (show ag w0 _ g bi t196 UA from nK) Na au) hk mV) oI) (jA (uz hk fP ug.o gQ) (jA (uz hk fK qQ.o gQ) (jA (Kd.gu (Kd.rC (ag.qD (show ag w0 _ g bi t196 UA from nK) aqF au) hk mV) oI) (jA (aA.trans wM hk (.inl rfl)) (jA (hb) (jC (hi))))))));clear eD eB fP fK qf HK HB HI0;obtain ⟨eD,eB,fP,fK,qf,HK,HB,HI0⟩:=n_;obtain ⟨_,_,_,_,_,_,_,_⟩:=cz fK.o)|((with_reducible refine bJ (b:=.append) (xs:=#[.tmp 78,.tmp 80]) rfl ?_);at_builtin;refine Kd.gH (Kd.int .i64) w.heap.size rfl (.tmp 78) (.tmp 80) 26 3 (.int .i64 0) 8 rfl Tryz.underlying26 info3 rfl au bG mP qH abR [.int .i64 abR] (fun _=>True) (fun _=>False) rfl rfl ?aP (fun _ hk=>hk.elim) ?aF ?aO (Below.refl _ _) ?aS ?aL ?_;(case aP=>exact rfl);(case aF=>exact o8);(case aO=>exact aqu);(case aS=>exact Z97);(case aL=>have:=azr.o;omega);intro a0K w74 ho hb hg hat;rw[←azt.o] at ho;have n_:=Z11;clear eD fP fK HI0 qf HB HK eB;obtain ⟨eD,fP,fK,HI0,qf,HB,HK,anh⟩:=n_;clear ho hb hg hat;obtain ⟨azz,azA,art⟩:=Kd.bR anh.o;subst art;obtain ⟨_,_,_,_,_,_,_,_⟩:=cz fK.o))
        go_roundg k3
        case measure=>have:=HJ8.o;have:=vD.o;have:=Xa.o;omega
        case rel=>exact ⟨(wrap64 (wD+1)),(ajF),(t203),(JN),(azs),(.slice azx JN.length azy),(.slice azz azs.length azA),bT,H',⟨adP⟩,⟨aqp⟩,⟨aqt⟩,⟨by refine pR ?_;exact Kd.aD (hR0 anh.o fK.o) o8⟩,⟨abD⟩,⟨abG⟩,⟨nK⟩,⟨wM⟩,⟨xh⟩⟩
       have H:=G;clear G;obtain ⟨aWo,c77,H⟩:=l5 H;have aWp:decide (0<Ag.length)=true:=rM bG;clear c77;obtain ⟨⟨t208,aN7,t210⟩,A78,H⟩:=bd H
       try dsimp only at H
       obtain ⟨c79,H⟩:=nD H;have azB:=jC c79;clear c79;generalize hyy:(qH++ [wrap64 ((wrap64 ((rd Ag 0) * 2))+(wrap64 (100 * t208)))])=azC at H;have azD:=jC hyy.symm;clear hyy;have H':=jC H;clear H;have aWq:=Cc.o;have aWr:=tV.o;have aWs:=qQ.o;have aWt:=AQ.o;obtain ⟨_,_,_,_,_,_,_,_⟩:=cz fK.o;obtain ⟨azE,aru,ajH⟩:=Kd.bR uA.o;subst ajH
       try go_wp2_with (first|((with_reducible refine bJ (b:=.append) (xs:=#[.tmp 55,.tmp 57]) rfl ?_);at_builtin;refine Kd.Ce (Kd.slice 3 (Kd.int .i64)) w.heap.size rfl (.tmp 55) (.tmp 57) 25 26 (.slice none 0 0) 24 rfl Tryz.underlying25 Bv rfl au bG vH uR Ag [.slice azE Ag.length aru] (fun k_=>some k_≠(mP:Value).ownBlock) (fun k_=>some k_=(.slice azE Ag.length aru:Value).ownBlock) rfl rfl ?aP (fun k_ hk_=>((Kd.aD (ok':=fun k_=>((fun k_=>some k_≠(mP:Value).ownBlock)) k_∧some k_≠(vH:Value).ownBlock) (Kd.ji (uA.o) (Kd.kI ic.o) au) (fun k_ hk=>⟨hk.1,hk.2⟩))).1 k_ hk_.symm) ?aF ?aO (Below.refl _ _) ?aS ?aL ?_;(case aP=>exact Z94);(case aF=>exact adB);(case aO=>exact aqe);(case aS=>exact Z97);(case aL=>have:=aeo.o;omega);intro v193 w83 ho hb hg hat;rw[←aep.o] at ho;have lg:=jC (Kd.kC GQ (Kd.kI TR) au hg);have nh_:=jC (Kd.kC abo (Kd.kI TR) au hg);have ma:=jC (Kd.kC Na (Kd.kI TR) au hg);have mf:=jC (kQ fP hg (Kd.Ex ic.o fP.o au));have mg:=jC (kQ fK hg (Kd.Ex ic.o fK.o au));have nV:=jC (ag.grown aiM hg (ag.ui HI0.o ic.o au));have rJ:=jC (ni xh HL.o hb);have wE:=jC (aA.trans wM (aA.qR hg g) (Kd.L_ ic.o));have Ct:=jC (ho);clear eD;clear eB;clear fP;clear fK;clear HI0;clear HB;clear HK;clear ic;clear uA;have eD:=lg;have uA:=nh_;clear nh_;have eB:=ma;have fP:=mf;have fK:=mg;have HI0:=nV;have HB:=rJ;have HK:=wE;have qf:=Ct;clear lg ma mf mg nV rJ wE Ct;clear ho hb hg hat;obtain ⟨azF,azG,aN8⟩:=Kd.kX qf.o;subst aN8;obtain ⟨_,_,_,_,_,_,_,_⟩:=cz fK.o)|(refine gC 61 Tryz.func71 #[.pointer (some ⟨g,0,none⟩)] (lh.calls w0 _ ?ai ?aj A46.o) (h:=?_);(case ai=>exact nK);(case aj=>exact xh);rintro e w87 ⟨rfl,hi,hb,hk⟩;refine ⟨_,rfl,?_⟩;have lg:=jC (Kd.aD (Kd.ky (ag.apart (show ag w0 _ g bi ko kr from nK) aqs au) hk mV) oI);have nh_:=jC (Kd.aD (Kd.ky (ag.apart (show ag w0 _ g bi ko kr from nK) (by refine pR ?_;exact (fR1 uA.o fK.o au)) au) hk mV) oI);have ma:=jC (Kd.aD (Kd.ky (ag.apart (show ag w0 _ g bi ko kr from nK) aqr au) hk mV) oI);have mf:=jC (aA.blk hk (g':=Af) (o:=.cells #[.slice none 0 0,.string (⟨#[]⟩:ByteArray),.slice none 0 0,.slice none 0 0] 28 (0,0)) abD ug.o gQ);have mg:=jC (aA.blk hk (g':=AR) (o:=.cells #[.slice NC Ae.length ND,.string (⟨#[121]⟩:ByteArray),.slice azF JN.length azG,mP] 28 (0,0)) abG qQ.o gQ);have nV:=jC (Kd.gu (Kd.rC (ag.qD (show ag w0 _ g bi ko kr from nK) aqv au) hk mV) oI);have rJ:=jC (aA.trans wM hk (.inl rfl));have wE:=jC (hb);have Ct:=jC (hi);clear eD;clear eB;clear fP;clear fK;clear qf;clear HK;clear HB;clear HI0;have eD:=lg;have uA:=nh_;clear nh_;have eB:=ma;have fP:=mf;have fK:=mg;have qf:=nV;have HK:=rJ;have HB:=wE;have HI0:=Ct;clear lg ma mf mg nV rJ wE Ct)|(go_at_call 40;(with_reducible refine (iN.calls w0 _ ?ai ?aj A61.o).mono ?_);(case ai=>exact nK);(case aj=>exact xh);rintro e w88 ⟨rfl,hi,hb,hk⟩;have lg:=jC (Kd.aD (Kd.ky (ag.apart (show ag w0 _ g bi t196 UA from nK) GQ au) hk mV) oI);have nh_:=jC (Kd.aD (Kd.ky (ag.apart (show ag w0 _ g bi t196 UA from nK) abo au) hk mV) oI);have ma:=jC (Kd.aD (Kd.ky (ag.apart (show ag w0 _ g bi t196 UA from nK) Na au) hk mV) oI);have mf:=jC (uz hk fP ug.o gQ);have mg:=jC (uz hk fK qQ.o gQ);have nV:=jC (Kd.gu (Kd.rC (ag.qD (show ag w0 _ g bi t196 UA from nK) aqF au) hk mV) oI);have rJ:=jC (aA.trans wM hk (.inl rfl));have wE:=jC (hb);have Ct:=jC (hi);clear eD;clear eB;clear fP;clear fK;clear qf;clear HK;clear HB;clear HI0;have eD:=lg;have uA:=nh_;clear nh_;have eB:=ma;have fP:=mf;have fK:=mg;have qf:=nV;have HK:=rJ;have HB:=wE;have HI0:=Ct;clear lg ma mf mg nV rJ wE Ct))
       have lg:=jC (Kd.tZ eD.o);have nh_:=jC (Kd.tZ uA.o);have ma:=jC (Kd.tZ eB.o);have mf:=jC (Kd.zZ qf.o);have mg:=jC (ib fP.o);have nV:=jC (ib fK.o);have rJ:=jC (ag.drew HI0.o);have wE:=jC (oN HK.o);have Ct:=jC (aU HB.o);clear eD;clear eB;clear qf;clear fP;clear fK;clear HI0;clear HK;clear HB;have eD:=lg;have uA:=nh_;clear nh_;have eB:=ma;have qf:=mf;have fP:=mg;have fK:=nV;have HI0:=rJ;have HK:=wE;have HB:=Ct;clear lg ma mf mg nV rJ wE Ct;have arv:0≤(0:Int):=bG;have arw:0<(Ag.length:Int):=oT bL;obtain ⟨azH,e207,Mf⟩:=Kd.JL (Kd.a_ uA.o).2.2 0 arv arw
       cases e207
       have aWu:(0<Ag.length)=True:=fO bG;(try rw[show ((0:Int)).toNat=0 from rfl] at Mf);(try rw[Addr.add_zero'] at Mf);replace arv:=fO arv;replace arw:=fO arw;refine iZ (n:=9) (S:=fun w'=>w'.cell? azH=some (.int .i64 (rd Ag 0))) (ds:=[]) (qM 9 0) bD rfl (by kernel_rfl) (Mf) (fun hHeld=>?_);refine fZ aM.ayX aM.ari (fun HT_ HW_=>?_);generalize w88.drew=w89 at uA eD eB qf fP fK HI0 HK HB Mf hHeld ⊢;refine rP 0 (h:=?_);refine rP 1 (h:=?_);refine rP 4 (h:=?_);refine DC (i:=2) (N:=some 71) (v:=?_) (a':=?_) (qM 9 23) rfl rfl (zY HT_.o HW_.o bD) (fun _ _ _ h=>h) (Or.inl ⟨ek,?_⟩) hHeld ?_ ?_;rotate_left
       ·intro w' s0
        go_simp
        with_reducible rfl
       rotate_left
       ·simp only[Act.put,List.setIfInBounds_toArray,List.set_cons_zero,List.set_cons_succ,jT,kS]
        rfl
       refine rP 3 (h:=?_);refine rO 5 (h:=fun K hK=>?_);refine lY Tryz.func42 bD rfl #[.pointer (some ⟨g,0,none⟩),.int .i64 5] ek rfl rfl ql ?_
       with_reducible refine (bf.calls w0 _ ?ai ?aj A78.o).mono ?_
       (case ai=>exact nK)
       (case aj=>exact xh)
       rintro e w90 ⟨rfl,hi,hb,hk⟩;have Bw:=xE hk (hHeld) (by first|(rw[add_block];exact Kd.qY (ag.own_ne HI0.o uA.o au))|(show (Addr.add _ _).block≠_;rw[add_block];exact Kd.qY (ag.own_ne HI0.o uA.o au))|exact Kd.qY (ag.own_ne HI0.o uA.o au)|(dsimp only;exact Kd.qY (ag.own_ne HI0.o uA.o au)));refine ⟨_,rfl,?_⟩;have n_:=jA (Kd.aD (Kd.ky (ag.apart (show ag w0 _ g bi ajF t203 from nK) GQ au) hk mV) oI) (jA (Kd.aD (Kd.ky (ag.apart (show ag w0 _ g bi ajF t203 from nK) Na au) hk mV) oI) (jA (uz hk fP ug.o gQ) (jA (uz hk fK qQ.o gQ) (jA (Kd.gu (Kd.rC (ag.qD (show ag w0 _ g bi ajF t203 from nK) aqF au) hk mV) oI) (jA (aA.trans wM hk (.inl rfl)) (jA (hb) (jC (hi))))))));clear eD eB fP fK qf HK HB HI0;obtain ⟨eD,eB,fP,fK,qf,HK,HB,HI0⟩:=n_;(try clear hb);(try clear hb2);(try clear hk);(try clear hi);refine hK.out _ _ (Bw) (fun hHeld=>?_);clear hK K;refine rN (h:=?_);refine rP 6 (h:=?_);refine rP 7 (h:=?_);refine rP 8 (h:=?_);refine kT (jv HT_.o bD) ?_;obtain ⟨_,_,_,_,_,_,_,_⟩:=cz fK.o
       try go_wp2_with (first|((with_reducible refine bJ (b:=.append) (xs:=#[.tmp 78,.tmp 80]) rfl ?_);at_builtin;refine Kd.gH (Kd.int .i64) w.heap.size rfl (.tmp 78) (.tmp 80) 26 3 (.int .i64 0) 8 rfl Tryz.underlying26 info3 rfl au bG mP qH (wrap64 ((wrap64 ((rd Ag 0) * 2))+(wrap64 (100 * t208)))) [.int .i64 (wrap64 ((wrap64 ((rd Ag 0) * 2))+(wrap64 (100 * t208))))] (fun _=>True) (fun _=>False) rfl rfl ?aP (fun _ hk=>hk.elim) ?aF ?aO (Below.refl _ _) ?aS ?aL ?_;(case aP=>exact rfl);(case aF=>exact o8);(case aO=>exact aqu);(case aS=>exact Z97);(case aL=>have:=azB.o;omega);intro v212 w92 ho hb hg hat;rw[←azD.o] at ho;have n_:=Z11;clear eD fP fK HI0 qf HB HK eB;obtain ⟨eD,fP,fK,HI0,qf,HB,HK,ani⟩:=n_;clear ho hb hg hat;obtain ⟨aOa,aOb,aOc⟩:=Kd.bR ani.o;subst aOc;obtain ⟨_,_,_,_,_,_,_,_⟩:=cz fK.o))
       go_roundg k3
       case measure=>have:=HJ8.o;have:=vD.o;have:=Xa.o;omega
       case rel=>exact ⟨(wrap64 (wD+1)),(aN7),(t210),(JN),(azC),(.slice azF JN.length azG),(.slice aOa azC.length aOb),bT,H',⟨adP⟩,⟨aqp⟩,⟨aqt⟩,⟨by refine pR ?_;exact Kd.aD (hR0 ani.o fK.o) o8⟩,⟨abD⟩,⟨abG⟩,⟨nK⟩,⟨wM⟩,⟨xh⟩⟩
def lH.f (bi:List Int) (gL:Int) (mG:Int) (l1:List ByteArray):Option (ByteArray × Int × Int):=(bf.f bi gL mG (l1.length:Int)).bind fun UB=>(if 0≤UB.1 then (if UB.1<(l1.length:Int) then (some (jg ByteArray.empty l1 UB.1,UB.2.1,UB.2.2)) else (none)) else (none))
theorem lH.calls {g:Nat} {bi:List Int} {gL:Int} {mG:Int} {A1:Option Addr} {c1:Nat} {l1:List ByteArray} {r1:ByteArray} {r2:Int} {r3:Int} (w0 w:World) (hI:ag w0 w g bi gL mG) (hB:Below w0.heap.size w0 w) (hr1:Kd.C Kd.string w A1 l1.length l1) (hc1:l1.length≤c1) (hf1:∀ad,A1=some ad→0<l1.length→ad.block≠g) (h:lH.f bi gL mG l1=some (r1,r2,r3)):
  Calls Tryz.prog 43 #[.pointer (some ⟨g,0,none⟩),.slice A1 l1.length c1] w fun e w'=>e=.returned (.string r1)∧ag w0 w' g bi r2 r3∧Below w0.heap.size w0 w'∧aA w w' g none:=by
 have HR1:=jC hr1;have HC1:=jC hc1;clear hr1 hc1;have HI0:=jC hI;have HK:=jC (aA.refl w g none);have HL:=jC hB.size;clear hI;have HW0:=jC hB.size;have HB:=jC hB;clear hB;have H:=h;clear h;unfold lH.f at H;obtain ⟨⟨arx,a0N,a0O⟩,A3,H⟩:=bd H
 try dsimp only at H
 obtain ⟨qo,-,H⟩:=l5 H;obtain ⟨oZ,-,H⟩:=l5 H;simp only[Option.some.injEq,Prod.mk.injEq] at H;obtain ⟨rfl,rfl,rfl⟩:=H;go_enter Tryz.func43,Tryz.ntmps43
 go_wp2_with (first|(refine gC 9 Tryz.func42 #[.pointer (some ⟨g,0,none⟩),.int .i64 (l1.length:Int)] (bf.calls w0 _ ?ai ?aj A3.o) (h:=?_);(case ai=>exact nk);(case aj=>exact nQ);rintro e wC ⟨rfl,hi,hb,hk⟩;refine ⟨_,rfl,?_⟩;have n_:=vT;clear HK HB HI0;obtain ⟨HK,HB,HI0⟩:=n_;have pq2:0≤(arx:Int):=oT bL;have qq2:arx<(l1.length:Int):=oT bL;obtain ⟨ayb,eq2,Nw⟩:=Kd.oP HR1.o arx pq2 qq2;cases eq2;replace Nw:=xE HK.o Nw aya;replace pq2:=fO pq2;replace qq2:=fO qq2))
 go_ret;exact ⟨fT,nk,nQ,qy⟩
end
section
set_option maxHeartbeats 8000000
set_option maxRecDepth 100000
def kH.l0:Nat→Int→Int→List Int→Int→Int→Option (Int × Int × Int)
 |0,_,_,_,_,_=>none
 |k+1,x3,x4,x1000,nU,vk=>if x4<8 then ((kL.f x1000 nU vk).bind fun aer=>(kH.l0 k (wrap64 ((wrap64 (x3 * 256))+aer.1)) (wrap64 (x4+1)) x1000 aer.2.1 aer.2.2)) else (some (x3,nU,vk))
def kH.f (k:Nat) (bi:List Int) (gL:Int) (mG:Int):Option (Int × Int × Int):=(bf.f bi gL mG 4).bind fun EE=>(if EE.1=0 then ((lG.f bi EE.2.1 EE.2.2 (([0,1,(-1),9,10,999,1000,2147483647,(-2147483648),3037000499,3037000500,9223372036854775807,(-9223372036854775807),(-9223372036854775808)]:List Int))).bind fun aes=>(some (aes.1,aes.2.1,aes.2.2))) else (if EE.1=1 then (kH.l0 k 0 0 bi EE.2.1 EE.2.2) else (if EE.1=2 then ((bf.f bi EE.2.1 EE.2.2 1000000).bind fun aet=>(some (wrap64 (aet.1 - 500000),aet.2.1,aet.2.2))) else ((bf.f bi EE.2.1 EE.2.2 41).bind fun aeu=>(some (wrap64 (aeu.1 - 20),aeu.2.1,aeu.2.2))))))
theorem kH.calls {k:Nat} {g:Nat} {bi:List Int} {gL:Int} {mG:Int} {r1:Int} {r2:Int} {r3:Int} (w0 w:World) (hI:ag w0 w g bi gL mG) (hB:Below w0.heap.size w0 w) (h:kH.f k bi gL mG=some (r1,r2,r3)):
  Calls Tryz.prog 53 #[.pointer (some ⟨g,0,none⟩)] w fun e w'=>e=.returned (.int .i64 r1)∧ag w0 w' g bi r2 r3∧Below w0.heap.size w0 w'∧aA w w' g none:=by
 have HI0:=jC hI;have HK:=jC (aA.refl w g none);have HL:=jC hB.size;clear hI;have HW0:=jC hB.size;have HB:=jC hB;clear hB;have H:=h;clear h;unfold kH.f at H;obtain ⟨⟨t218,aOd,aOe⟩,A2,H⟩:=bd H
 try dsimp only at H
 replace H:=jE H;obtain ⟨rG,Av,-,H⟩|⟨rG,Av,c3,H⟩:=H
 ·generalize hyy:(([0,1,(-1),9,10,999,1000,2147483647,(-2147483648),3037000499,3037000500,9223372036854775807,(-9223372036854775807),(-9223372036854775808)]:List Int))=aOf at H;have anj:=jC hyy.symm;clear hyy;obtain ⟨⟨a0P,a0Q,t226⟩,A4,H⟩:=bd H
  try dsimp only at H
  simp only[Option.some.injEq,Prod.mk.injEq] at H;obtain ⟨rfl,rfl,rfl⟩:=H;go_enter Tryz.func53,Tryz.ntmps53
  go_wp2_with (first|(refine gC 6 Tryz.func42 #[.pointer (some ⟨g,0,none⟩),.int .i64 4] (bf.calls w0 _ ?ai ?aj A2.o) (h:=?_);(case ai=>exact nk);(case aj=>exact nQ);rintro e wC ⟨rfl,hi,hb,hk⟩;refine ⟨_,rfl,?_⟩;have n_:=vT;clear HK HB HI0;obtain ⟨HK,HB,HI0⟩:=n_)|((with_reducible refine aG (N:=10) rfl ?_);refine Kd.sQ (Kd.int .i64) _ 3 ?hg (N:=10) ?hd (xs:=([0,1,(-1),9,10,999,1000,2147483647,(-2147483648),3037000499,3037000500,9223372036854775807,(-9223372036854775807),(-9223372036854775808)]:List Int)) (inner:=[.int .i64 0,.int .i64 1,.int .i64 (-1),.int .i64 9,.int .i64 10,.int .i64 999,.int .i64 1000,.int .i64 2147483647,.int .i64 (-2147483648),.int .i64 3037000499,.int .i64 3037000500,.int .i64 9223372036854775807,.int .i64 (-9223372036854775807),.int .i64 (-9223372036854775808)]) (ok:=fun _=>True) (okp:=fun _=>True) ?hr ?hp rE trivial (Below.refl _ _) (Nat.le_refl _) gQ ?_;(case hd=>rfl);(case hg=>rfl);(case hr=>exact kz);(case hp=>exact (d_.one (show Kd.M (Kd.int .i64) _ _ _ 0 [.int .i64 0] from rfl) (d_.one (show Kd.M (Kd.int .i64) _ _ _ 1 [.int .i64 1] from rfl) (d_.one (show Kd.M (Kd.int .i64) _ _ _ (-1) [.int .i64 (-1)] from rfl) (d_.one (show Kd.M (Kd.int .i64) _ _ _ 9 [.int .i64 9] from rfl) (d_.one (show Kd.M (Kd.int .i64) _ _ _ 10 [.int .i64 10] from rfl) (d_.one (show Kd.M (Kd.int .i64) _ _ _ 999 [.int .i64 999] from rfl) (d_.one (show Kd.M (Kd.int .i64) _ _ _ 1000 [.int .i64 1000] from rfl) (d_.one (show Kd.M (Kd.int .i64) _ _ _ 2147483647 [.int .i64 2147483647] from rfl) (d_.one (show Kd.M (Kd.int .i64) _ _ _ (-2147483648) [.int .i64 (-2147483648)] from rfl) (d_.one (show Kd.M (Kd.int .i64) _ _ _ 3037000499 [.int .i64 3037000499] from rfl) (d_.one (show Kd.M (Kd.int .i64) _ _ _ 3037000500 [.int .i64 3037000500] from rfl) (d_.one (show Kd.M (Kd.int .i64) _ _ _ 9223372036854775807 [.int .i64 9223372036854775807] from rfl) (d_.one (show Kd.M (Kd.int .i64) _ _ _ (-9223372036854775807) [.int .i64 (-9223372036854775807)] from rfl) (d_.one (show Kd.M (Kd.int .i64) _ _ _ (-9223372036854775808) [.int .i64 (-9223372036854775808)] from rfl) (d_.none _ _))))))))))))))));intro vq2 wq3 D5 hb hg_ hnew_;clear hg_ hnew_;(first|rw[←anj.o] at D5|(simp only[Int.reduceToNat] at D5;rw[←anj.o] at D5));have n_:=Z24;clear HI0 HK HB;obtain ⟨UC,HI0,HK,HB⟩:=n_;clear hb D5;obtain ⟨ard,arf,arh⟩:=Kd.bR UC.o;subst arh)|(refine gC 11 Tryz.func52 #[.pointer (some ⟨g,0,none⟩),.slice ard aOf.length arf] (lG.calls w0 _ ?ai ?aj ?fI ?gV ?nz A4.o) (h:=?_);(case ai=>exact nk);(case aj=>exact nQ);(case fI=>repeat (first|exact (Kd.a_ UC.o).2.2|(with_reducible refine Kd.dF ?_ _)|(with_reducible refine Kd.dG ?_ _)|(with_reducible refine Kd.eQ ?_)));(case gV=>exact (Kd.a_ UC.o).2.1);(case nz=>exact xG (ag.own_ne HI0.o UC.o au));rintro e wq6 ⟨rfl,hi,hb,hk⟩;refine ⟨_,rfl,?_⟩;have n_:=vT;clear UC HK HB HI0;obtain ⟨HK,HB,HI0⟩:=n_))
  go_ret;exact ⟨fT,nk,nQ,qy⟩
 replace H:=iE H;obtain ⟨vC,P8,c10,H⟩|⟨vC,P8,-,H⟩:=H
 ·replace H:=iE H;obtain ⟨zx,P9,c15,H⟩|⟨zx,P9,-,H⟩:=H
  ·obtain ⟨⟨t233,t234,a0R⟩,A19,H⟩:=bd H
   try dsimp only at H
   simp only[Option.some.injEq,Prod.mk.injEq] at H;obtain ⟨rfl,rfl,rfl⟩:=H;go_enter Tryz.func53,Tryz.ntmps53
   go_wp2_with (first|(refine gC 6 Tryz.func42 #[.pointer (some ⟨g,0,none⟩),.int .i64 4] (bf.calls w0 _ ?ai ?aj A2.o) (h:=?_);(case ai=>exact nk);(case aj=>exact nQ);rintro e wC ⟨rfl,hi,hb,hk⟩;refine ⟨_,rfl,?_⟩;have n_:=vT;clear HK HB HI0;obtain ⟨HK,HB,HI0⟩:=n_)|(refine gC 30 Tryz.func42 #[.pointer (some ⟨g,0,none⟩),.int .i64 41] (bf.calls w0 _ ?ai ?aj A19.o) (h:=?_);(case ai=>exact nk);(case aj=>exact nQ);rintro e wq2 ⟨rfl,hi,hb,hk⟩;refine ⟨_,rfl,?_⟩;have n_:=vT;clear HK HB HI0;obtain ⟨HK,HB,HI0⟩:=n_))
   go_ret;exact ⟨fT,nk,nQ,qy⟩
  obtain ⟨⟨a0S,a0T,t232⟩,A16,H⟩:=bd H
  try dsimp only at H
  simp only[Option.some.injEq,Prod.mk.injEq] at H;obtain ⟨rfl,rfl,rfl⟩:=H;go_enter Tryz.func53,Tryz.ntmps53
  go_wp2_with (first|(refine gC 6 Tryz.func42 #[.pointer (some ⟨g,0,none⟩),.int .i64 4] (bf.calls w0 _ ?ai ?aj A2.o) (h:=?_);(case ai=>exact nk);(case aj=>exact nQ);rintro e wC ⟨rfl,hi,hb,hk⟩;refine ⟨_,rfl,?_⟩;have n_:=vT;clear HK HB HI0;obtain ⟨HK,HB,HI0⟩:=n_)|(refine gC 27 Tryz.func42 #[.pointer (some ⟨g,0,none⟩),.int .i64 1000000] (bf.calls w0 _ ?ai ?aj A16.o) (h:=?_);(case ai=>exact nk);(case aj=>exact nQ);rintro e wq2 ⟨rfl,hi,hb,hk⟩;refine ⟨_,rfl,?_⟩;have n_:=vT;clear HK HB HI0;obtain ⟨HK,HB,HI0⟩:=n_))
  go_ret;exact ⟨fT,nk,nQ,qy⟩
 have H':=jC H;clear H;go_enter Tryz.func53,Tryz.ntmps53
 go_wp2_with (first|(refine gC 6 Tryz.func42 #[.pointer (some ⟨g,0,none⟩),.int .i64 4] (bf.calls w0 _ ?ai ?aj A2.o) (h:=?_);(case ai=>exact nk);(case aj=>exact nQ);rintro e w11 ⟨rfl,hi,hb,hk⟩;refine ⟨_,rfl,?_⟩;have n_:=vT;clear HK HB HI0;obtain ⟨HK,HB,HI0⟩:=n_))
 go_loopg [3,4] k (fun kq v3 v4 w'=>∃(lK:Int) (jw:Int) (dZ:Int) (Rb:Int),v3=.int .i64 lK∧v4=.int .i64 jw∧aa (kH.l0 kq lK jw bi dZ Rb=some (r1,r2,r3))∧aa (kq≤k)∧aa (ag w0 w' g bi dZ Rb)∧aa (aA w w' g none)∧aa (Below w0.heap.size w0 w'))
 case atStart=>exact ⟨(0),(0),(aOd),(aOe),bT,bT,H',⟨Nat.le_refl _⟩,⟨nk⟩,⟨qy⟩,⟨nQ⟩⟩
 case round=>
  clear H';obtain ⟨lK,jw,dZ,Rb,rfl,rfl,HA,rF,HI0,HK,HB⟩:=hrel
  cases gk with
  |zero=>exact absurd HA.o (by simp [kH.l0])
  |succ k1=>
   have H:=HA.o;clear HA;simp only[kH.l0] at H
   replace H:=iD H;obtain ⟨DL,-,H⟩|⟨DL,-,H⟩:=H
   ·simp only[Option.some.injEq,Prod.mk.injEq] at H;obtain ⟨rfl,rfl,rfl⟩:=H
    go_wp2
    go_ret;exact ⟨fT,nk,nQ,qy⟩
   obtain ⟨⟨t227,t228,t229⟩,A13,H⟩:=bd H
   try dsimp only at H
   have H':=jC H;clear H
   go_wp2_with (first|(refine gC 21 Tryz.func73 #[.pointer (some ⟨g,0,none⟩)] (kL.calls w0 _ ?ai ?aj A13.o) (h:=?_);(case ai=>exact nk);(case aj=>exact nQ);rintro e Xi ⟨rfl,hi,hb,hk⟩;refine ⟨_,rfl,?_⟩;have n_:=vT;clear HK HB HI0;obtain ⟨HK,HB,HI0⟩:=n_))
   go_roundg k1
   case measure=>have:=rF.o;omega
   case rel=>exact ⟨(wrap64 ((wrap64 (lK * 256))+t227)),(wrap64 (jw+1)),(t228),(t229),bT,bT,H',⟨vE⟩,⟨nk⟩,⟨qy⟩,⟨nQ⟩⟩
end
end Go.Proofs.YtkjbbnijhpldhaaGreatDoor.QFnTable
