/- The machine side of FnTable: what each Go function that it reaches comes to. Conditions: none. -/
import Derived.Test.YtkjbbnijhpldhaaGreatDoorQFnTablex9
namespace Go.Proofs.YtkjbbnijhpldhaaGreatDoor.QFnTable
open Go.RowKit Go.Proofs.YtkjbbnijhpldhaaGreatDoorW.PrintWords Go.Proofs.YtkjbbnijhpldhaaGreatDoorW.PrintLast Go.Proofs.YtkjbbnijhpldhaaGreatDoorW.PrintMore
attribute [local go_sem] oq ou qN qO mr mD ow oz
set_option linter.unusedVariables false
set_option linter.unusedSimpArgs false
set_option maxHeartbeats 8000000
set_option maxRecDepth 100000
def bU (w0 W:World) (g:Nat) (f0:ByteArray) (f1:Int):Prop:=W.heap[g]?=some (.cells #[.string f0,.int .i64 f1] 79 (0,0))∧w0.heap.size≤g
theorem bU.grown {w0 W:World} {g:Nat} {f0:ByteArray} {f1:Int} {W1:World} {row:Option Nat} (h:bU w0 W g f0 f1) (hw:W.grownBy W1 row) (hne:some g≠row):bU w0 W1 g f0 f1:=by
 obtain ⟨hb,hg⟩:=h;exact ⟨uQ hb hw hne,hg⟩
theorem bU.below {w0 W:World} {g:Nat} {f0:ByteArray} {f1:Int} {W1:World} (h:bU w0 W g f0 f1) (hw:Below W.heap.size W W1):bU w0 W1 g f0 f1:=h.grown (Ad hw none) gQ
theorem bU.alloc {w0 W:World} {g:Nat} {f0:ByteArray} {f1:Int} (h:bU w0 W g f0 f1) (o:Obj):bU w0 (W.alloc o) g f0 f1:=h.below (bq (Below.refl _ _) o)
theorem bU.drewN {w0 W:World} {g:Nat} {f0:ByteArray} {f1:Int} (h:bU w0 W g f0 f1) (m:Nat):bU w0 (W.drewN m) g f0 f1:=h
theorem bU.drew {w0 W:World} {g:Nat} {f0:ByteArray} {f1:Int} (h:bU w0 W g f0 f1):bU w0 W.drew g f0 f1:=h
theorem bU.apart {w0 W:World} {g:Nat} {f0:ByteArray} {f1:Int} {α:Type} {d:Kd α} {e:Nat} {base:Nat} {ok:Nat→Prop} {v:Value} {xs:List α} (h:bU w0 W g f0 f1) (ho:d.R e W base ok v xs) (ht:∀q,q ∈ e::d.E→q≠79):d.R e W base (fun k=>ok k∧k≠g) v xs:=by
 obtain ⟨hb,hg⟩:=h;exact Kd.iW ho hb ht
theorem bU.own_ne {w0 W:World} {g:Nat} {f0:ByteArray} {f1:Int} {α:Type} {d:Kd α} {e:Nat} {base:Nat} {ok:Nat→Prop} {v:Value} {xs:List α} (h:bU w0 W g f0 f1) (ho:d.R e W base ok v xs) (ht:e≠79):some g≠v.ownBlock:=by
 obtain ⟨hb,hg⟩:=h;exact Kd.lJ ho hb ht
theorem bU.qD {w0 W:World} {g:Nat} {f0:ByteArray} {f1:Int} {α:Type} {d:Kd α} {e:Nat} {base:Nat} {ok:Nat→Prop} {v:Value} {xs:List α} (h:bU w0 W g f0 f1) (ho:d.S e W base ok v xs) (ht:∀q,q ∈ e::d.E→q≠79):d.S e W base (fun k=>ok k∧k≠g) v xs:=by
 obtain ⟨hb,hg⟩:=h;exact Kd.vI ho hb ht
theorem bU.ui {w0 W:World} {g:Nat} {f0:ByteArray} {f1:Int} {α:Type} {d:Kd α} {e:Nat} {base:Nat} {ok:Nat→Prop} {v:Value} {xs:List α} (h:bU w0 W g f0 f1) (ho:d.S e W base ok v xs) (ht:e≠79):some g≠v.ownBlock:=by
 obtain ⟨hb,hg⟩:=h;exact Kd.Ex ho hb ht
theorem bU.lt {w0 W:World} {g:Nat} {f0:ByteArray} {f1:Int} (h:bU w0 W g f0 f1):g<W.heap.size:=by
 obtain ⟨hb,hg⟩:=h;exact CX hb
theorem bU.ge {w0 W:World} {g:Nat} {f0:ByteArray} {f1:Int} (h:bU w0 W g f0 f1):w0.heap.size≤g:=by
 obtain ⟨hb,hg⟩:=h;exact hg
theorem bU.far {w0 W:World} {g:Nat} {f0:ByteArray} {f1:Int} {p:Addr} (h:bU w0 W g f0 f1) (hne:g≠p.block) (u:Value):bU w0 (W.setCell p u) g f0 f1:=by
 obtain ⟨hb,hg⟩:=h;exact ⟨zH hb hne u,hg⟩
theorem nG {W:World} {g:Nat} {f0:ByteArray} {f1:Int} (h:W.heap[g]?=some (.cells #[.string f0,.int .i64 f1] 79 (0,0))):W.cell? ⟨g,0,none⟩=some (.string f0):=(cu h 0).trans rfl
theorem bU.YW {w0 W:World} {g:Nat} {f0:ByteArray} {f1:Int} (h:bU w0 W g f0 f1) (x:ByteArray):bU w0 (W.setCell ⟨g,0,none⟩ (.string x)) g x f1:=by
 obtain ⟨hb,hg⟩:=h;exact ⟨by simpa using Fh hb 0 (.string x),hg⟩
theorem nH {W:World} {g:Nat} {f0:ByteArray} {f1:Int} (h:W.heap[g]?=some (.cells #[.string f0,.int .i64 f1] 79 (0,0))):W.cell? ⟨g,1,none⟩=some (.int .i64 f1):=(cu h 1).trans rfl
theorem bU.uZ {w0 W:World} {g:Nat} {f0:ByteArray} {f1:Int} (h:bU w0 W g f0 f1) (x:Int):bU w0 (W.setCell ⟨g,1,none⟩ (.int .i64 x)) g f0 x:=by
 obtain ⟨hb,hg⟩:=h;exact ⟨by simpa using Fh hb 1 (.int .i64 x),hg⟩
def af.l0:Nat→List Int→ByteArray→Int→Option (ByteArray × Bool × ByteArray × Int)
 |0,_,_,_=>none
 |k+1,x4,x1000,nU=>if nU<(x1000.size:Int) then (if 0≤nU then (if (bt x1000 nU)=34 then (if (wrap64 (nU+1))=(x1000.size:Int) then (some (strOfNums x4,true,x1000,wrap64 (nU+1))) else (if 0≤(wrap64 (nU+1)) then (if (wrap64 (nU+1))<(x1000.size:Int) then (if (bt x1000 (wrap64 (nU+1)))=34 then (if x4.length<140737488355328 then (af.l0 k (x4++ [34]) x1000 (wrap64 ((wrap64 (nU+1))+1))) else (none)) else (some (strOfNums x4,true,x1000,wrap64 (nU+1)))) else (none)) else (none))) else (if x4.length<140737488355328 then (af.l0 k (x4++ [bt x1000 nU]) x1000 (wrap64 (nU+1))) else (none))) else (none)) else (some ((⟨#[]⟩:ByteArray),false,x1000,nU))
def af.f (k:Nat) (bi:ByteArray) (gL:Int):Option (ByteArray × Bool × ByteArray × Int):=af.l0 k (([]:List Int)) bi (wrap64 (gL+1))
def af.T3:Bool × List (List Nat × List Nat):=(true,[([],[]),([0],[0]),([1],[1]),([2],[2]),([],[]),([4],[4]),([5],[5]),([6],[6]),([7],[7]),([3,8],[3,8])])
def af.B3:List Nat:=[0,1,3,7,0,16,48,112,240,511]
theorem af.NH:o_ .any (opsOf Tryz.f63 3)=af.T3:=by kernel_rfl
theorem af.EI:lq af.T3.2 af.B3=true:=by kernel_rfl
def af.T5:Bool × List (List Nat × List Nat):=(true,[([],[]),([0],[0]),([1],[1]),([2],[2]),([],[]),([4],[4]),([5],[5]),([6],[6]),([3,7],[3,7]),([8],[8])])
def af.B5:List Nat:=[0,1,3,7,0,16,48,112,255,511]
theorem af.aj0:o_ .any (opsOf Tryz.f63 5)=af.T5:=by kernel_rfl
theorem af.Zl:lq af.T5.2 af.B5=true:=by kernel_rfl
def af.T6:Bool × List (List Nat × List Nat):=(true,[([],[]),([],[]),([1],[1]),([2],[2]),([3],[3]),([],[]),([5],[5]),([6],[6]),([7],[7]),([4,8],[4,8]),([9],[9]),([0,10],[0,10]),([11,11,0,1,2,3,4,5,6,7,8,9,10,11],[0,11])])
def af.B6:List Nat:=[0,0,2,6,14,0,32,96,224,510,1022,2047,4095]
theorem af.aO8:o_ .any (opsOf Tryz.f63 6)=af.T6:=by kernel_rfl
theorem af.aBe:lq af.T6.2 af.B6=true:=by kernel_rfl
def af.T7:Bool × List (List Nat × List Nat):=(true,[([],[]),([0],[0]),([1],[1]),([2],[2]),([3],[3]),([],[]),([5],[5]),([6],[6]),([7],[7]),([8],[8]),([4,9],[4,9]),([10],[10]),([11],[11]),([12,11],[11,12]),([13,11],[11,13]),([14,11],[11,14]),([11],[11]),([16,11],[11,16]),([17,11],[11,17]),([18,11],[11,18]),([19,11],[11,19]),([15,20,11],[11,15,20]),([21,11],[11,21]),([11,22],[11,22])])
def af.B7:List Nat:=[0,1,3,7,15,0,32,96,224,480,1023,2047,4095,8191,16383,32767,4095,69631,200703,462847,987135,2097151,4194303,8388607]
theorem af.aeY:o_ .any (opsOf Tryz.f63 7)=af.T7:=by kernel_rfl
theorem af.UI:lq af.T7.2 af.B7=true:=by kernel_rfl
theorem af.calls {k:Nat} {g:Nat} {bi:ByteArray} {gL:Int} {r1:ByteArray} {r2:Bool} {r3:ByteArray} {r4:Int} (w0 w:World) (hI:bU w0 w g bi gL) (hB:Below w0.heap.size w0 w) (h:af.f k bi gL=some (r1,r2,r3,r4)):
  Calls Tryz.prog 63 #[.pointer (some ⟨g,0,none⟩)] w fun e w'=>e=.returned (.tuple #[.string r1,.bool r2])∧bU w0 w' g r3 r4∧Below w0.heap.size w0 w'∧aA w w' g none:=by
 have HI0:=jC hI;have HK:=jC (aA.refl w g none);have HL:=jC hB.size;clear hI;have HW0:=jC hB.size;have HB:=jC hB;clear hB;have H:=h;clear h;unfold af.f at H;generalize hyy:(([]:List Int))=aO9 at H;have anP:=jC hyy.symm;clear hyy;have H':=jC H;clear H;go_enter Tryz.func63,Tryz.ntmps63
 go_wp2_with (first|((with_reducible refine aG (N:=5) rfl ?_);refine Kd.sQ (Kd.int .u8) _ 5 ?hg (N:=5) ?hd (xs:=([]:List Int)) (inner:=[]) (ok:=fun _=>True) (okp:=fun _=>True) ?hr ?hp rE trivial (Below.refl _ _) (Nat.le_refl _) gQ ?_;(case hd=>rfl);(case hg=>rfl);(case hr=>exact kz);(case hp=>exact xk);intro a1x w2 ho3 hb hg_ hnew_;clear hg_ hnew_;(first|rw[←anP.o] at ho3|(simp only[Int.reduceToNat] at ho3;rw[←anP.o] at ho3));have n_:=jA (Kd.dC ho3 (kY (w:=w) (g:=g) (row:=none) qy)) (jA (bU.below mW hb) (jA (aA.trans qy (aA.of_below hb g none) (.inl rfl)) (jC (ae FQ hb))));clear HI0 HK HB;obtain ⟨aBf,HI0,HK,HB⟩:=n_;clear hb ho3;obtain ⟨LG,aq6⟩:=HI0.o;have aq8:=nG LG;have aq9:=nH LG;have aPa:=az LG 0;have ara:=az LG 1;clear LG aq6))
 go_loopg [4] k (fun kq v4 w'=>∃(jw:List Int) (dZ:Int),aa (af.l0 kq jw bi dZ=some (r1,r2,r3,r4))∧aa (kq≤k)∧aa (Kd.R (Kd.int .u8) 5 w' w.heap.size (fun _=>True) v4 jw)∧aa (bU w0 w' g bi dZ)∧aa (aA w w' g none)∧aa (Below w0.heap.size w0 w'))
 case atStart=>exact ⟨(aO9),(wrap64 (gL+1)),H',⟨Nat.le_refl _⟩,⟨by refine pR ?_;exact Kd.aD (Kd.l8 (p:=⟨g,1,none⟩) (bU.apart HI0.o aBf.o au) mV (.int .i64 (wrap64 (gL+1)))) o8⟩,⟨mW⟩,⟨qy⟩,⟨FQ⟩⟩
 case round=>
  clear H';obtain ⟨jw,dZ,HA,rF,df,HI0,HK,HB⟩:=hrel
  cases gk with
  |zero=>exact absurd HA.o (by simp [af.l0])
  |succ k1=>
   have H:=HA.o;clear HA;simp only[af.l0] at H
   replace H:=iD H;obtain ⟨oZ,-,H⟩|⟨oZ,-,H⟩:=H
   ·simp only[Option.some.injEq,Prod.mk.injEq] at H;obtain ⟨rfl,rfl,rfl,rfl⟩:=H
    try go_wp2
    have n_:=abC;clear df HI0 HK HB;obtain ⟨HI0,HK,HB⟩:=n_;refine iZ (n:=10) (S:=fun w'=>w'.cell? ⟨g,0,none⟩=some (.string bi)∧w'.cell? ⟨g,1,none⟩=some (.int .i64 dZ)) (ds:=[]) (qM 10 0) bD rfl (by kernel_rfl) ⟨(cu (jC (show bU w0 _ g bi dZ from mW).1).o 0).trans rfl,(cu (jC (show bU w0 _ g bi dZ from mW).1).o 1).trans rfl⟩ (fun hHeld=>?_);refine fZ af.NH af.EI (fun HT_ HW_=>?_);generalize wr.drew=S_ at HI0 HK HB hHeld ⊢;refine rP 0 (h:=?_);refine rP 1 (h:=?_);refine rP 2 (h:=?_);refine rP 4 (h:=?_);refine rP 5 (h:=?_);refine rP 6 (h:=?_);refine zA 3 hHeld (h:=?_);refine zA 7 hHeld (h:=?_);refine rP 8 (h:=?_);refine rP 9 (h:=?_);refine kT (jv HT_.o bD) ?_
    try go_wp2
    go_ret2;exact ⟨fT,mW,FQ,qy⟩
   obtain ⟨vU,-,H⟩:=l5 H
   replace H:=iE H;obtain ⟨vV,FU,c8,H⟩|⟨vV,FU,-,H⟩:=H
   ·obtain ⟨c32,H⟩:=nD H;have aBg:=jC c32;clear c32;generalize hyy:(jw++ [bt bi dZ])=aPb at H;have aBh:=jC hyy.symm;clear hyy;have H':=jC H;clear H
    try go_wp2
    have n_:=LC;clear df HI0 HK HB;obtain ⟨df,HI0,HK,HB⟩:=n_;refine iZ (n:=10) (S:=fun w'=>w'.cell? ⟨g,0,none⟩=some (.string bi)∧w'.cell? ⟨g,1,none⟩=some (.int .i64 dZ)) (ds:=[]) (qM 10 0) bD rfl (by kernel_rfl) ⟨(cu (jC (show bU w0 _ g bi dZ from mW).1).o 0).trans rfl,(cu (jC (show bU w0 _ g bi dZ from mW).1).o 1).trans rfl⟩ (fun hHeld=>?_);refine fZ af.NH af.EI (fun HT_ HW_=>?_);generalize wr.drew=w33 at df HI0 HK HB hHeld ⊢;refine rP 0 (h:=?_);refine rP 1 (h:=?_);refine rP 2 (h:=?_);refine rP 4 (h:=?_);refine rP 5 (h:=?_);refine rP 6 (h:=?_);refine zA 3 hHeld (h:=?_);refine zA 7 hHeld (h:=?_);refine rP 8 (h:=?_);refine rP 9 (h:=?_);refine kT (jv HT_.o bD) ?_
    try go_wp2
    have n_:=LC;clear df HI0 HK HB;obtain ⟨df,HI0,HK,HB⟩:=n_;obtain ⟨p7,q7⟩:=uw (s:=bi) (i:=dZ);have hx7:=d9 bi dZ;refine iZ (n:=10) (S:=fun w'=>w'.cell? ⟨g,0,none⟩=some (.string bi)∧w'.cell? ⟨g,1,none⟩=some (.int .i64 dZ)) (ds:=[]) (qM 10 0) bD rfl (by kernel_rfl) ⟨(cu (jC (show bU w0 _ g bi dZ from mW).1).o 0).trans rfl,(cu (jC (show bU w0 _ g bi dZ from mW).1).o 1).trans rfl⟩ (fun hHeld=>?_);refine fZ af.aj0 af.Zl (fun HT_ HW_=>?_);generalize w33.drew=w34 at df HI0 HK HB hHeld ⊢;refine rP 0 (h:=?_);refine rP 1 (h:=?_);refine rP 2 (h:=?_);refine rP 4 (h:=?_);refine rP 5 (h:=?_);refine rP 6 (h:=?_);refine zA 3 hHeld (h:=?_);refine zA 7 hHeld (h:=?_);refine zA 8 hHeld (h:=?_);refine rP 9 (h:=?_);refine kT (jv HT_.o bD) ?_
    try go_wp2
    have n_:=LC;clear df HI0 HK HB;obtain ⟨df,HI0,HK,HB⟩:=n_;obtain ⟨p31,q31⟩:=uw (s:=bi) (i:=dZ);have hx31:=d9 bi dZ;refine iZ (n:=13) (S:=fun w'=>w'.cell? ⟨g,0,none⟩=some (.string bi)∧w'.cell? ⟨g,1,none⟩=some (.int .i64 dZ)) (ds:=[]) (qM 13 0) bD rfl (by kernel_rfl) ⟨(cu (jC (show bU w0 _ g bi dZ from mW).1).o 0).trans rfl,(cu (jC (show bU w0 _ g bi dZ from mW).1).o 1).trans rfl⟩ (fun hHeld=>?_);refine fZ af.aO8 af.aBe (fun HT_ HW_=>?_);generalize w34.drew=w35 at df HI0 HK HB hHeld ⊢;refine rP 0 (h:=?_);refine rP 1 (h:=?_);refine rP 2 (h:=?_);refine rP 3 (h:=?_);refine rP 5 (h:=?_);refine rP 6 (h:=?_);refine rP 7 (h:=?_);refine zA 4 hHeld (h:=?_);refine zA 8 hHeld (h:=?_);refine zA 9 hHeld (h:=?_);refine rO 10 (h:=fun K hK=>?_);refine NJ (w1:=?_) (v:=?_) ek rfl ?_ ?_;rotate_left 2
    ·go_simp
     constructor
     ·rfl
     rfl
    refine hK.out _ _ ⟨(cu (lW (jC (show bU w0 _ g bi dZ from mW).1).o _) 0).trans rfl,(cu (lW (jC (show bU w0 _ g bi dZ from mW).1).o _) 1).trans rfl⟩ (fun hHeld=>?_);clear hK K;refine rN (h:=?_);refine rO 11 (h:=fun K hK=>?_);refine Kd.yl (Kd.int .u8) w.heap.size ek (.tmp 40) (.tmp 50) 22 5 (.int .u8 0) 1 rfl Tryz.underlying22 info5 rfl au bG u4 jw (bt bi dZ) [.int .u8 (bt bi dZ)] (fun _=>True) (fun _=>False) rfl rfl ?aP (fun _ hk=>hk.elim) ?aF ?aO (Below.refl _ _) ?aS ?aL ?_
    (case aP=>exact rfl)
    (case aF=>exact o8)
    (case aO=>exact OZ)
    (case aS=>exact aw4)
    (case aL=>have:=aBg.o;omega)
    intro a1y w36 ho hb hg hat;rw[←aBh.o] at ho;have n_:=Z28;clear HI0 HB HK df;obtain ⟨HI0,HB,HK,aBj⟩:=n_;clear ho hb hg hat;refine hK.out _ _ ⟨(cu (jC (show bU w0 _ g bi dZ from mW).1).o 0).trans rfl,(cu (jC (show bU w0 _ g bi dZ from mW).1).o 1).trans rfl⟩ (fun hHeld=>?_);clear hK K;refine rN (h:=?_);refine rP 12 (h:=?_);refine kT (jv HT_.o bD) ?_;obtain ⟨UJ,aBk⟩:=HI0.o;have aJ0:=nG UJ;have aJ1:=nH UJ;have aJ2:=az UJ 0;have aJ3:=az UJ 1;clear UJ aBk
    try go_wp2
    go_roundg k1
    case measure=>have:=rF.o;omega
    case rel=>exact ⟨(aPb),(wrap64 (dZ+1)),H',⟨vE⟩,⟨by refine pR ?_;exact Kd.aD (Kd.l8 (p:=⟨g,1,none⟩) (bU.apart HI0.o aBj.o au) mV (.int .i64 (wrap64 (dZ+1)))) o8⟩,⟨mW⟩,⟨qy⟩,⟨FQ⟩⟩
   replace H:=jE H;obtain ⟨G6,ab5,-,H⟩|⟨G6,ab5,c9,H⟩:=H
   ·simp only[Option.some.injEq,Prod.mk.injEq] at H;obtain ⟨rfl,rfl,rfl,rfl⟩:=H
    try go_wp2
    have n_:=LC;clear df HI0 HK HB;obtain ⟨df,HI0,HK,HB⟩:=n_;refine iZ (n:=10) (S:=fun w'=>w'.cell? ⟨g,0,none⟩=some (.string bi)∧w'.cell? ⟨g,1,none⟩=some (.int .i64 dZ)) (ds:=[]) (qM 10 0) bD rfl (by kernel_rfl) ⟨(cu (jC (show bU w0 _ g bi dZ from mW).1).o 0).trans rfl,(cu (jC (show bU w0 _ g bi dZ from mW).1).o 1).trans rfl⟩ (fun hHeld=>?_);refine fZ af.NH af.EI (fun HT_ HW_=>?_);generalize wr.drew=w10 at df HI0 HK HB hHeld ⊢;refine rP 0 (h:=?_);refine rP 1 (h:=?_);refine rP 2 (h:=?_);refine rP 4 (h:=?_);refine rP 5 (h:=?_);refine rP 6 (h:=?_);refine zA 3 hHeld (h:=?_);refine zA 7 hHeld (h:=?_);refine rP 8 (h:=?_);refine rP 9 (h:=?_);refine kT (jv HT_.o bD) ?_
    try go_wp2
    have n_:=LC;clear df HI0 HK HB;obtain ⟨df,HI0,HK,HB⟩:=n_;obtain ⟨p7,q7⟩:=uw (s:=bi) (i:=dZ);have hx7:=d9 bi dZ;refine iZ (n:=10) (S:=fun w'=>w'.cell? ⟨g,0,none⟩=some (.string bi)∧w'.cell? ⟨g,1,none⟩=some (.int .i64 dZ)) (ds:=[]) (qM 10 0) bD rfl (by kernel_rfl) ⟨(cu (jC (show bU w0 _ g bi dZ from mW).1).o 0).trans rfl,(cu (jC (show bU w0 _ g bi dZ from mW).1).o 1).trans rfl⟩ (fun hHeld=>?_);refine fZ af.aj0 af.Zl (fun HT_ HW_=>?_);generalize w10.drew=w11 at df HI0 HK HB hHeld ⊢;refine rP 0 (h:=?_);refine rP 1 (h:=?_);refine rP 2 (h:=?_);refine rP 4 (h:=?_);refine rP 5 (h:=?_);refine rP 6 (h:=?_);refine zA 3 hHeld (h:=?_);refine zA 7 hHeld (h:=?_);refine zA 8 hHeld (h:=?_);refine rP 9 (h:=?_);refine kT (jv HT_.o bD) ?_
    try go_wp2
    have n_:=LC;clear df HI0 HK HB;obtain ⟨df,HI0,HK,HB⟩:=n_;refine iZ (n:=24) (S:=fun w'=>w'.cell? ⟨g,0,none⟩=some (.string bi)∧w'.cell? ⟨g,1,none⟩=some (.int .i64 dZ)) (ds:=[]) (qM 24 0) bD rfl (by kernel_rfl) ⟨(cu (jC (show bU w0 _ g bi dZ from mW).1).o 0).trans rfl,(cu (jC (show bU w0 _ g bi dZ from mW).1).o 1).trans rfl⟩ (fun hHeld=>?_);refine fZ af.aeY af.UI (fun HT_ HW_=>?_);generalize w11.drew=Q9 at df HI0 HK HB hHeld ⊢;refine rP 0 (h:=?_);refine rP 1 (h:=?_);refine rP 2 (h:=?_);refine rP 5 (h:=?_);refine rP 6 (h:=?_);refine rP 7 (h:=?_);refine zA 3 hHeld (h:=?_);refine rP 4 (h:=?_);refine zA 8 hHeld (h:=?_);refine rP 9 (h:=?_);refine rP 10 (h:=?_);refine rP 11 (h:=?_);refine rU 12 (h:=?_);refine rU 13 (h:=?_);refine rU 14 (h:=?_);refine rU 15 (h:=?_);refine rU 16 (h:=?_);refine rU 17 (h:=?_);refine rU 18 (h:=?_);refine rU 19 (h:=?_);refine rU 20 (h:=?_);refine rU 21 (h:=?_);refine rU 22 (h:=?_);refine rP 23 (h:=?_);refine kT (jv HT_.o bD) ?_;obtain ⟨yO,UK⟩:=HI0.o;have Zm:=nG yO;have Zn:=nH yO;have Zo:=az yO 0;have Zp:=az yO 1;clear yO UK;have az5:(convert 22 9 (u4)).run Tryz.prog (Q9.setCell ⟨g,1,none⟩ (.int .i64 (wrap64 (dZ+1))))=.ok (.string (strOfNums jw)) (Q9.setCell ⟨g,1,none⟩ (.int .i64 (wrap64 (dZ+1)))):=qp (P:=Tryz.prog) Tryz.underlying22 Tryz.underlying5 Tryz.underlying9 (Kd.o6 (by refine pR ?_;exact (Kd.aD (Kd.l8 (p:=⟨g,1,none⟩) (bU.apart HI0.o df.o au) mV (.int .i64 (wrap64 (dZ+1)))) oI)))
    try go_wp2
    go_ret2;exact ⟨fT,mW,FQ,qy⟩
   obtain ⟨Eb,Qd⟩:∃j_:Int,(wrap64 (dZ+1))=j_:=⟨_,rfl⟩
   replace H:(if 0≤(Eb) then (if (Eb)<(bi.size:Int) then (if (bt bi (Eb))=34 then (if jw.length<140737488355328 then (af.l0 k1 (jw++ [34]) bi (wrap64 ((Eb)+1))) else (none)) else (some (strOfNums jw,true,bi,Eb))) else (none)) else (none))=some (r1,r2,r3,r4):=by first|(rw[Qd] at H;exact H)|(simp only[Qd] at H ⊢;exact H)
   (try rw[Qd] at G6);(try rw[Qd] at ab5);have aPc:(IntKind.i64.wrap (dZ+1))=Eb:=(jT _).trans Qd;obtain ⟨Gg,-,H⟩:=l5 H;obtain ⟨K6,-,H⟩:=l5 H
   replace H:=iE H;obtain ⟨Gd,Qe,c19,H⟩|⟨Gd,Qe,-,H⟩:=H
   ·simp only[Option.some.injEq,Prod.mk.injEq] at H;obtain ⟨rfl,rfl,rfl,rfl⟩:=H
    try go_wp2
    have n_:=LC;clear df HI0 HK HB;obtain ⟨df,HI0,HK,HB⟩:=n_;refine iZ (n:=10) (S:=fun w'=>w'.cell? ⟨g,0,none⟩=some (.string bi)∧w'.cell? ⟨g,1,none⟩=some (.int .i64 dZ)) (ds:=[]) (qM 10 0) bD rfl (by kernel_rfl) ⟨(cu (jC (show bU w0 _ g bi dZ from mW).1).o 0).trans rfl,(cu (jC (show bU w0 _ g bi dZ from mW).1).o 1).trans rfl⟩ (fun hHeld=>?_);refine fZ af.NH af.EI (fun HT_ HW_=>?_);generalize wr.drew=w26 at df HI0 HK HB hHeld ⊢;refine rP 0 (h:=?_);refine rP 1 (h:=?_);refine rP 2 (h:=?_);refine rP 4 (h:=?_);refine rP 5 (h:=?_);refine rP 6 (h:=?_);refine zA 3 hHeld (h:=?_);refine zA 7 hHeld (h:=?_);refine rP 8 (h:=?_);refine rP 9 (h:=?_);refine kT (jv HT_.o bD) ?_
    try go_wp2
    have n_:=LC;clear df HI0 HK HB;obtain ⟨df,HI0,HK,HB⟩:=n_;obtain ⟨p7,q7⟩:=uw (s:=bi) (i:=dZ);have hx7:=d9 bi dZ;refine iZ (n:=10) (S:=fun w'=>w'.cell? ⟨g,0,none⟩=some (.string bi)∧w'.cell? ⟨g,1,none⟩=some (.int .i64 dZ)) (ds:=[]) (qM 10 0) bD rfl (by kernel_rfl) ⟨(cu (jC (show bU w0 _ g bi dZ from mW).1).o 0).trans rfl,(cu (jC (show bU w0 _ g bi dZ from mW).1).o 1).trans rfl⟩ (fun hHeld=>?_);refine fZ af.aj0 af.Zl (fun HT_ HW_=>?_);generalize w26.drew=w27 at df HI0 HK HB hHeld ⊢;refine rP 0 (h:=?_);refine rP 1 (h:=?_);refine rP 2 (h:=?_);refine rP 4 (h:=?_);refine rP 5 (h:=?_);refine rP 6 (h:=?_);refine zA 3 hHeld (h:=?_);refine zA 7 hHeld (h:=?_);refine zA 8 hHeld (h:=?_);refine rP 9 (h:=?_);refine kT (jv HT_.o bD) ?_
    try go_wp2
    have n_:=LC;clear df HI0 HK HB;obtain ⟨df,HI0,HK,HB⟩:=n_;have Xr:0≤((Eb):Int):=oT bL;have Xt:(Eb)<(bi.size:Int):=oT bL;have Rf:=d9 bi (Eb);replace Xr:=fO Xr;replace Xt:=fO Xt;refine iZ (n:=24) (S:=fun w'=>w'.cell? ⟨g,0,none⟩=some (.string bi)∧w'.cell? ⟨g,1,none⟩=some (.int .i64 dZ)) (ds:=[]) (qM 24 0) bD rfl (by kernel_rfl) ⟨(cu (jC (show bU w0 _ g bi dZ from mW).1).o 0).trans rfl,(cu (jC (show bU w0 _ g bi dZ from mW).1).o 1).trans rfl⟩ (fun hHeld=>?_);refine fZ af.aeY af.UI (fun HT_ HW_=>?_);generalize w27.drew=w28 at df HI0 HK HB hHeld ⊢;refine rP 0 (h:=?_);refine rP 1 (h:=?_);refine rP 2 (h:=?_);refine rP 5 (h:=?_);refine rP 6 (h:=?_);refine rP 7 (h:=?_);refine zA 3 hHeld (h:=?_);refine rP 4 (h:=?_);refine zA 8 hHeld (h:=?_);refine rP 9 (h:=?_);refine rP 10 (h:=?_);refine rP 11 (h:=?_);refine rP 12 (h:=?_);refine rP 13 (h:=?_);refine rP 14 (h:=?_);refine rP 16 (h:=?_);refine rP 17 (h:=?_);refine rP 18 (h:=?_);refine zA 15 hHeld (h:=?_);refine zA 19 hHeld (h:=?_);refine rP 20 (h:=?_);refine zA 21 hHeld (h:=?_);refine rP 22 (h:=?_);refine rP 23 (h:=?_);refine kT (jv HT_.o bD) ?_;obtain ⟨UL,aBl⟩:=HI0.o;have aJ4:=nG UL;have aJ5:=nH UL;have aJ6:=az UL 0;have aJ7:=az UL 1;clear UL aBl;have aWH:(convert 22 9 (u4)).run Tryz.prog (w28.setCell ⟨g,1,none⟩ (.int .i64 Eb))=.ok (.string (strOfNums jw)) (w28.setCell ⟨g,1,none⟩ (.int .i64 Eb)):=qp (P:=Tryz.prog) Tryz.underlying22 Tryz.underlying5 Tryz.underlying9 (Kd.o6 (by refine pR ?_;exact (Kd.aD (Kd.l8 (p:=⟨g,1,none⟩) (bU.apart HI0.o df.o au) mV (.int .i64 Eb)) oI)))
    try go_wp2
    go_ret2;exact ⟨by first|rfl|(simp [jM,jN]<;>rfl)|(simp only[←Qd];first|rfl|(simp [jM,jN]<;>rfl))|(simp [*,jM,jN]<;>rfl),mW,FQ,qy⟩
   obtain ⟨c20,H⟩:=nD H;have aeZ:=jC c20;clear c20;generalize hyy:(jw++ [34])=aPd at H;have aBm:=jC hyy.symm;clear hyy;have H':=jC H;clear H
   try go_wp2
   have n_:=LC;clear df HI0 HK HB;obtain ⟨df,HI0,HK,HB⟩:=n_;refine iZ (n:=10) (S:=fun w'=>w'.cell? ⟨g,0,none⟩=some (.string bi)∧w'.cell? ⟨g,1,none⟩=some (.int .i64 dZ)) (ds:=[]) (qM 10 0) bD rfl (by kernel_rfl) ⟨(cu (jC (show bU w0 _ g bi dZ from mW).1).o 0).trans rfl,(cu (jC (show bU w0 _ g bi dZ from mW).1).o 1).trans rfl⟩ (fun hHeld=>?_);refine fZ af.NH af.EI (fun HT_ HW_=>?_);generalize wr.drew=w21 at df HI0 HK HB hHeld ⊢;refine rP 0 (h:=?_);refine rP 1 (h:=?_);refine rP 2 (h:=?_);refine rP 4 (h:=?_);refine rP 5 (h:=?_);refine rP 6 (h:=?_);refine zA 3 hHeld (h:=?_);refine zA 7 hHeld (h:=?_);refine rP 8 (h:=?_);refine rP 9 (h:=?_);refine kT (jv HT_.o bD) ?_
   try go_wp2
   have n_:=LC;clear df HI0 HK HB;obtain ⟨df,HI0,HK,HB⟩:=n_;obtain ⟨p7,q7⟩:=uw (s:=bi) (i:=dZ);have hx7:=d9 bi dZ;refine iZ (n:=10) (S:=fun w'=>w'.cell? ⟨g,0,none⟩=some (.string bi)∧w'.cell? ⟨g,1,none⟩=some (.int .i64 dZ)) (ds:=[]) (qM 10 0) bD rfl (by kernel_rfl) ⟨(cu (jC (show bU w0 _ g bi dZ from mW).1).o 0).trans rfl,(cu (jC (show bU w0 _ g bi dZ from mW).1).o 1).trans rfl⟩ (fun hHeld=>?_);refine fZ af.aj0 af.Zl (fun HT_ HW_=>?_);generalize w21.drew=w22 at df HI0 HK HB hHeld ⊢;refine rP 0 (h:=?_);refine rP 1 (h:=?_);refine rP 2 (h:=?_);refine rP 4 (h:=?_);refine rP 5 (h:=?_);refine rP 6 (h:=?_);refine zA 3 hHeld (h:=?_);refine zA 7 hHeld (h:=?_);refine zA 8 hHeld (h:=?_);refine rP 9 (h:=?_);refine kT (jv HT_.o bD) ?_
   try go_wp2
   have n_:=LC;clear df HI0 HK HB;obtain ⟨df,HI0,HK,HB⟩:=n_;have Xr:0≤((Eb):Int):=oT bL;have Xt:(Eb)<(bi.size:Int):=oT bL;have Rf:=d9 bi (Eb);replace Xr:=fO Xr;replace Xt:=fO Xt;refine iZ (n:=24) (S:=fun w'=>w'.cell? ⟨g,0,none⟩=some (.string bi)∧w'.cell? ⟨g,1,none⟩=some (.int .i64 dZ)) (ds:=[]) (qM 24 0) bD rfl (by kernel_rfl) ⟨(cu (jC (show bU w0 _ g bi dZ from mW).1).o 0).trans rfl,(cu (jC (show bU w0 _ g bi dZ from mW).1).o 1).trans rfl⟩ (fun hHeld=>?_);refine fZ af.aeY af.UI (fun HT_ HW_=>?_);generalize w22.drew=w23 at df HI0 HK HB hHeld ⊢;refine rP 0 (h:=?_);refine rP 1 (h:=?_);refine rP 2 (h:=?_);refine rP 5 (h:=?_);refine rP 6 (h:=?_);refine rP 7 (h:=?_);refine zA 3 hHeld (h:=?_);refine rP 4 (h:=?_);refine zA 8 hHeld (h:=?_);refine rP 9 (h:=?_);refine rP 10 (h:=?_);refine rP 11 (h:=?_);refine rP 12 (h:=?_);refine rP 13 (h:=?_);refine rP 14 (h:=?_);refine rP 16 (h:=?_);refine rP 17 (h:=?_);refine rP 18 (h:=?_);refine zA 15 hHeld (h:=?_);refine zA 19 hHeld (h:=?_);refine rP 20 (h:=?_);refine zA 21 hHeld (h:=?_);refine rP 22 (h:=?_);refine rP 23 (h:=?_);refine kT (jv HT_.o bD) ?_
   try go_wp2_with (first|((with_reducible refine bJ (b:=.append) (xs:=#[.tmp 85,.tmp 86]) rfl ?_);at_builtin;refine Kd.gH (Kd.int .u8) w.heap.size rfl (.tmp 85) (.tmp 86) 22 5 (.int .u8 0) 1 rfl Tryz.underlying22 info5 rfl au bG u4 jw 34 [.int .u8 34] (fun _=>True) (fun _=>False) rfl rfl ?aP (fun _ hk=>hk.elim) ?aF ?aO (Below.refl _ _) ?aS ?aL ?_;(case aP=>exact rfl);(case aF=>exact o8);(case aO=>exact OZ);(case aS=>exact aw4);(case aL=>have:=aeZ.o;omega);intro a1z w24 ho hb hg hat;rw[←aBm.o] at ho;have n_:=Z28;clear HI0 HB HK df;obtain ⟨HI0,HB,HK,aBo⟩:=n_;clear ho hb hg hat;obtain ⟨UM,aBp⟩:=HI0.o;have aJ8:=nG UM;have aJ9:=nH UM;have aKa:=az UM 0;have aKb:=az UM 1;clear UM aBp))
   go_roundg k1
   case measure=>have:=rF.o;omega
   case rel=>exact ⟨(aPd),(wrap64 ((Eb)+1)),H',⟨vE⟩,⟨by refine pR ?_;exact Kd.aD (Kd.l8 (p:=⟨g,1,none⟩) (Kd.l8 (p:=⟨g,1,none⟩) (bU.apart HI0.o aBo.o au) mV (.int .i64 Eb)) mV (.int .i64 (wrap64 ((Eb)+1)))) o8⟩,⟨mW⟩,⟨qy⟩,⟨FQ⟩⟩
def aK.f (bi:ByteArray) (gL:Int):Option (ByteArray × ByteArray × Int):=if 0≤gL then (if gL≤(bi.size:Int) then ((strings_IndexAny.f (bi.extract (gL:Int).toNat bi.size) (⟨#[44,34,10,13]⟩:ByteArray)).bind fun ab6=>(if ab6<0 then (if gL≤(wrap64 (gL+(wrap64 ((bi.size:Int) - gL)))) then (if (wrap64 (gL+(wrap64 ((bi.size:Int) - gL))))≤(bi.size:Int) then (some (bi.extract (gL:Int).toNat ((wrap64 (gL+(wrap64 ((bi.size:Int) - gL)))):Int).toNat,bi,wrap64 (gL+(wrap64 ((bi.size:Int) - gL))))) else (none)) else (none)) else (if gL≤(wrap64 (gL+ab6)) then (if (wrap64 (gL+ab6))≤(bi.size:Int) then (some (bi.extract (gL:Int).toNat ((wrap64 (gL+ab6)):Int).toNat,bi,wrap64 (gL+ab6))) else (none)) else (none)))) else (none)) else (none)
def aK.T1:Bool × List (List Nat × List Nat):=(true,[([],[]),([0],[0]),([1],[1]),([2],[2]),([],[]),([4],[4]),([5],[5]),([6],[6]),([3,7],[3,7]),([8],[8]),([9,9,0,1,2,3,4,5,6,7,8,9],[9])])
def aK.B1:List Nat:=[0,1,3,7,0,16,48,112,255,511,1023]
theorem aK.Rn:o_ .any (opsOf Tryz.f64 1)=aK.T1:=by kernel_rfl
theorem aK.Io:lq aK.T1.2 aK.B1=true:=by kernel_rfl
def aK.T3:Bool × List (List Nat × List Nat):=(true,[([],[]),([0],[0]),([1],[1]),([2],[2]),([3],[3]),([],[]),([5],[5]),([6],[6]),([7],[7]),([4,8],[4,8]),([9,0,1,2,3,4,5,6,7,8,9],[9])])
def aK.B3:List Nat:=[0,1,3,7,15,0,32,96,224,511,1023]
theorem aK.NH:o_ .any (opsOf Tryz.f64 3)=aK.T3:=by kernel_rfl
theorem aK.EI:lq aK.T3.2 aK.B3=true:=by kernel_rfl
def aK.T4:Bool × List (List Nat × List Nat):=(true,[([],[]),([0],[0]),([1],[1]),([2],[2]),([],[]),([4],[4]),([5],[5]),([6],[6]),([],[]),([8],[8]),([9],[9]),([10],[10]),([],[]),([11,12],[11,12]),([3,7,13],[3,7,13]),([14,0,1,2,3,4,5,6,7,8,9,10,11,12,13,14],[14])])
def aK.B4:List Nat:=[0,1,3,7,0,16,48,112,0,256,768,1792,0,7936,16383,32767]
theorem aK.aj1:o_ .any (opsOf Tryz.f64 4)=aK.T4:=by kernel_rfl
theorem aK.Zq:lq aK.T4.2 aK.B4=true:=by kernel_rfl
theorem aK.calls {g:Nat} {bi:ByteArray} {gL:Int} {r1:ByteArray} {r2:ByteArray} {r3:Int} (w0 w:World) (hI:bU w0 w g bi gL) (hB:Below w0.heap.size w0 w) (h:aK.f bi gL=some (r1,r2,r3)):
  Calls Tryz.prog 64 #[.pointer (some ⟨g,0,none⟩)] w fun e w'=>e=.returned (.string r1)∧bU w0 w' g r2 r3∧Below w0.heap.size w0 w'∧aA w w' g none:=by
 have HI0:=jC hI;have HK:=jC (aA.refl w g none);have HL:=jC hB.size;clear hI;have HW0:=jC hB.size;have HB:=jC hB;clear hB;have H:=h;clear h;unfold aK.f at H;obtain ⟨c2,H⟩:=nD H;have CY:=fO c2;have NF:=rM c2;clear c2;obtain ⟨c3,H⟩:=nD H;have rG:=fO c3;have Av:=rM c3;clear c3;obtain ⟨ab6,A4,H⟩:=bd H
 replace H:=iD H;obtain ⟨oZ,-,H⟩|⟨oZ,-,H⟩:=H
 ·have Gf:=fO (oT bL:0≤gL);obtain ⟨c15,H⟩:=nD H;have zx:=fO c15;have P9:=rM c15;obtain ⟨c16,H⟩:=nD H;have Gg:=fO c16;have Y8:=rM c16;simp only[Option.some.injEq,Prod.mk.injEq] at H;obtain ⟨rfl,rfl,rfl⟩:=H;go_enter Tryz.func64,Tryz.ntmps64
  try go_wp2
  have n_:=abC;clear HI0 HK HB;obtain ⟨HI0,HK,HB⟩:=n_;refine iZ (n:=11) (S:=fun w'=>w'.cell? ⟨g,0,none⟩=some (.string bi)∧w'.cell? ⟨g,1,none⟩=some (.int .i64 gL)) (ds:=[]) (qM 11 0) bD rfl (by kernel_rfl) ⟨(cu (jC (show bU w0 _ g bi gL from mW).1).o 0).trans rfl,(cu (jC (show bU w0 _ g bi gL from mW).1).o 1).trans rfl⟩ (fun hHeld=>?_);refine fZ aK.Rn aK.Io (fun HT_ HW_=>?_);generalize w.drew=w17 at HI0 HK HB hHeld ⊢;refine rP 0 (h:=?_);refine rP 1 (h:=?_);refine rP 2 (h:=?_);refine rP 4 (h:=?_);refine rP 5 (h:=?_);refine rP 6 (h:=?_);refine zA 3 hHeld (h:=?_);refine zA 7 hHeld (h:=?_);refine rP 8 (h:=?_);refine rO 9 (h:=fun K hK=>?_);refine lY Tryz.func84 bD rfl #[.string (bi.extract (gL:Int).toNat bi.size),.string (⟨#[44,34,10,13]⟩:ByteArray)] ek rfl rfl ql ?_
  with_reducible refine (strings_IndexAny.calls A4.o).mono ?_
  rintro e w18 ⟨rfl,hb⟩;refine ⟨_,rfl,?_⟩;have n_:=Z31;clear HI0 HK HB;obtain ⟨HI0,HK,HB⟩:=n_;(try clear hb);(try clear hb2);(try clear hk);(try clear hi);refine hK.out _ _ ⟨(cu (jC (show bU w0 _ g bi gL from mW).1).o 0).trans rfl,(cu (jC (show bU w0 _ g bi gL from mW).1).o 1).trans rfl⟩ (fun hHeld=>?_);clear hK K;refine rN (h:=?_);refine rP 10 (h:=?_);refine kT (jv HT_.o bD) ?_
  try go_wp2
  have n_:=abC;clear HI0 HK HB;obtain ⟨HI0,HK,HB⟩:=n_;refine iZ (n:=16) (S:=fun w'=>w'.cell? ⟨g,0,none⟩=some (.string bi)∧w'.cell? ⟨g,1,none⟩=some (.int .i64 gL)) (ds:=[]) (qM 16 0) bD rfl (by kernel_rfl) ⟨(cu (jC (show bU w0 _ g bi gL from mW).1).o 0).trans rfl,(cu (jC (show bU w0 _ g bi gL from mW).1).o 1).trans rfl⟩ (fun hHeld=>?_);refine fZ aK.aj1 aK.Zq (fun HT_ HW_=>?_);generalize w18.drew=Zc at HI0 HK HB hHeld ⊢;refine rP 0 (h:=?_);refine rP 1 (h:=?_);refine rP 2 (h:=?_);refine rP 4 (h:=?_);refine rP 5 (h:=?_);refine rP 6 (h:=?_);refine rP 8 (h:=?_);refine rP 9 (h:=?_);refine rP 10 (h:=?_);refine rP 12 (h:=?_);refine zA 3 hHeld (h:=?_);refine zA 7 hHeld (h:=?_);refine zA 11 hHeld (h:=?_);refine rP 13 (h:=?_);refine rP 14 (h:=?_);refine rP 15 (h:=?_);refine kT (jv HT_.o bD) ?_;obtain ⟨UN,aBq⟩:=HI0.o;have aKc:=nG UN;have aKd:=nH UN;have aKe:=az UN 0;have aKf:=az UN 1;clear UN aBq
  try go_wp2
  go_ret;exact ⟨fT,mW,FQ,qy⟩
 have vU:=fO (oT bL:0≤gL);obtain ⟨c7,H⟩:=nD H;have D9:=fO c7;have Re:=rM c7;obtain ⟨c8,H⟩:=nD H;have vV:=fO c8;have FU:=rM c8;simp only[Option.some.injEq,Prod.mk.injEq] at H;obtain ⟨rfl,rfl,rfl⟩:=H;go_enter Tryz.func64,Tryz.ntmps64
 try go_wp2
 have n_:=abC;clear HI0 HK HB;obtain ⟨HI0,HK,HB⟩:=n_;refine iZ (n:=11) (S:=fun w'=>w'.cell? ⟨g,0,none⟩=some (.string bi)∧w'.cell? ⟨g,1,none⟩=some (.int .i64 gL)) (ds:=[]) (qM 11 0) bD rfl (by kernel_rfl) ⟨(cu (jC (show bU w0 _ g bi gL from mW).1).o 0).trans rfl,(cu (jC (show bU w0 _ g bi gL from mW).1).o 1).trans rfl⟩ (fun hHeld=>?_);refine fZ aK.Rn aK.Io (fun HT_ HW_=>?_);generalize w.drew=w9 at HI0 HK HB hHeld ⊢;refine rP 0 (h:=?_);refine rP 1 (h:=?_);refine rP 2 (h:=?_);refine rP 4 (h:=?_);refine rP 5 (h:=?_);refine rP 6 (h:=?_);refine zA 3 hHeld (h:=?_);refine zA 7 hHeld (h:=?_);refine rP 8 (h:=?_);refine rO 9 (h:=fun K hK=>?_);refine lY Tryz.func84 bD rfl #[.string (bi.extract (gL:Int).toNat bi.size),.string (⟨#[44,34,10,13]⟩:ByteArray)] ek rfl rfl ql ?_
 with_reducible refine (strings_IndexAny.calls A4.o).mono ?_
 rintro e w10 ⟨rfl,hb⟩;refine ⟨_,rfl,?_⟩;have n_:=Z31;clear HI0 HK HB;obtain ⟨HI0,HK,HB⟩:=n_;(try clear hb);(try clear hb2);(try clear hk);(try clear hi);refine hK.out _ _ ⟨(cu (jC (show bU w0 _ g bi gL from mW).1).o 0).trans rfl,(cu (jC (show bU w0 _ g bi gL from mW).1).o 1).trans rfl⟩ (fun hHeld=>?_);clear hK K;refine rN (h:=?_);refine rP 10 (h:=?_);refine kT (jv HT_.o bD) ?_
 try go_wp2
 have n_:=abC;clear HI0 HK HB;obtain ⟨HI0,HK,HB⟩:=n_;refine iZ (n:=11) (S:=fun w'=>w'.cell? ⟨g,0,none⟩=some (.string bi)∧w'.cell? ⟨g,1,none⟩=some (.int .i64 gL)) (ds:=[]) (qM 11 0) bD rfl (by kernel_rfl) ⟨(cu (jC (show bU w0 _ g bi gL from mW).1).o 0).trans rfl,(cu (jC (show bU w0 _ g bi gL from mW).1).o 1).trans rfl⟩ (fun hHeld=>?_);refine fZ aK.NH aK.EI (fun HT_ HW_=>?_);generalize w10.drew=w11 at HI0 HK HB hHeld ⊢;refine rP 0 (h:=?_);refine rP 1 (h:=?_);refine rP 2 (h:=?_);refine rP 5 (h:=?_);refine rP 6 (h:=?_);refine rP 7 (h:=?_);refine zA 3 hHeld (h:=?_);refine rP 4 (h:=?_);refine zA 8 hHeld (h:=?_);refine rP 9 (h:=?_);refine rP 10 (h:=?_);refine kT (jv HT_.o bD) ?_
 try go_wp2
 have n_:=abC;clear HI0 HK HB;obtain ⟨HI0,HK,HB⟩:=n_;refine iZ (n:=16) (S:=fun w'=>w'.cell? ⟨g,0,none⟩=some (.string bi)∧w'.cell? ⟨g,1,none⟩=some (.int .i64 gL)) (ds:=[]) (qM 16 0) bD rfl (by kernel_rfl) ⟨(cu (jC (show bU w0 _ g bi gL from mW).1).o 0).trans rfl,(cu (jC (show bU w0 _ g bi gL from mW).1).o 1).trans rfl⟩ (fun hHeld=>?_);refine fZ aK.aj1 aK.Zq (fun HT_ HW_=>?_);generalize w11.drew=Q9 at HI0 HK HB hHeld ⊢;refine rP 0 (h:=?_);refine rP 1 (h:=?_);refine rP 2 (h:=?_);refine rP 4 (h:=?_);refine rP 5 (h:=?_);refine rP 6 (h:=?_);refine rP 8 (h:=?_);refine rP 9 (h:=?_);refine rP 10 (h:=?_);refine rP 12 (h:=?_);refine zA 3 hHeld (h:=?_);refine zA 7 hHeld (h:=?_);refine zA 11 hHeld (h:=?_);refine rP 13 (h:=?_);refine rP 14 (h:=?_);refine rP 15 (h:=?_);refine kT (jv HT_.o bD) ?_;obtain ⟨yO,UK⟩:=HI0.o;have Zm:=nG yO;have Zn:=nH yO;have Zo:=az yO 0;have Zp:=az yO 1;clear yO UK
 try go_wp2
 go_ret;exact ⟨fT,mW,FQ,qy⟩
def stringslite_HasPrefix.f (a0:ByteArray) (a1:ByteArray):Option (Bool):=if (a0.size:Int)≥(a1.size:Int) then (if 0≤(a1.size:Int) then (if (a1.size:Int)≤(a0.size:Int) then (some ((a0.extract 0 ((a1.size:Int):Int).toNat).toList==a1.toList)) else (none)) else (none)) else (some false)
theorem stringslite_HasPrefix.calls {a0:ByteArray} {a1:ByteArray} {r:Bool} {w:World} (h:stringslite_HasPrefix.f a0 a1=some r):
  Calls Tryz.prog 97 #[.string a0,.string a1] w fun e w'=>e=.returned (.bool r)∧iI w w':=by
 have H:=h;clear h;unfold stringslite_HasPrefix.f at H
 replace H:=iD H;obtain ⟨rG,c3,H⟩|⟨rG,c3,H⟩:=H
 ·have Av:decide (a1.size≤a0.size)=false:=M_ (fun h=>c3 (Int.ofNat_le.mpr h));clear c3;obtain rfl:=Option.some.inj H;go_enter Tryz.func97,Tryz.ntmps97
  go_wp2
  go_ret;exact ⟨bT,jR⟩
 have Av:decide (a1.size≤a0.size)=true:=rM (Int.ofNat_le.mp c3);clear c3;obtain ⟨c4,H⟩:=nD H;have qo:=fO c4;have Q8:=rM c4;clear c4;obtain ⟨c5,H⟩:=nD H;have oZ:=fO c5;have GY:=rM c5;clear c5;obtain rfl:=Option.some.inj H;go_enter Tryz.func97,Tryz.ntmps97
 go_wp2
 go_ret;exact ⟨bT,jR⟩
def strings_HasPrefix.f (a0:ByteArray) (a1:ByteArray):Option (Bool):=(stringslite_HasPrefix.f a0 a1).bind fun aBr=>(some aBr)
theorem strings_HasPrefix.calls {a0:ByteArray} {a1:ByteArray} {r:Bool} {w:World} (h:strings_HasPrefix.f a0 a1=some r):
  Calls Tryz.prog 85 #[.string a0,.string a1] w fun e w'=>e=.returned (.bool r)∧iI w w':=by
 have H:=h;clear h;unfold strings_HasPrefix.f at H;obtain ⟨aBr,A3,H⟩:=bd H;obtain rfl:=Option.some.inj H;go_enter Tryz.func85,Tryz.ntmps85
 go_wp2_with (first|(refine gR 7 Tryz.func97 #[.string a0,.string a1] (stringslite_HasPrefix.calls A3.o) (h:=?_);rintro w' ⟨nd,rfl⟩))
 go_ret;exact ⟨bT,jR⟩
end Go.Proofs.YtkjbbnijhpldhaaGreatDoor.QFnTable
