/- The machine side of FnTable: what each Go function that it reaches comes to. Conditions: none. -/
import Derived.Test.YtkjbbnijhpldhaaGreatDoorQFnTablex9
namespace Go.Proofs.YtkjbbnijhpldhaaGreatDoor.QFnTable
open Go.RowKit Go.Proofs.YtkjbbnijhpldhaaGreatDoorW.PrintWords Go.Proofs.YtkjbbnijhpldhaaGreatDoorW.PrintLast Go.Proofs.YtkjbbnijhpldhaaGreatDoorW.PrintMore
attribute [local go_sem] oq ou qN qO mr mD ow oz
set_option linter.unusedVariables false
set_option linter.unusedSimpArgs false
set_option maxHeartbeats 8000000
set_option maxRecDepth 100000
mutual
def bg.j0:Nat→Int→Bool→List ByteArray→ByteArray→List (List Int)→List Int→Option (Bool)
 |0,_,_,_,_,_,_=>none
 |k+1,x3,x41,ru,vJ,ry,uk=>if x41=true then (some false) else (bg.l0 k x3 0 ru vJ ry uk)
def bg.l0:Nat→Int→Int→List ByteArray→ByteArray→List (List Int)→List Int→Option (Bool)
 |0,_,_,_,_,_,_=>none
 |k+1,x3,x4,ru,vJ,ry,uk=>if x4<x3 then (if 0≤x4 then (if x4<(ru.length:Int) then ((bH.f k (jg ByteArray.empty ru x4)).bind fun azI=>(if azI=true then (if x4≤(ru.length:Int) then ((fw.f k (ru.take (x4:Int).toNat) (jg ByteArray.empty ru x4)).bind fun azJ=>(if azJ=true then (some false) else (bg.l0 k x3 (wrap64 (x4+1)) ru vJ ry uk))) else (none)) else (some false))) else (none)) else (none)) else (bg.l1 k x3 0 ru vJ ry uk)
def bg.l1:Nat→Int→Int→List ByteArray→ByteArray→List (List Int)→List Int→Option (Bool)
 |0,_,_,_,_,_,_=>none
 |k+1,x3,x5,ru,vJ,ry,uk=>if x5<(ry.length:Int) then (if 0≤x5 then (if ((gP ry x5).length:Int)=x3 then (if x5<(uk.length:Int) then ((f_.f (rd uk x5)).bind fun arz=>(bg.j3 k x3 x5 (!arz) ru vJ ry uk)) else (none)) else (bg.j3 k x3 x5 true ru vJ ry uk)) else (none)) else (some true)
def bg.j3:Nat→Int→Int→Bool→List ByteArray→ByteArray→List (List Int)→List Int→Option (Bool)
 |0,_,_,_,_,_,_,_=>none
 |k+1,x3,x5,x89,ru,vJ,ry,uk=>if x89=true then (some false) else (bg.l2 k x3 x5 0 ru vJ ry uk)
def bg.l2:Nat→Int→Int→Int→List ByteArray→ByteArray→List (List Int)→List Int→Option (Bool)
 |0,_,_,_,_,_,_,_=>none
 |k+1,x3,x5,x6,ru,vJ,ry,uk=>if x6<x3 then (if 0≤x5 then (if x5<(ry.length:Int) then (if 0≤x6 then (if x6<((gP ry x5).length:Int) then ((f_.f (rd (gP ry x5) x6)).bind fun azK=>(if azK=true then (bg.l2 k x3 x5 (wrap64 (x6+1)) ru vJ ry uk) else (some false))) else (none)) else (none)) else (none)) else (none)) else (bg.l1 k x3 (wrap64 (x5+1)) ru vJ ry uk)
end
def bg.f (k:Nat) (dH:List ByteArray) (fA:ByteArray) (eZ:List (List Int)) (fG:List Int):Option (Bool):=(dw.f (dH.length:Int) 1 4).bind fun azL=>(if azL=true then ((bH.f k fA).bind fun azM=>(if azM=true then ((fw.f k dH fA).bind fun azN=>(if azN=true then (bg.j0 k (dH.length:Int) true dH fA eZ fG) else ((dw.f (eZ.length:Int) 1 40).bind fun azO=>(if azO=true then (bg.j0 k (dH.length:Int) ((fG.length:Int) !=(eZ.length:Int)) dH fA eZ fG) else (bg.j0 k (dH.length:Int) true dH fA eZ fG))))) else (bg.j0 k (dH.length:Int) true dH fA eZ fG))) else (bg.j0 k (dH.length:Int) true dH fA eZ fG))
theorem bg.calls {k:Nat} {iq:Option Addr} {ig:Nat} {dH:List ByteArray} {fA:ByteArray} {kv:Option Addr} {jI:Nat} {eZ:List (List Int)} {jX:Option Addr} {jF:Nat} {fG:List Int} {r:Bool} {w:World} (yG:Kd.C Kd.string w iq dH.length dH) (yH:dH.length≤ig) (yI:Kd.C (Kd.slice 3 (Kd.int .i64)) w kv eZ.length eZ) (yJ:eZ.length≤jI) (yK:Kd.C (Kd.int .i64) w jX fG.length fG) (yL:fG.length≤jF) (h:bg.f k dH fA eZ fG=some r):
  Calls Tryz.prog 14 #[.agg #[.slice iq dH.length ig,.string fA,.slice kv eZ.length jI,.slice jX fG.length jF]] w fun e w'=>e=.returned (.bool r)∧Below w.heap.size w w':=by
 have NB:=Tryz.underlying28;have zo:=jC yG;have H7:=jC yH;clear yG yH;have zn:=jC yI;have Ah:=jC yJ;clear yI yJ;have DD:=jC yK;have Cf:=jC yL;clear yK yL;have HB:=jC (Below.refl w.heap.size w);have H:=h;clear h;unfold bg.f at H;have HC2:=jC H;clear H;go_enter Tryz.func14,Tryz.ntmps14
 go_upto_region 2 with (first|((with_reducible refine aG (N:=1) rfl ?_);(try (refine cO ek ?_;dsimp only));refine bE 1 #[.slice iq dH.length ig,.string fA,.slice kv eZ.length jI,.slice jX fG.length jF] 28 (h:=?_);intro KS hg w3 hbox hb;have n_:=Z53;clear HB;obtain ⟨HB,uj,adT⟩:=n_;clear hb hbox hg;obtain ⟨_,_,_,_,_,_,_,_⟩:=cz uj.o))
 repeat (go_quiet (first|((with_reducible refine aG (N:=1) rfl ?_);(try (refine cO ek ?_;dsimp only));refine bE 1 #[.slice iq dH.length ig,.string fA,.slice kv eZ.length jI,.slice jX fG.length jF] 28 (h:=?_);intro KS hg w3 hbox hb;have n_:=Z53;clear HB;obtain ⟨HB,uj,adT⟩:=n_;clear hb hbox hg;obtain ⟨_,_,_,_,_,_,_,_⟩:=cz uj.o));go_upto_region 2 with (first|((with_reducible refine aG (N:=1) rfl ?_);(try (refine cO ek ?_;dsimp only));refine bE 1 #[.slice iq dH.length ig,.string fA,.slice kv eZ.length jI,.slice jX fG.length jF] 28 (h:=?_);intro KS hg w3 hbox hb;have n_:=Z53;clear HB;obtain ⟨HB,uj,adT⟩:=n_;clear hb hbox hg;obtain ⟨_,_,_,_,_,_,_,_⟩:=cz uj.o)))
 (try simp only[Act.put,List.setIfInBounds_toArray,List.set_cons_zero,List.set_cons_succ])
 go_cut [41] (fun v41 wc=>∃(kq:Nat) (aex:Bool),v41=.bool aex∧aa (bg.j0 kq (dH.length:Int) aex dH fA eZ fG=some r)∧aa (kq≤k)∧aa (wc.heap[KS]?=some (.cells #[(.slice iq dH.length ig),.string fA,(.slice kv eZ.length jI),(.slice jX fG.length jF)] 28 (0,0)))∧aa (Below w.heap.size w wc))
 case first=>
  have H:=HC2.o;clear HC2;obtain ⟨azL,A5,H⟩:=bd H
  replace H:=iB H;obtain ⟨rfl,H⟩|⟨rfl,H⟩:=H
  ·have H':=jC H;clear H
   go_wp2_with (first|(go_at_call 47;(with_reducible refine (dw.calls A5.o).mono ?_);rintro e w' ⟨rfl,⟨nd,rfl⟩⟩;(try exact zD)))
   repeat (go_quiet (first|(go_at_call 47;(with_reducible refine (dw.calls A5.o).mono ?_);rintro e w' ⟨rfl,⟨nd,rfl⟩⟩;(try exact zD)));try go_wp2_with (first|(go_at_call 47;(with_reducible refine (dw.calls A5.o).mono ?_);rintro e w' ⟨rfl,⟨nd,rfl⟩⟩;(try exact zD))))
   go_meet
   case rel=>exact ⟨_,(true),bT,H',⟨Au⟩,⟨JJ⟩,⟨Br⟩⟩
  obtain ⟨azM,A7,H⟩:=bd H
  replace H:=iB H;obtain ⟨rfl,H⟩|⟨rfl,H⟩:=H
  ·have H':=jC H;clear H;obtain ⟨_,_,_,_,_,_,_,_⟩:=cz uj.o
   go_wp2_with (first|(go_at_call 47;(with_reducible refine (dw.calls A5.o).mono ?_);rintro e w' ⟨rfl,⟨nd,rfl⟩⟩;(try exact zD))|(go_at_call 49;(with_reducible refine (bH.calls A7.o).mono ?_);rintro e w' ⟨rfl,⟨nd,rfl⟩⟩;(try exact zD)))
   repeat (go_quiet (first|(go_at_call 47;(with_reducible refine (dw.calls A5.o).mono ?_);rintro e w' ⟨rfl,⟨nd,rfl⟩⟩;(try exact zD))|(go_at_call 49;(with_reducible refine (bH.calls A7.o).mono ?_);rintro e w' ⟨rfl,⟨nd,rfl⟩⟩;(try exact zD)));try go_wp2_with (first|(go_at_call 47;(with_reducible refine (dw.calls A5.o).mono ?_);rintro e w' ⟨rfl,⟨nd,rfl⟩⟩;(try exact zD))|(go_at_call 49;(with_reducible refine (bH.calls A7.o).mono ?_);rintro e w' ⟨rfl,⟨nd,rfl⟩⟩;(try exact zD))))
   go_meet
   case rel=>exact ⟨_,(true),bT,H',⟨Au⟩,⟨JJ⟩,⟨Br⟩⟩
  obtain ⟨azN,A9,H⟩:=bd H
  replace H:=jB H;obtain ⟨rfl,H⟩|⟨rfl,H⟩:=H
  ·have H':=jC H;clear H;obtain ⟨_,_,_,_,_,_,_,_⟩:=cz uj.o
   go_wp2_with (first|(go_at_call 47;(with_reducible refine (dw.calls A5.o).mono ?_);rintro e w' ⟨rfl,⟨nd,rfl⟩⟩;(try exact zD))|(go_at_call 49;(with_reducible refine (bH.calls A7.o).mono ?_);rintro e w' ⟨rfl,⟨nd,rfl⟩⟩;(try exact zD))|(go_at_call 50;(with_reducible refine (fw.calls ?ai ?aj A9.o).mono ?_);(case ai=>exact Z71);(case aj=>exact wT);rintro e w' ⟨rfl,⟨nd,rfl⟩⟩;(try exact zD)))
   repeat (go_quiet (first|(go_at_call 47;(with_reducible refine (dw.calls A5.o).mono ?_);rintro e w' ⟨rfl,⟨nd,rfl⟩⟩;(try exact zD))|(go_at_call 49;(with_reducible refine (bH.calls A7.o).mono ?_);rintro e w' ⟨rfl,⟨nd,rfl⟩⟩;(try exact zD))|(go_at_call 50;(with_reducible refine (fw.calls ?ai ?aj A9.o).mono ?_);(case ai=>exact Z71);(case aj=>exact wT);rintro e w' ⟨rfl,⟨nd,rfl⟩⟩;(try exact zD)));try go_wp2_with (first|(go_at_call 47;(with_reducible refine (dw.calls A5.o).mono ?_);rintro e w' ⟨rfl,⟨nd,rfl⟩⟩;(try exact zD))|(go_at_call 49;(with_reducible refine (bH.calls A7.o).mono ?_);rintro e w' ⟨rfl,⟨nd,rfl⟩⟩;(try exact zD))|(go_at_call 50;(with_reducible refine (fw.calls ?ai ?aj A9.o).mono ?_);(case ai=>exact Z71);(case aj=>exact wT);rintro e w' ⟨rfl,⟨nd,rfl⟩⟩;(try exact zD))))
   go_meet
   case rel=>exact ⟨_,(true),bT,H',⟨Au⟩,⟨JJ⟩,⟨Br⟩⟩
  obtain ⟨azO,Y0,H⟩:=bd H
  replace H:=jB H;obtain ⟨rfl,H⟩|⟨rfl,H⟩:=H
  ·have H':=jC H;clear H;obtain ⟨_,_,_,_,_,_,_,_⟩:=cz uj.o
   go_wp2_with (first|(go_at_call 47;(with_reducible refine (dw.calls A5.o).mono ?_);rintro e w' ⟨rfl,⟨nd,rfl⟩⟩;(try exact zD))|(go_at_call 49;(with_reducible refine (bH.calls A7.o).mono ?_);rintro e w' ⟨rfl,⟨nd,rfl⟩⟩;(try exact zD))|(go_at_call 50;(with_reducible refine (fw.calls ?ai ?aj A9.o).mono ?_);(case ai=>exact Z71);(case aj=>exact wT);rintro e w' ⟨rfl,⟨nd,rfl⟩⟩;(try exact zD))|(go_at_call 47;(with_reducible refine (dw.calls Y0.o).mono ?_);rintro e w' ⟨rfl,⟨nd,rfl⟩⟩;(try exact zD)))
   repeat (go_quiet (first|(go_at_call 47;(with_reducible refine (dw.calls A5.o).mono ?_);rintro e w' ⟨rfl,⟨nd,rfl⟩⟩;(try exact zD))|(go_at_call 49;(with_reducible refine (bH.calls A7.o).mono ?_);rintro e w' ⟨rfl,⟨nd,rfl⟩⟩;(try exact zD))|(go_at_call 50;(with_reducible refine (fw.calls ?ai ?aj A9.o).mono ?_);(case ai=>exact Z71);(case aj=>exact wT);rintro e w' ⟨rfl,⟨nd,rfl⟩⟩;(try exact zD))|(go_at_call 47;(with_reducible refine (dw.calls Y0.o).mono ?_);rintro e w' ⟨rfl,⟨nd,rfl⟩⟩;(try exact zD)));try go_wp2_with (first|(go_at_call 47;(with_reducible refine (dw.calls A5.o).mono ?_);rintro e w' ⟨rfl,⟨nd,rfl⟩⟩;(try exact zD))|(go_at_call 49;(with_reducible refine (bH.calls A7.o).mono ?_);rintro e w' ⟨rfl,⟨nd,rfl⟩⟩;(try exact zD))|(go_at_call 50;(with_reducible refine (fw.calls ?ai ?aj A9.o).mono ?_);(case ai=>exact Z71);(case aj=>exact wT);rintro e w' ⟨rfl,⟨nd,rfl⟩⟩;(try exact zD))|(go_at_call 47;(with_reducible refine (dw.calls Y0.o).mono ?_);rintro e w' ⟨rfl,⟨nd,rfl⟩⟩;(try exact zD))))
   go_meet
   case rel=>exact ⟨_,(((fG.length:Int) !=(eZ.length:Int))),bT,H',⟨Au⟩,⟨JJ⟩,⟨Br⟩⟩
  have H':=jC H;clear H;obtain ⟨_,_,_,_,_,_,_,_⟩:=cz uj.o
  go_wp2_with (first|(go_at_call 47;(with_reducible refine (dw.calls A5.o).mono ?_);rintro e w' ⟨rfl,⟨nd,rfl⟩⟩;(try exact zD))|(go_at_call 49;(with_reducible refine (bH.calls A7.o).mono ?_);rintro e w' ⟨rfl,⟨nd,rfl⟩⟩;(try exact zD))|(go_at_call 50;(with_reducible refine (fw.calls ?ai ?aj A9.o).mono ?_);(case ai=>exact Z71);(case aj=>exact wT);rintro e w' ⟨rfl,⟨nd,rfl⟩⟩;(try exact zD))|(go_at_call 47;(with_reducible refine (dw.calls Y0.o).mono ?_);rintro e w' ⟨rfl,⟨nd,rfl⟩⟩;(try exact zD)))
  repeat (go_quiet (first|(go_at_call 47;(with_reducible refine (dw.calls A5.o).mono ?_);rintro e w' ⟨rfl,⟨nd,rfl⟩⟩;(try exact zD))|(go_at_call 49;(with_reducible refine (bH.calls A7.o).mono ?_);rintro e w' ⟨rfl,⟨nd,rfl⟩⟩;(try exact zD))|(go_at_call 50;(with_reducible refine (fw.calls ?ai ?aj A9.o).mono ?_);(case ai=>exact Z71);(case aj=>exact wT);rintro e w' ⟨rfl,⟨nd,rfl⟩⟩;(try exact zD))|(go_at_call 47;(with_reducible refine (dw.calls Y0.o).mono ?_);rintro e w' ⟨rfl,⟨nd,rfl⟩⟩;(try exact zD)));try go_wp2_with (first|(go_at_call 47;(with_reducible refine (dw.calls A5.o).mono ?_);rintro e w' ⟨rfl,⟨nd,rfl⟩⟩;(try exact zD))|(go_at_call 49;(with_reducible refine (bH.calls A7.o).mono ?_);rintro e w' ⟨rfl,⟨nd,rfl⟩⟩;(try exact zD))|(go_at_call 50;(with_reducible refine (fw.calls ?ai ?aj A9.o).mono ?_);(case ai=>exact Z71);(case aj=>exact wT);rintro e w' ⟨rfl,⟨nd,rfl⟩⟩;(try exact zD))|(go_at_call 47;(with_reducible refine (dw.calls Y0.o).mono ?_);rintro e w' ⟨rfl,⟨nd,rfl⟩⟩;(try exact zD))))
  go_meet
  case rel=>exact ⟨_,(true),bT,H',⟨Au⟩,⟨JJ⟩,⟨Br⟩⟩
 case rest=>
  clear HC2;obtain ⟨kq,aex,rfl,HA,YU,uj,HB⟩:=hcut
  cases kq with
  |zero=>exact absurd HA.o (by simp [bg.j0])
  |succ kj1=>
   have H:=HA.o;clear HA;simp only[bg.j0] at H
   replace H:=jB H;obtain ⟨rfl,G⟩|⟨rfl,G⟩:=H
   ·have H:=G;clear G;obtain rfl:=Option.some.inj H
    go_wp2
    repeat (go_quiet (fail);try go_wp2)
    go_ret;exact ⟨fT,Br⟩
   have H:=G;clear G;have H':=jC H;clear H
   go_wp2
   repeat (go_quiet (fail);try go_wp2)
   go_loopg [4] kj1 (fun kq v4 w'=>∃(yM:Int),v4=.int .i64 yM∧aa (bg.l0 kq (dH.length:Int) yM dH fA eZ fG=some r)∧aa (kq≤kj1)∧aa (w'.heap[KS]?=some (.cells #[(.slice iq dH.length ig),.string fA,(.slice kv eZ.length jI),(.slice jX fG.length jF)] 28 (0,0)))∧aa (Below w.heap.size w w'))
   case atStart=>exact ⟨(0),bT,H',⟨Nat.le_refl _⟩,⟨JJ⟩,⟨Br⟩⟩
   case round=>
    clear H';obtain ⟨yM,rfl,HA,vD,uj,HB⟩:=hrel
    cases gk with
    |zero=>exact absurd HA.o (by simp [bg.l0])
    |succ k2=>
     have H:=HA.o;clear HA;simp only[bg.l0] at H
     replace H:=jD H;obtain ⟨DN,-,H⟩|⟨DN,-,H⟩:=H
     ·obtain ⟨Gd,-,H⟩:=l5 H;obtain ⟨yN,-,H⟩:=l5 H;obtain ⟨azI,A21,H⟩:=bd H
      replace H:=iB H;obtain ⟨rfl,H⟩|⟨rfl,H⟩:=H
      ·obtain rfl:=Option.some.inj H;obtain ⟨_,_,_,_,_,_,_,_⟩:=cz uj.o;obtain ⟨azP,azQ,P_,aey,ul⟩:=gS zo.o yM
       cases aey
       replace ul:=(HB.o.cell (World.block_lt_of_cell? w _ ul)).trans ul
       go_wp2_with (first|(go_at_call 49;(with_reducible refine (bH.calls A21.o).mono ?_);rintro e w' ⟨rfl,⟨nd,rfl⟩⟩;(try exact zD)))
       repeat (go_quiet (first|(go_at_call 49;(with_reducible refine (bH.calls A21.o).mono ?_);rintro e w' ⟨rfl,⟨nd,rfl⟩⟩;(try exact zD)));try go_wp2_with (first|(go_at_call 49;(with_reducible refine (bH.calls A21.o).mono ?_);rintro e w' ⟨rfl,⟨nd,rfl⟩⟩;(try exact zD))))
       go_ret;exact ⟨fT,Br⟩
      have Ig:=fO (oT bL:0≤yM);obtain ⟨c24,H⟩:=nD H;have ank:=fO c24;have azR:=rM c24;clear c24;obtain ⟨azJ,A25,H⟩:=bd H
      replace H:=jB H;obtain ⟨rfl,H⟩|⟨rfl,H⟩:=H
      ·obtain rfl:=Option.some.inj H;obtain ⟨_,_,_,_,_,_,_,_⟩:=cz uj.o;obtain ⟨azP,azQ,P_,aey,ul⟩:=gS zo.o yM
       cases aey
       replace ul:=(HB.o.cell (World.block_lt_of_cell? w _ ul)).trans ul;obtain ⟨a0U,anl,_,anm,_⟩:=info_parts l_;obtain ⟨aOg,azS,azT⟩:=nZ (P:=Tryz.prog) Value.string (⟨#[]⟩:ByteArray) 24 9 .i64 Tryz.underlying24 anl anm (some P_) ig dH yM (oT bL) (oT bL) H7.o;have amK:=jC (Kd.qi (h1:=fun _=>rfl) (azS _ (Kd.oW zo.o)));have NE:=jC azT;clear azS azT anl anm;obtain ⟨aOh,aOi,aez,arB,yj⟩:=gS zo.o yM;obtain rfl:P_=aez:=(by injection arB);replace yj:=(HB.o.cell (World.block_lt_of_cell? w _ yj)).trans yj
       go_wp2_with (first|(go_at_call 49;(with_reducible refine (bH.calls A21.o).mono ?_);rintro e w' ⟨rfl,⟨nd,rfl⟩⟩;(try exact zD))|(go_at_call 50;(with_reducible refine rf (xs:=dH) (j:=yM) (oT bL) (oT bL) ((fw.calls ?ai ?aj A25.o).mono ?_));(case ai=>exact Z73);(case aj=>exact NE.o);rintro e w' ⟨rfl,⟨nd,rfl⟩⟩;(try exact zD)))
       repeat (go_quiet (first|(go_at_call 49;(with_reducible refine (bH.calls A21.o).mono ?_);rintro e w' ⟨rfl,⟨nd,rfl⟩⟩;(try exact zD))|(go_at_call 50;(with_reducible refine rf (xs:=dH) (j:=yM) (oT bL) (oT bL) ((fw.calls ?ai ?aj A25.o).mono ?_));(case ai=>exact Z73);(case aj=>exact NE.o);rintro e w' ⟨rfl,⟨nd,rfl⟩⟩;(try exact zD)));try go_wp2_with (first|(go_at_call 49;(with_reducible refine (bH.calls A21.o).mono ?_);rintro e w' ⟨rfl,⟨nd,rfl⟩⟩;(try exact zD))|(go_at_call 50;(with_reducible refine rf (xs:=dH) (j:=yM) (oT bL) (oT bL) ((fw.calls ?ai ?aj A25.o).mono ?_));(case ai=>exact Z73);(case aj=>exact NE.o);rintro e w' ⟨rfl,⟨nd,rfl⟩⟩;(try exact zD))))
       go_ret;exact ⟨fT,Br⟩
      have H':=jC H;clear H;obtain ⟨_,_,_,_,_,_,_,_⟩:=cz uj.o;obtain ⟨azP,azQ,P_,aey,ul⟩:=gS zo.o yM
      cases aey
      replace ul:=(HB.o.cell (World.block_lt_of_cell? w _ ul)).trans ul;obtain ⟨a0V,ann,_,ano,_⟩:=info_parts l_;obtain ⟨aOj,azU,azV⟩:=nZ (P:=Tryz.prog) Value.string (⟨#[]⟩:ByteArray) 24 9 .i64 Tryz.underlying24 ann ano (some P_) ig dH yM (oT bL) (oT bL) H7.o;have amK:=jC (Kd.qi (h1:=fun _=>rfl) (azU _ (Kd.oW zo.o)));have NE:=jC azV;clear azU azV ann ano;obtain ⟨aOh,aOi,aez,arB,yj⟩:=gS zo.o yM;obtain rfl:P_=aez:=(by injection arB);replace yj:=(HB.o.cell (World.block_lt_of_cell? w _ yj)).trans yj
      go_wp2_with (first|(go_at_call 49;(with_reducible refine (bH.calls A21.o).mono ?_);rintro e w' ⟨rfl,⟨nd,rfl⟩⟩;(try exact zD))|(go_at_call 50;(with_reducible refine rf (xs:=dH) (j:=yM) (oT bL) (oT bL) ((fw.calls ?ai ?aj A25.o).mono ?_));(case ai=>exact Z73);(case aj=>exact NE.o);rintro e w' ⟨rfl,⟨nd,rfl⟩⟩;(try exact zD)))
      repeat (go_quiet (first|(go_at_call 49;(with_reducible refine (bH.calls A21.o).mono ?_);rintro e w' ⟨rfl,⟨nd,rfl⟩⟩;(try exact zD))|(go_at_call 50;(with_reducible refine rf (xs:=dH) (j:=yM) (oT bL) (oT bL) ((fw.calls ?ai ?aj A25.o).mono ?_));(case ai=>exact Z73);(case aj=>exact NE.o);rintro e w' ⟨rfl,⟨nd,rfl⟩⟩;(try exact zD)));try go_wp2_with (first|(go_at_call 49;(with_reducible refine (bH.calls A21.o).mono ?_);rintro e w' ⟨rfl,⟨nd,rfl⟩⟩;(try exact zD))|(go_at_call 50;(with_reducible refine rf (xs:=dH) (j:=yM) (oT bL) (oT bL) ((fw.calls ?ai ?aj A25.o).mono ?_));(case ai=>exact Z73);(case aj=>exact NE.o);rintro e w' ⟨rfl,⟨nd,rfl⟩⟩;(try exact zD))))
      go_roundg k2
      case measure=>have:=YU.o;have:=vD.o;omega
      case rel=>exact ⟨(wrap64 (yM+1)),bT,H',⟨aqV⟩,⟨JJ⟩,⟨Br⟩⟩
     have H':=jC H;clear H
     go_wp2
     repeat (go_quiet (fail);try go_wp2)
     go_loopg [5] k2 (fun kq v5 w'=>∃(zg:Int),v5=.int .i64 zg∧aa (bg.l1 kq (dH.length:Int) zg dH fA eZ fG=some r)∧aa (kq≤k2)∧aa (w'.heap[KS]?=some (.cells #[(.slice iq dH.length ig),.string fA,(.slice kv eZ.length jI),(.slice jX fG.length jF)] 28 (0,0)))∧aa (Below w.heap.size w w'))
     case atStart=>exact ⟨(0),bT,H',⟨Nat.le_refl _⟩,⟨JJ⟩,⟨Br⟩⟩
     case round=>
      clear H'
      try clear hx4
      try clear ul
      try clear yj
      obtain ⟨zg,rfl,HA,Xa,uj,HB⟩:=hrel
      cases gk with
      |zero=>exact absurd HA.o (by simp [bg.l1])
      |succ k3=>
       have H:=HA.o;clear HA;simp only[bg.l1] at H
       replace H:=iD H;obtain ⟨Y5,-,H⟩|⟨Y5,-,H⟩:=H
       ·obtain rfl:=Option.some.inj H;obtain ⟨_,_,_,_,_,_,_,_⟩:=cz uj.o
        go_wp2
        repeat (go_quiet (fail);try go_wp2)
        go_ret;exact ⟨fT,Br⟩
       have arC:=jC H;clear H;obtain ⟨_,_,_,_,_,_,_,_⟩:=cz uj.o
       go_upto_region 12 with (fail)
       repeat (go_quiet (fail);go_upto_region 12 with (fail))
       go_cut [89] (fun v89 wc=>∃(kq:Nat) (Xk:Bool),v89=.bool Xk∧aa (bg.j3 kq (dH.length:Int) zg Xk dH fA eZ fG=some r)∧aa (kq≤k3)∧aa (wc.heap[KS]?=some (.cells #[(.slice iq dH.length ig),.string fA,(.slice kv eZ.length jI),(.slice jX fG.length jF)] 28 (0,0)))∧aa (Below w.heap.size w wc))
       case first=>
        have H:=arC.o;clear arC;obtain ⟨Y6,-,H⟩:=l5 H;(first|rw[Y6]|(simp only[jT,kS];rw[Y6])|skip)
        replace H:=iE H;obtain ⟨anp,azW,c36,H⟩|⟨anp,azW,c36,H⟩:=H
        ·have azX:((gP eZ zg).length==dH.length)=false:=by first|simpa using c36|(simp at c36 ⊢;omega)
         have H':=jC H;clear H;obtain ⟨_,_,_,_,_,_,_,_⟩:=cz uj.o;obtain ⟨aOk,aOl,azY,arD,arE,arF,zI,ajJ,ajK⟩:=V8 zn.o zg
         cases arF
         replace zI:=(HB.o.cell (World.block_lt_of_cell? w _ zI)).trans zI
         go_wp2
         repeat (go_quiet (fail);try go_wp2)
         go_meet
         case rel=>exact ⟨_,(true),bT,H',⟨ayu⟩,⟨JJ⟩,⟨Br⟩⟩
        have azX:((gP eZ zg).length==dH.length)=true:=by first|simpa using c36|(simp at c36 ⊢;omega)
        clear c36;obtain ⟨anq,-,H⟩:=l5 H;obtain ⟨arz,A38,H⟩:=bd H;have H':=jC H;clear H;obtain ⟨_,_,_,_,_,_,_,_⟩:=cz uj.o;obtain ⟨aOk,aOl,azY,arD,arE,arF,zI,ajJ,ajK⟩:=V8 zn.o zg
        cases arF
        replace zI:=(HB.o.cell (World.block_lt_of_cell? w _ zI)).trans zI;obtain ⟨a0W,a0X,aWv,aOm,Ih⟩:=gI DD.o zg
        cases aOm
        replace Ih:=(HB.o.cell (World.block_lt_of_cell? w _ Ih)).trans Ih
        go_wp2_with (first|(go_at_call 51;(with_reducible refine (f_.calls A38.o).mono ?_);rintro e w' ⟨rfl,⟨nd,rfl⟩⟩;(try exact zD)))
        repeat (go_quiet (first|(go_at_call 51;(with_reducible refine (f_.calls A38.o).mono ?_);rintro e w' ⟨rfl,⟨nd,rfl⟩⟩;(try exact zD)));try go_wp2_with (first|(go_at_call 51;(with_reducible refine (f_.calls A38.o).mono ?_);rintro e w' ⟨rfl,⟨nd,rfl⟩⟩;(try exact zD))))
        go_meet
        case rel=>exact ⟨_,(!arz),bT,H',⟨ayu⟩,⟨JJ⟩,⟨Br⟩⟩
       case rest=>
        clear arC
        try clear hx4
        try clear ul
        try clear yj
        try clear zI
        try clear Ih
        obtain ⟨kq,Xk,rfl,HA,aqP,uj,HB⟩:=hcut
        cases kq with
        |zero=>exact absurd HA.o (by simp [bg.j3])
        |succ az0=>
         have H:=HA.o;clear HA;simp only[bg.j3] at H
         replace H:=jB H;obtain ⟨rfl,G⟩|⟨rfl,G⟩:=H
         ·have H:=G;clear G;obtain rfl:=Option.some.inj H
          go_wp2
          repeat (go_quiet (fail);try go_wp2)
          go_ret;exact ⟨fT,Br⟩
         have H:=G;clear G;have H':=jC H;clear H
         go_wp2
         repeat (go_quiet (fail);try go_wp2)
         go_loopg [6] az0 (fun kq v6 w'=>∃(abU:Int),v6=.int .i64 abU∧aa (bg.l2 kq (dH.length:Int) zg abU dH fA eZ fG=some r)∧aa (kq≤az0)∧aa (w'.heap[KS]?=some (.cells #[(.slice iq dH.length ig),.string fA,(.slice kv eZ.length jI),(.slice jX fG.length jF)] 28 (0,0)))∧aa (Below w.heap.size w w'))
         case atStart=>exact ⟨(0),bT,H',⟨Nat.le_refl _⟩,⟨JJ⟩,⟨Br⟩⟩
         case round=>
          clear H'
          try clear hx4
          try clear ul
          try clear yj
          try clear zI
          try clear Ih
          obtain ⟨abU,rfl,HA,HK5,uj,HB⟩:=hrel
          cases gk with
          |zero=>exact absurd HA.o (by simp [bg.l2])
          |succ k5=>
           have H:=HA.o;clear HA;simp only[bg.l2] at H
           replace H:=iD H;obtain ⟨az1,-,H⟩|⟨az1,-,H⟩:=H
           ·have H':=jC H;clear H
            go_wp2
            repeat (go_quiet (fail);try go_wp2)
            go_roundg k5
            case measure=>have:=YU.o;have:=vD.o;have:=Xa.o;have:=aqP.o;have:=HK5.o;omega
            case rel=>exact ⟨(wrap64 (zg+1)),bT,H',⟨ays⟩,⟨JJ⟩,⟨Br⟩⟩
           obtain ⟨aWw,-,H⟩:=l5 H;obtain ⟨anr,-,H⟩:=l5 H;obtain ⟨UD,-,H⟩:=l5 H;obtain ⟨ant,-,H⟩:=l5 H;obtain ⟨azK,A47,H⟩:=bd H
           replace H:=iB H;obtain ⟨rfl,H⟩|⟨rfl,H⟩:=H
           ·obtain rfl:=Option.some.inj H;obtain ⟨_,_,_,_,_,_,_,_⟩:=cz uj.o;obtain ⟨aOn,aOo,az2,arG,arH,arI,C8,ajL,Rc⟩:=V8 zn.o zg
            cases arI
            replace C8:=(HB.o.cell (World.block_lt_of_cell? w _ C8)).trans C8;obtain ⟨aOp,aOq,az3,arJ,C9⟩:=gI Rc.o abU
            cases arJ
            replace C9:=(HB.o.cell (World.block_lt_of_cell? w _ C9)).trans C9
            go_wp2_with (first|(go_at_call 51;(with_reducible refine (f_.calls A47.o).mono ?_);rintro e w' ⟨rfl,⟨nd,rfl⟩⟩;(try exact zD)))
            repeat (go_quiet (first|(go_at_call 51;(with_reducible refine (f_.calls A47.o).mono ?_);rintro e w' ⟨rfl,⟨nd,rfl⟩⟩;(try exact zD)));try go_wp2_with (first|(go_at_call 51;(with_reducible refine (f_.calls A47.o).mono ?_);rintro e w' ⟨rfl,⟨nd,rfl⟩⟩;(try exact zD))))
            go_ret;exact ⟨fT,Br⟩
           have H':=jC H;clear H;obtain ⟨_,_,_,_,_,_,_,_⟩:=cz uj.o;obtain ⟨aOn,aOo,az2,arG,arH,arI,C8,ajL,Rc⟩:=V8 zn.o zg
           cases arI
           replace C8:=(HB.o.cell (World.block_lt_of_cell? w _ C8)).trans C8;obtain ⟨aOp,aOq,az3,arJ,C9⟩:=gI Rc.o abU
           cases arJ
           replace C9:=(HB.o.cell (World.block_lt_of_cell? w _ C9)).trans C9
           go_wp2_with (first|(go_at_call 51;(with_reducible refine (f_.calls A47.o).mono ?_);rintro e w' ⟨rfl,⟨nd,rfl⟩⟩;(try exact zD)))
           repeat (go_quiet (first|(go_at_call 51;(with_reducible refine (f_.calls A47.o).mono ?_);rintro e w' ⟨rfl,⟨nd,rfl⟩⟩;(try exact zD)));try go_wp2_with (first|(go_at_call 51;(with_reducible refine (f_.calls A47.o).mono ?_);rintro e w' ⟨rfl,⟨nd,rfl⟩⟩;(try exact zD))))
           go_roundg k5
           case measure=>have:=YU.o;have:=vD.o;have:=Xa.o;have:=aqP.o;have:=HK5.o;omega
           case rel=>exact ⟨(wrap64 (abU+1)),bT,H',⟨ays⟩,⟨JJ⟩,⟨Br⟩⟩
end Go.Proofs.YtkjbbnijhpldhaaGreatDoor.QFnTable
