/- The machine side of FnTable: what each Go function that it reaches comes to. Conditions: none. -/
import Derived.Test.YtkjbbnijhpldhaaGreatDoorQFnTablex6
namespace Go.Proofs.YtkjbbnijhpldhaaGreatDoor.QFnTable
open Go.RowKit Go.Proofs.YtkjbbnijhpldhaaGreatDoorW.PrintWords Go.Proofs.YtkjbbnijhpldhaaGreatDoorW.PrintLast Go.Proofs.YtkjbbnijhpldhaaGreatDoorW.PrintMore
attribute [local go_sem] oq ou qN qO mr mD ow oz
set_option linter.unusedVariables false
set_option linter.unusedSimpArgs false
set_option maxHeartbeats 8000000
set_option maxRecDepth 100000
def eY.f (k:Nat) (dH:List ByteArray) (fA:ByteArray) (eZ:List (List Int)) (fG:List Int):Option (Bool):=(gp.f (dH.length:Int) 1 4).bind fun aII=>(if aII=true then ((aT.f dH).bind fun Dt=>((some (([fA]:List ByteArray):List ByteArray)).bind fun zM=>(if Dt.length+zM.length<8796093022208 then ((gX.f k (Dt++zM)).bind fun aIJ=>(if aIJ=true then ((gp.f (eZ.length:Int) 1 40).bind fun aIK=>(if aIK=true then (if (fG.length:Int)=(eZ.length:Int) then ((jV.f k fG).bind fun aIL=>(if aIL=true then ((aH.f eZ dH).bind fun alW=>(some (!alW))) else (some false))) else (some false)) else (some false))) else (some false))) else (none)))) else (some false))
def eY.T1:Bool × List (List Nat × List Nat):=(true,[([],[]),([0],[0]),([1],[1]),([2],[2]),([3],[3]),([4,3],[4]),([5],[5]),([6,5],[5,6]),([7,5,5],[5,7]),([5],[5]),([9,5],[5,9]),([10,5],[5,10]),([8,11,8,5],[5,8,11]),([12,12,5],[5,12]),([13,5],[5,13]),([5,14],[5,14]),([15,13],[15]),([16],[16]),([17,16],[16,17]),([18,16],[16,18]),([19,16,16],[16,19]),([20,16],[16,20]),([16,21],[16,21]),([22,20],[22]),([23],[23]),([24,23],[23,24]),([25,23],[23,25]),([23],[23]),([27,23],[23,27]),([28,23],[23,28]),([26,29,23],[23,26,29]),([23,30],[23,30]),([31,23],[31]),([32],[32]),([33,32],[32,33]),([34,32,32],[32,34]),([35,32],[32,35]),([32,36],[32,36])])
def eY.B1:List Nat:=[0,1,3,7,15,31,63,127,255,63,575,1599,4095,8191,16383,32767,65535,131071,262143,524287,1048575,2097151,4194303,8388607,16777215,33554431,67108863,16777215,150994943,419430399,1073741823,2147483647,4294967295,8589934591,17179869183,34359738367,68719476735,137438953471]
theorem eY.Rn:o_ .any (opsOf Tryz.f8 1)=eY.T1:=by kernel_rfl
theorem eY.Io:lq eY.T1.2 eY.B1=true:=by kernel_rfl
theorem eY.calls {k:Nat} {iq:Option Addr} {ig:Nat} {dH:List ByteArray} {fA:ByteArray} {kv:Option Addr} {jI:Nat} {eZ:List (List Int)} {jX:Option Addr} {jF:Nat} {fG:List Int} {r:Bool} {w:World} (yG:Kd.C Kd.string w iq dH.length dH) (yH:dH.length≤ig) (yI:Kd.C (Kd.slice 3 (Kd.int .i64)) w kv eZ.length eZ) (yJ:eZ.length≤jI) (yK:Kd.C (Kd.int .i64) w jX fG.length fG) (yL:fG.length≤jF) (h:eY.f k dH fA eZ fG=some r):
  Calls Tryz.prog 8 #[.agg #[.slice iq dH.length ig,.string fA,.slice kv eZ.length jI,.slice jX fG.length jF]] w fun e w'=>e=.returned (.bool r)∧Below w.heap.size w w':=by
 have NB:=Tryz.underlying28;have zo:=jC yG;have H7:=jC yH;clear yG yH;have zn:=jC yI;have Ah:=jC yJ;clear yI yJ;have DD:=jC yK;have Cf:=jC yL;clear yK yL;have HB:=jC (Below.refl w.heap.size w);have H:=h;clear h;unfold eY.f at H;obtain ⟨aII,A2,H⟩:=bd H
 replace H:=iB H;obtain ⟨rfl,H⟩|⟨rfl,H⟩:=H
 ·obtain rfl:=Option.some.inj H;go_enter Tryz.func8,Tryz.ntmps8
  try go_wp2_with (first|((with_reducible refine aG (N:=1) rfl ?_);(try (refine cO ek ?_;dsimp only));refine bE 1 #[.slice iq dH.length ig,.string fA,.slice kv eZ.length jI,.slice jX fG.length jF] 28 (h:=?_);intro gT hg w61 hbox hb;have n_:=Z48;clear HB;obtain ⟨HB,ax,PW⟩:=n_;clear hb hbox hg))
  have n_:=abE;clear ax HB;obtain ⟨ax,HB⟩:=n_;refine iZ (n:=38) (S:=fun w'=>w'.cell? ⟨gT,0,none⟩=some (.slice iq dH.length ig)∧w'.cell? ⟨gT,1,none⟩=some (.string fA)∧w'.cell? ⟨gT,2,none⟩=some (.slice kv eZ.length jI)∧w'.cell? ⟨gT,3,none⟩=some (.slice jX fG.length jF)) (ds:=[]) (qM 38 0) bD rfl (by kernel_rfl) ⟨bc ax 0,bc ax 1,bc ax 2,bc ax 3⟩ (fun hHeld=>?_);refine fZ eY.Rn eY.Io (fun HT_ HW_=>?_);generalize w61.drew=w62 at ax HB hHeld ⊢;refine rP 0 (h:=?_);refine FN 1 hHeld (h:=?_);refine rP 2 (h:=?_);refine rO 3 (h:=fun K hK=>?_);refine lY Tryz.func23 bD rfl #[.int .i64 (dH.length:Int),.int .i64 1,.int .i64 4] ek rfl rfl ql ?_
  with_reducible refine (gp.calls A2.o).mono ?_
  rintro e w' ⟨rfl,⟨nd,rfl⟩⟩;refine ⟨_,rfl,?_⟩;refine hK.out _ _ ⟨bc ax 0,bc ax 1,bc ax 2,bc ax 3⟩ (fun hHeld=>?_);clear hK K;refine rN (h:=?_);refine rP 4 (h:=?_);refine rP 5 (h:=?_);refine rU 6 (h:=?_);refine rU 7 (h:=?_);refine rU 8 (h:=?_);refine rU 9 (h:=?_);refine rU 10 (h:=?_);refine rU 11 (h:=?_);refine rU 12 (h:=?_);refine rU 13 (h:=?_);refine rU 14 (h:=?_);refine rP 15 (h:=?_);refine rP 16 (h:=?_);refine rU 17 (h:=?_);refine rU 18 (h:=?_);refine rU 19 (h:=?_);refine rU 20 (h:=?_);refine rU 21 (h:=?_);refine rP 22 (h:=?_);refine rP 23 (h:=?_);refine rU 24 (h:=?_);refine rU 25 (h:=?_);refine rU 26 (h:=?_);refine rU 27 (h:=?_);refine rU 28 (h:=?_);refine rU 29 (h:=?_);refine rU 30 (h:=?_);refine rP 31 (h:=?_);refine rP 32 (h:=?_);refine rU 33 (h:=?_);refine rU 34 (h:=?_);refine rU 35 (h:=?_);refine rU 36 (h:=?_);refine rP 37 (h:=?_);refine kT (jv HT_.o bD) ?_
  try go_wp2
  go_ret;exact ⟨fT,qh⟩
 obtain ⟨Dt,A4,H⟩:=bd H;obtain ⟨zM,ww,H⟩:=yB H;obtain ⟨c5,H⟩:=nD H;have aqW:=jC c5;clear c5;generalize hyy:(Dt++zM)=ahE at H;have VP:=jC hyy.symm;clear hyy;obtain ⟨aIJ,A6,H⟩:=bd H
 replace H:=iB H;obtain ⟨rfl,H⟩|⟨rfl,H⟩:=H
 ·obtain rfl:=Option.some.inj H;go_enter Tryz.func8,Tryz.ntmps8
  try go_wp2_with (first|((with_reducible refine aG (N:=1) rfl ?_);(try (refine cO ek ?_;dsimp only));refine bE 1 #[.slice iq dH.length ig,.string fA,.slice kv eZ.length jI,.slice jX fG.length jF] 28 (h:=?_);intro gT hg w52 hbox hb;have n_:=Z48;clear HB;obtain ⟨HB,ax,PW⟩:=n_;clear hb hbox hg))
  have n_:=abE;clear ax HB;obtain ⟨ax,HB⟩:=n_;refine iZ (n:=38) (S:=fun w'=>w'.cell? ⟨gT,0,none⟩=some (.slice iq dH.length ig)∧w'.cell? ⟨gT,1,none⟩=some (.string fA)∧w'.cell? ⟨gT,2,none⟩=some (.slice kv eZ.length jI)∧w'.cell? ⟨gT,3,none⟩=some (.slice jX fG.length jF)) (ds:=[]) (qM 38 0) bD rfl (by kernel_rfl) ⟨bc ax 0,bc ax 1,bc ax 2,bc ax 3⟩ (fun hHeld=>?_);refine fZ eY.Rn eY.Io (fun HT_ HW_=>?_);generalize w52.drew=w53 at ax HB hHeld ⊢;refine rP 0 (h:=?_);refine FN 1 hHeld (h:=?_);refine rP 2 (h:=?_);refine rO 3 (h:=fun K hK=>?_);refine lY Tryz.func23 bD rfl #[.int .i64 (dH.length:Int),.int .i64 1,.int .i64 4] ek rfl rfl ql ?_
  with_reducible refine (gp.calls A2.o).mono ?_
  rintro e w' ⟨rfl,⟨nd,rfl⟩⟩;refine ⟨_,rfl,?_⟩;refine hK.out _ _ ⟨bc ax 0,bc ax 1,bc ax 2,bc ax 3⟩ (fun hHeld=>?_);clear hK K;refine rN (h:=?_);refine rP 4 (h:=?_);refine rP 5 (h:=?_);refine rP 6 (h:=?_);refine rP 9 (h:=?_);refine FN 7 hHeld (h:=?_);refine FN 10 hHeld (h:=?_);refine Gh (σ:=Value × Value) 26 (qM 38 4095) (fun s_=> [(11,s_.1),(14,s_.2)]) (fun s_ w'=>(w'.cell? ⟨gT,0,none⟩=some (.slice iq dH.length ig)∧w'.cell? ⟨gT,1,none⟩=some (.string fA)∧w'.cell? ⟨gT,2,none⟩=some (.slice kv eZ.length jI)∧w'.cell? ⟨gT,3,none⟩=some (.slice jX fG.length jF))∧(Kd.R Kd.string 9 w' w.heap.size (fun k_=>some k_≠(s_.2:Value).ownBlock) s_.1 Dt)∧(Kd.R Kd.string 9 w' w.heap.size (fun k_=>some k_≠(s_.1:Value).ownBlock) s_.2 zM)∧(w'.heap[gT]?=some (.cells #[.slice iq dH.length ig,.string fA,.slice kv eZ.length jI,.slice jX fG.length jF] 28 (0,0)))∧(Below w.heap.size w w')) ?_ ?_;rotate_left
  ·intro hCont;refine Ij (i:=8) (j:=11) (Ni:=some 11) (Nj:=some 14) (qM 38 2047) (qM 38 3839) rfl rfl rfl rfl (wW HT_.o bD) au au (fun K hK=>?_) (fun K hK=>?_)
   ·skip
    refine lY Tryz.func17 bD rfl #[.slice iq dH.length ig] ek rfl rfl ql ?_
    with_reducible refine (aT.calls ?ai ?aj A4.o).mono ?_
    (case ai=>exact Z74)
    (case aj=>exact wT)
    rintro e w54 ⟨tF,rfl,ho0,hb⟩;refine ⟨_,rfl,?_⟩;have n_:=Z44;clear ax HB;obtain ⟨pE,ax,HB⟩:=n_;(try clear hb);(try clear hb2);(try clear hk);(try clear hi);(try clear ho0);refine hK.out _ _ ⟨bc ax 0,bc ax 1,bc ax 2,bc ax 3⟩ (fun hHeld=>?_);clear hK K;refine rN (h:=?_);refine rO 11 (h:=fun K hK=>?_);refine Kd.gJ Kd.string _ 9 ?hg (N:=14) ?hd (xs:=([fA]:List ByteArray)) (inner:=[.string fA]) (ok:=fun _=>True) (okp:=fun _=>True) ?hr ?hp rE trivial (Below.refl _ _) (Nat.le_refl _) gQ ?_;(case hd=>rfl);(case hg=>rfl);(case hr=>exact kz);(case hp=>exact GX);intro uX w55 I5 hb hg_ hnew_;clear hg_ hnew_;(first|rw[←ww.o] at I5|(simp only[Int.reduceToNat] at I5;rw[←ww.o] at I5));have n_:=jA (Kd.gq Nq (Kd.dJ I5) hb) (jA (Kd.dC (Kd.jh I5 (Kd.iY Nq)) (ah qh)) (jA (dE ax hb) (jC (ae qh hb))));clear pE ax HB;obtain ⟨pE,nL,ax,HB⟩:=n_;clear hb I5;refine hK.out _ _ ⟨bc ax 0,bc ax 1,bc ax 2,bc ax 3⟩ (fun hHeld=>?_);clear hK K;refine rN (h:=?_);exact oC zG (hCont (tF,uX) _ ⟨hHeld,OY,OX,LD,qh⟩)
   skip
   refine Kd.gJ Kd.string _ 9 ?hg (N:=14) ?hd (xs:=([fA]:List ByteArray)) (inner:=[.string fA]) (ok:=fun _=>True) (okp:=fun _=>True) ?hr ?hp rE trivial (Below.refl _ _) (Nat.le_refl _) gQ ?_;(case hd=>rfl);(case hg=>rfl);(case hr=>exact kz);(case hp=>exact GX);intro uX w54 ahF hb hg_ hnew_;clear hg_ hnew_;(first|rw[←ww.o] at ahF|(simp only[Int.reduceToNat] at ahF;rw[←ww.o] at ahF));have n_:=jA (Kd.dC ahF (ah qh)) (jA (dE ax hb) (jC (ae qh hb)));clear ax HB;obtain ⟨nL,ax,HB⟩:=n_;clear hb ahF;refine hK.out _ _ ⟨bc ax 0,bc ax 1,bc ax 2,bc ax 3⟩ (fun hHeld=>?_);clear hK K;refine rN (h:=?_);refine rO 8 (h:=fun K hK=>?_);refine lY Tryz.func17 bD rfl #[.slice iq dH.length ig] ek rfl rfl ql ?_
   with_reducible refine (aT.calls ?ai ?aj A4.o).mono ?_
   (case ai=>exact D8)
   (case aj=>exact wT)
   rintro e w56 ⟨tF,rfl,ho0,hb⟩;refine ⟨_,rfl,?_⟩;have n_:=Z26;clear nL ax HB;obtain ⟨nL,pE,ax,HB⟩:=n_;(try clear hb);(try clear hb2);(try clear hk);(try clear hi);(try clear ho0);refine hK.out _ _ ⟨bc ax 0,bc ax 1,bc ax 2,bc ax 3⟩ (fun hHeld=>?_);clear hK K;refine rN (h:=?_);exact oC zG (hCont (tF,uX) _ ⟨hHeld,OY,OX,LD,qh⟩)
  rintro ⟨tF,uX⟩ w57 ⟨hS_,Ik,Il,Gi,Im⟩;have lg:aa (Kd.R Kd.string 9 w57 w.heap.size (fun k_=>some k_≠(uX:Value).ownBlock) tF Dt):=⟨Ik⟩;have ma:aa (Kd.R Kd.string 9 w57 w.heap.size (fun k_=>some k_≠(tF:Value).ownBlock) uX zM):=⟨Il⟩;have mf:aa (w57.heap[gT]?=some (.cells #[.slice iq dH.length ig,.string fA,.slice kv eZ.length jI,.slice jX fG.length jF] 28 (0,0))):=⟨Gi⟩;have mg:aa (Below w.heap.size w w57):=⟨Im⟩;clear ax;clear HB;clear Ik Il Gi Im;have pE:=lg;have nL:=ma;have ax:=mf;have HB:=mg;clear lg ma mf mg;have hHeld:w57.cell? ⟨gT,0,none⟩=some (.slice iq dH.length ig)∧w57.cell? ⟨gT,1,none⟩=some (.string fA)∧w57.cell? ⟨gT,2,none⟩=some (.slice kv eZ.length jI)∧w57.cell? ⟨gT,3,none⟩=some (.slice jX fG.length jF):=hS_;obtain ⟨arp,arq,ajE⟩:=Kd.bR nL.o;(first|subst ajE|(injection ajE with lM qz lN;have qA:=lM.symm;have qC:=lN.symm;clear lM qz lN;subst qA;subst qC));refine oC (a':=?_) ?_ ?_;rotate_left
  ·simp only[wS,Act.put,List.setIfInBounds_toArray,List.set_cons_zero,List.set_cons_succ]
   rfl
  refine rO 12 (h:=fun K hK=>?_);refine Kd.fD Kd.string (w0:=w) w.heap.size ek (.tmp 11) (.tmp 14) 24 9 (.string ⟨#[]⟩) 16 rfl Tryz.underlying24 l_ rfl au bG tF Dt zM _ _ _ (fun k_=>some k_≠(.slice arp zM.length arq:Value).ownBlock) (fun _=>False) rfl rfl ?aO ?aR (fun _ _ h=>h) (fun _ h=>h.elim) ?aF ?aB ?aS ?aL ?_
  (case aR=>exact adx)
  (case aB=>exact adv)
  (case aF=>exact adC)
  (case aO=>exact adG)
  (case aS=>exact adu)
  (case aL=>exact Xh)
  intro alX w58 ho hb hg hat;rw[←VP.o] at ho;have n_:=adN;clear ax nL HB pE;obtain ⟨ax,HB,DI⟩:=n_;clear ho hb hg hat;obtain ⟨aUP,aUQ,aIM⟩:=Kd.bR DI.o;(first|subst aIM|(injection aIM with lM qz lN;have qA:=lM.symm;have qC:=lN.symm;clear lM qz lN;subst qA;subst qC));refine hK.out _ _ ⟨bc ax 0,bc ax 1,bc ax 2,bc ax 3⟩ (fun hHeld=>?_);clear hK K;refine rN (h:=?_);refine rO 13 (h:=fun K hK=>?_);refine lY Tryz.func24 bD rfl #[.slice aUP ahE.length aUQ] ek rfl rfl ql ?_
  with_reducible refine (gX.calls ?ai ?aj A6.o).mono ?_
  (case ai=>exact adw)
  (case aj=>exact adQ)
  rintro e w' ⟨rfl,⟨nd,rfl⟩⟩;refine ⟨_,rfl,?_⟩;refine hK.out _ _ ⟨bc ax 0,bc ax 1,bc ax 2,bc ax 3⟩ (fun hHeld=>?_);clear hK K;refine rN (h:=?_);refine rP 14 (h:=?_);refine rP 15 (h:=?_);refine rP 16 (h:=?_);refine rU 17 (h:=?_);refine rU 18 (h:=?_);refine rU 19 (h:=?_);refine rU 20 (h:=?_);refine rU 21 (h:=?_);refine rP 22 (h:=?_);refine rP 23 (h:=?_);refine rU 24 (h:=?_);refine rU 25 (h:=?_);refine rU 26 (h:=?_);refine rU 27 (h:=?_);refine rU 28 (h:=?_);refine rU 29 (h:=?_);refine rU 30 (h:=?_);refine rP 31 (h:=?_);refine rP 32 (h:=?_);refine rU 33 (h:=?_);refine rU 34 (h:=?_);refine rU 35 (h:=?_);refine rU 36 (h:=?_);refine rP 37 (h:=?_);refine kT (jv HT_.o bD) ?_
  try go_wp2
  go_ret;exact ⟨fT,qh⟩
 obtain ⟨aIK,A8,H⟩:=bd H
 replace H:=iB H;obtain ⟨rfl,H⟩|⟨rfl,H⟩:=H
 ·obtain rfl:=Option.some.inj H;go_enter Tryz.func8,Tryz.ntmps8
  try go_wp2_with (first|((with_reducible refine aG (N:=1) rfl ?_);(try (refine cO ek ?_;dsimp only));refine bE 1 #[.slice iq dH.length ig,.string fA,.slice kv eZ.length jI,.slice jX fG.length jF] 28 (h:=?_);intro gT hg w43 hbox hb;have n_:=Z48;clear HB;obtain ⟨HB,ax,PW⟩:=n_;clear hb hbox hg))
  have n_:=abE;clear ax HB;obtain ⟨ax,HB⟩:=n_;refine iZ (n:=38) (S:=fun w'=>w'.cell? ⟨gT,0,none⟩=some (.slice iq dH.length ig)∧w'.cell? ⟨gT,1,none⟩=some (.string fA)∧w'.cell? ⟨gT,2,none⟩=some (.slice kv eZ.length jI)∧w'.cell? ⟨gT,3,none⟩=some (.slice jX fG.length jF)) (ds:=[]) (qM 38 0) bD rfl (by kernel_rfl) ⟨bc ax 0,bc ax 1,bc ax 2,bc ax 3⟩ (fun hHeld=>?_);refine fZ eY.Rn eY.Io (fun HT_ HW_=>?_);generalize w43.drew=w44 at ax HB hHeld ⊢;refine rP 0 (h:=?_);refine FN 1 hHeld (h:=?_);refine rP 2 (h:=?_);refine rO 3 (h:=fun K hK=>?_);refine lY Tryz.func23 bD rfl #[.int .i64 (dH.length:Int),.int .i64 1,.int .i64 4] ek rfl rfl ql ?_
  with_reducible refine (gp.calls A2.o).mono ?_
  rintro e w' ⟨rfl,⟨nd,rfl⟩⟩;refine ⟨_,rfl,?_⟩;refine hK.out _ _ ⟨bc ax 0,bc ax 1,bc ax 2,bc ax 3⟩ (fun hHeld=>?_);clear hK K;refine rN (h:=?_);refine rP 4 (h:=?_);refine rP 5 (h:=?_);refine rP 6 (h:=?_);refine rP 9 (h:=?_);refine FN 7 hHeld (h:=?_);refine FN 10 hHeld (h:=?_);refine Gh (σ:=Value × Value) 26 (qM 38 4095) (fun s_=> [(11,s_.1),(14,s_.2)]) (fun s_ w'=>(w'.cell? ⟨gT,0,none⟩=some (.slice iq dH.length ig)∧w'.cell? ⟨gT,1,none⟩=some (.string fA)∧w'.cell? ⟨gT,2,none⟩=some (.slice kv eZ.length jI)∧w'.cell? ⟨gT,3,none⟩=some (.slice jX fG.length jF))∧(Kd.R Kd.string 9 w' w.heap.size (fun k_=>some k_≠(s_.2:Value).ownBlock) s_.1 Dt)∧(Kd.R Kd.string 9 w' w.heap.size (fun k_=>some k_≠(s_.1:Value).ownBlock) s_.2 zM)∧(w'.heap[gT]?=some (.cells #[.slice iq dH.length ig,.string fA,.slice kv eZ.length jI,.slice jX fG.length jF] 28 (0,0)))∧(Below w.heap.size w w')) ?_ ?_;rotate_left
  ·intro hCont;refine Ij (i:=8) (j:=11) (Ni:=some 11) (Nj:=some 14) (qM 38 2047) (qM 38 3839) rfl rfl rfl rfl (wW HT_.o bD) au au (fun K hK=>?_) (fun K hK=>?_)
   ·skip
    refine lY Tryz.func17 bD rfl #[.slice iq dH.length ig] ek rfl rfl ql ?_
    with_reducible refine (aT.calls ?ai ?aj A4.o).mono ?_
    (case ai=>exact Z74)
    (case aj=>exact wT)
    rintro e w45 ⟨tF,rfl,ho0,hb⟩;refine ⟨_,rfl,?_⟩;have n_:=Z44;clear ax HB;obtain ⟨pE,ax,HB⟩:=n_;(try clear hb);(try clear hb2);(try clear hk);(try clear hi);(try clear ho0);refine hK.out _ _ ⟨bc ax 0,bc ax 1,bc ax 2,bc ax 3⟩ (fun hHeld=>?_);clear hK K;refine rN (h:=?_);refine rO 11 (h:=fun K hK=>?_);refine Kd.gJ Kd.string _ 9 ?hg (N:=14) ?hd (xs:=([fA]:List ByteArray)) (inner:=[.string fA]) (ok:=fun _=>True) (okp:=fun _=>True) ?hr ?hp rE trivial (Below.refl _ _) (Nat.le_refl _) gQ ?_;(case hd=>rfl);(case hg=>rfl);(case hr=>exact kz);(case hp=>exact GX);intro uX Wd acr hb hg_ hnew_;clear hg_ hnew_;(first|rw[←ww.o] at acr|(simp only[Int.reduceToNat] at acr;rw[←ww.o] at acr));have n_:=jA (Kd.gq Nq (Kd.dJ acr) hb) (jA (Kd.dC (Kd.jh acr (Kd.iY Nq)) (ah qh)) (jA (dE ax hb) (jC (ae qh hb))));clear pE ax HB;obtain ⟨pE,nL,ax,HB⟩:=n_;clear hb acr;refine hK.out _ _ ⟨bc ax 0,bc ax 1,bc ax 2,bc ax 3⟩ (fun hHeld=>?_);clear hK K;refine rN (h:=?_);exact oC zG (hCont (tF,uX) _ ⟨hHeld,OY,OX,LD,qh⟩)
   skip
   refine Kd.gJ Kd.string _ 9 ?hg (N:=14) ?hd (xs:=([fA]:List ByteArray)) (inner:=[.string fA]) (ok:=fun _=>True) (okp:=fun _=>True) ?hr ?hp rE trivial (Below.refl _ _) (Nat.le_refl _) gQ ?_;(case hd=>rfl);(case hg=>rfl);(case hr=>exact kz);(case hp=>exact GX);intro uX w45 ahG hb hg_ hnew_;clear hg_ hnew_;(first|rw[←ww.o] at ahG|(simp only[Int.reduceToNat] at ahG;rw[←ww.o] at ahG));have n_:=jA (Kd.dC ahG (ah qh)) (jA (dE ax hb) (jC (ae qh hb)));clear ax HB;obtain ⟨nL,ax,HB⟩:=n_;clear hb ahG;refine hK.out _ _ ⟨bc ax 0,bc ax 1,bc ax 2,bc ax 3⟩ (fun hHeld=>?_);clear hK K;refine rN (h:=?_);refine rO 8 (h:=fun K hK=>?_);refine lY Tryz.func17 bD rfl #[.slice iq dH.length ig] ek rfl rfl ql ?_
   with_reducible refine (aT.calls ?ai ?aj A4.o).mono ?_
   (case ai=>exact D8)
   (case aj=>exact wT)
   rintro e w47 ⟨tF,rfl,ho0,hb⟩;refine ⟨_,rfl,?_⟩;have n_:=Z26;clear nL ax HB;obtain ⟨nL,pE,ax,HB⟩:=n_;(try clear hb);(try clear hb2);(try clear hk);(try clear hi);(try clear ho0);refine hK.out _ _ ⟨bc ax 0,bc ax 1,bc ax 2,bc ax 3⟩ (fun hHeld=>?_);clear hK K;refine rN (h:=?_);exact oC zG (hCont (tF,uX) _ ⟨hHeld,OY,OX,LD,qh⟩)
  rintro ⟨tF,uX⟩ w48 ⟨hS_,Ik,Il,Gi,Im⟩;have lg:aa (Kd.R Kd.string 9 w48 w.heap.size (fun k_=>some k_≠(uX:Value).ownBlock) tF Dt):=⟨Ik⟩;have ma:aa (Kd.R Kd.string 9 w48 w.heap.size (fun k_=>some k_≠(tF:Value).ownBlock) uX zM):=⟨Il⟩;have mf:aa (w48.heap[gT]?=some (.cells #[.slice iq dH.length ig,.string fA,.slice kv eZ.length jI,.slice jX fG.length jF] 28 (0,0))):=⟨Gi⟩;have mg:aa (Below w.heap.size w w48):=⟨Im⟩;clear ax;clear HB;clear Ik Il Gi Im;have pE:=lg;have nL:=ma;have ax:=mf;have HB:=mg;clear lg ma mf mg;have hHeld:w48.cell? ⟨gT,0,none⟩=some (.slice iq dH.length ig)∧w48.cell? ⟨gT,1,none⟩=some (.string fA)∧w48.cell? ⟨gT,2,none⟩=some (.slice kv eZ.length jI)∧w48.cell? ⟨gT,3,none⟩=some (.slice jX fG.length jF):=hS_;obtain ⟨aUR,aHE,ahk⟩:=Kd.bR nL.o;(first|subst ahk|(injection ahk with lM qz lN;have qA:=lM.symm;have qC:=lN.symm;clear lM qz lN;subst qA;subst qC));refine oC (a':=?_) ?_ ?_;rotate_left
  ·simp only[wS,Act.put,List.setIfInBounds_toArray,List.set_cons_zero,List.set_cons_succ]
   rfl
  refine rO 12 (h:=fun K hK=>?_);refine Kd.fD Kd.string (w0:=w) w.heap.size ek (.tmp 11) (.tmp 14) 24 9 (.string ⟨#[]⟩) 16 rfl Tryz.underlying24 l_ rfl au bG tF Dt zM _ _ _ (fun k_=>some k_≠(.slice aUR zM.length aHE:Value).ownBlock) (fun _=>False) rfl rfl ?aO ?aR (fun _ _ h=>h) (fun _ h=>h.elim) ?aF ?aB ?aS ?aL ?_
  (case aR=>exact adx)
  (case aB=>exact adv)
  (case aF=>exact adC)
  (case aO=>exact adG)
  (case aS=>exact adu)
  (case aL=>exact Xh)
  intro alX w49 ho hb hg hat;rw[←VP.o] at ho;have n_:=adN;clear ax nL HB pE;obtain ⟨ax,HB,DI⟩:=n_;clear ho hb hg hat;obtain ⟨aBb,aBc,ajZ⟩:=Kd.bR DI.o;(first|subst ajZ|(injection ajZ with lM qz lN;have qA:=lM.symm;have qC:=lN.symm;clear lM qz lN;subst qA;subst qC));refine hK.out _ _ ⟨bc ax 0,bc ax 1,bc ax 2,bc ax 3⟩ (fun hHeld=>?_);clear hK K;refine rN (h:=?_);refine rO 13 (h:=fun K hK=>?_);refine lY Tryz.func24 bD rfl #[.slice aBb ahE.length aBc] ek rfl rfl ql ?_
  with_reducible refine (gX.calls ?ai ?aj A6.o).mono ?_
  (case ai=>exact adw)
  (case aj=>exact adQ)
  rintro e w' ⟨rfl,⟨nd,rfl⟩⟩;refine ⟨_,rfl,?_⟩;refine hK.out _ _ ⟨bc ax 0,bc ax 1,bc ax 2,bc ax 3⟩ (fun hHeld=>?_);clear hK K;refine rN (h:=?_);refine rP 14 (h:=?_);refine rP 15 (h:=?_);refine rP 16 (h:=?_);refine rP 17 (h:=?_);refine FN 18 hHeld (h:=?_);refine rP 19 (h:=?_);refine rO 20 (h:=fun K hK=>?_);refine lY Tryz.func23 bD rfl #[.int .i64 (eZ.length:Int),.int .i64 1,.int .i64 40] ek rfl rfl ql ?_
  with_reducible refine (gp.calls A8.o).mono ?_
  rintro e w' ⟨rfl,⟨nd,rfl⟩⟩;refine ⟨_,rfl,?_⟩;refine hK.out _ _ ⟨bc ax 0,bc ax 1,bc ax 2,bc ax 3⟩ (fun hHeld=>?_);clear hK K;refine rN (h:=?_);refine rP 21 (h:=?_);refine rP 22 (h:=?_);refine rP 23 (h:=?_);refine rU 24 (h:=?_);refine rU 25 (h:=?_);refine rU 26 (h:=?_);refine rU 27 (h:=?_);refine rU 28 (h:=?_);refine rU 29 (h:=?_);refine rU 30 (h:=?_);refine rP 31 (h:=?_);refine rP 32 (h:=?_);refine rU 33 (h:=?_);refine rU 34 (h:=?_);refine rU 35 (h:=?_);refine rU 36 (h:=?_);refine rP 37 (h:=?_);refine kT (jv HT_.o bD) ?_
  try go_wp2
  go_ret;exact ⟨fT,qh⟩
 replace H:=iE H;obtain ⟨vC,P8,c10,H⟩|⟨vC,P8,c10,H⟩:=H
 ·have aIN:(fG.length==eZ.length)=false:=by first|simpa using c10|(simp at c10 ⊢;omega)
  obtain rfl:=Option.some.inj H;go_enter Tryz.func8,Tryz.ntmps8
  try go_wp2_with (first|((with_reducible refine aG (N:=1) rfl ?_);(try (refine cO ek ?_;dsimp only));refine bE 1 #[.slice iq dH.length ig,.string fA,.slice kv eZ.length jI,.slice jX fG.length jF] 28 (h:=?_);intro gT hg w34 hbox hb;have n_:=Z48;clear HB;obtain ⟨HB,ax,PW⟩:=n_;clear hb hbox hg))
  have n_:=abE;clear ax HB;obtain ⟨ax,HB⟩:=n_;refine iZ (n:=38) (S:=fun w'=>w'.cell? ⟨gT,0,none⟩=some (.slice iq dH.length ig)∧w'.cell? ⟨gT,1,none⟩=some (.string fA)∧w'.cell? ⟨gT,2,none⟩=some (.slice kv eZ.length jI)∧w'.cell? ⟨gT,3,none⟩=some (.slice jX fG.length jF)) (ds:=[]) (qM 38 0) bD rfl (by kernel_rfl) ⟨bc ax 0,bc ax 1,bc ax 2,bc ax 3⟩ (fun hHeld=>?_);refine fZ eY.Rn eY.Io (fun HT_ HW_=>?_);generalize w34.drew=w35 at ax HB hHeld ⊢;refine rP 0 (h:=?_);refine FN 1 hHeld (h:=?_);refine rP 2 (h:=?_);refine rO 3 (h:=fun K hK=>?_);refine lY Tryz.func23 bD rfl #[.int .i64 (dH.length:Int),.int .i64 1,.int .i64 4] ek rfl rfl ql ?_
  with_reducible refine (gp.calls A2.o).mono ?_
  rintro e w' ⟨rfl,⟨nd,rfl⟩⟩;refine ⟨_,rfl,?_⟩;refine hK.out _ _ ⟨bc ax 0,bc ax 1,bc ax 2,bc ax 3⟩ (fun hHeld=>?_);clear hK K;refine rN (h:=?_);refine rP 4 (h:=?_);refine rP 5 (h:=?_);refine rP 6 (h:=?_);refine rP 9 (h:=?_);refine FN 7 hHeld (h:=?_);refine FN 10 hHeld (h:=?_);refine Gh (σ:=Value × Value) 26 (qM 38 4095) (fun s_=> [(11,s_.1),(14,s_.2)]) (fun s_ w'=>(w'.cell? ⟨gT,0,none⟩=some (.slice iq dH.length ig)∧w'.cell? ⟨gT,1,none⟩=some (.string fA)∧w'.cell? ⟨gT,2,none⟩=some (.slice kv eZ.length jI)∧w'.cell? ⟨gT,3,none⟩=some (.slice jX fG.length jF))∧(Kd.R Kd.string 9 w' w.heap.size (fun k_=>some k_≠(s_.2:Value).ownBlock) s_.1 Dt)∧(Kd.R Kd.string 9 w' w.heap.size (fun k_=>some k_≠(s_.1:Value).ownBlock) s_.2 zM)∧(w'.heap[gT]?=some (.cells #[.slice iq dH.length ig,.string fA,.slice kv eZ.length jI,.slice jX fG.length jF] 28 (0,0)))∧(Below w.heap.size w w')) ?_ ?_;rotate_left
  ·intro hCont;refine Ij (i:=8) (j:=11) (Ni:=some 11) (Nj:=some 14) (qM 38 2047) (qM 38 3839) rfl rfl rfl rfl (wW HT_.o bD) au au (fun K hK=>?_) (fun K hK=>?_)
   ·skip
    refine lY Tryz.func17 bD rfl #[.slice iq dH.length ig] ek rfl rfl ql ?_
    with_reducible refine (aT.calls ?ai ?aj A4.o).mono ?_
    (case ai=>exact Z74)
    (case aj=>exact wT)
    rintro e w36 ⟨tF,rfl,ho0,hb⟩;refine ⟨_,rfl,?_⟩;have n_:=Z44;clear ax HB;obtain ⟨pE,ax,HB⟩:=n_;(try clear hb);(try clear hb2);(try clear hk);(try clear hi);(try clear ho0);refine hK.out _ _ ⟨bc ax 0,bc ax 1,bc ax 2,bc ax 3⟩ (fun hHeld=>?_);clear hK K;refine rN (h:=?_);refine rO 11 (h:=fun K hK=>?_);refine Kd.gJ Kd.string _ 9 ?hg (N:=14) ?hd (xs:=([fA]:List ByteArray)) (inner:=[.string fA]) (ok:=fun _=>True) (okp:=fun _=>True) ?hr ?hp rE trivial (Below.refl _ _) (Nat.le_refl _) gQ ?_;(case hd=>rfl);(case hg=>rfl);(case hr=>exact kz);(case hp=>exact GX);intro uX w37 acs hb hg_ hnew_;clear hg_ hnew_;(first|rw[←ww.o] at acs|(simp only[Int.reduceToNat] at acs;rw[←ww.o] at acs));have n_:=jA (Kd.gq Nq (Kd.dJ acs) hb) (jA (Kd.dC (Kd.jh acs (Kd.iY Nq)) (ah qh)) (jA (dE ax hb) (jC (ae qh hb))));clear pE ax HB;obtain ⟨pE,nL,ax,HB⟩:=n_;clear hb acs;refine hK.out _ _ ⟨bc ax 0,bc ax 1,bc ax 2,bc ax 3⟩ (fun hHeld=>?_);clear hK K;refine rN (h:=?_);exact oC zG (hCont (tF,uX) _ ⟨hHeld,OY,OX,LD,qh⟩)
   skip
   refine Kd.gJ Kd.string _ 9 ?hg (N:=14) ?hd (xs:=([fA]:List ByteArray)) (inner:=[.string fA]) (ok:=fun _=>True) (okp:=fun _=>True) ?hr ?hp rE trivial (Below.refl _ _) (Nat.le_refl _) gQ ?_;(case hd=>rfl);(case hg=>rfl);(case hr=>exact kz);(case hp=>exact GX);intro uX w36 LW hb hg_ hnew_;clear hg_ hnew_;(first|rw[←ww.o] at LW|(simp only[Int.reduceToNat] at LW;rw[←ww.o] at LW));have n_:=jA (Kd.dC LW (ah qh)) (jA (dE ax hb) (jC (ae qh hb)));clear ax HB;obtain ⟨nL,ax,HB⟩:=n_;clear hb LW;refine hK.out _ _ ⟨bc ax 0,bc ax 1,bc ax 2,bc ax 3⟩ (fun hHeld=>?_);clear hK K;refine rN (h:=?_);refine rO 8 (h:=fun K hK=>?_);refine lY Tryz.func17 bD rfl #[.slice iq dH.length ig] ek rfl rfl ql ?_
   with_reducible refine (aT.calls ?ai ?aj A4.o).mono ?_
   (case ai=>exact D8)
   (case aj=>exact wT)
   rintro e S_ ⟨tF,rfl,ho0,hb⟩;refine ⟨_,rfl,?_⟩;have n_:=Z26;clear nL ax HB;obtain ⟨nL,pE,ax,HB⟩:=n_;(try clear hb);(try clear hb2);(try clear hk);(try clear hi);(try clear ho0);refine hK.out _ _ ⟨bc ax 0,bc ax 1,bc ax 2,bc ax 3⟩ (fun hHeld=>?_);clear hK K;refine rN (h:=?_);exact oC zG (hCont (tF,uX) _ ⟨hHeld,OY,OX,LD,qh⟩)
  rintro ⟨tF,uX⟩ w39 ⟨hS_,Ik,Il,Gi,Im⟩;have lg:aa (Kd.R Kd.string 9 w39 w.heap.size (fun k_=>some k_≠(uX:Value).ownBlock) tF Dt):=⟨Ik⟩;have ma:aa (Kd.R Kd.string 9 w39 w.heap.size (fun k_=>some k_≠(tF:Value).ownBlock) uX zM):=⟨Il⟩;have mf:aa (w39.heap[gT]?=some (.cells #[.slice iq dH.length ig,.string fA,.slice kv eZ.length jI,.slice jX fG.length jF] 28 (0,0))):=⟨Gi⟩;have mg:aa (Below w.heap.size w w39):=⟨Im⟩;clear ax;clear HB;clear Ik Il Gi Im;have pE:=lg;have nL:=ma;have ax:=mf;have HB:=mg;clear lg ma mf mg;have hHeld:w39.cell? ⟨gT,0,none⟩=some (.slice iq dH.length ig)∧w39.cell? ⟨gT,1,none⟩=some (.string fA)∧w39.cell? ⟨gT,2,none⟩=some (.slice kv eZ.length jI)∧w39.cell? ⟨gT,3,none⟩=some (.slice jX fG.length jF):=hS_;obtain ⟨Vn,Vo,RP⟩:=Kd.bR nL.o;(first|subst RP|(injection RP with lM qz lN;have qA:=lM.symm;have qC:=lN.symm;clear lM qz lN;subst qA;subst qC));refine oC (a':=?_) ?_ ?_;rotate_left
  ·simp only[wS,Act.put,List.setIfInBounds_toArray,List.set_cons_zero,List.set_cons_succ]
   rfl
  refine rO 12 (h:=fun K hK=>?_);refine Kd.fD Kd.string (w0:=w) w.heap.size ek (.tmp 11) (.tmp 14) 24 9 (.string ⟨#[]⟩) 16 rfl Tryz.underlying24 l_ rfl au bG tF Dt zM _ _ _ (fun k_=>some k_≠(.slice Vn zM.length Vo:Value).ownBlock) (fun _=>False) rfl rfl ?aO ?aR (fun _ _ h=>h) (fun _ h=>h.elim) ?aF ?aB ?aS ?aL ?_
  (case aR=>exact adx)
  (case aB=>exact adv)
  (case aF=>exact adC)
  (case aO=>exact adG)
  (case aS=>exact adu)
  (case aL=>exact Xh)
  intro alX w40 ho hb hg hat;rw[←VP.o] at ho;have n_:=adN;clear ax nL HB pE;obtain ⟨ax,HB,DI⟩:=n_;clear ho hb hg hat;obtain ⟨atf,atg,akM⟩:=Kd.bR DI.o;(first|subst akM|(injection akM with lM qz lN;have qA:=lM.symm;have qC:=lN.symm;clear lM qz lN;subst qA;subst qC));refine hK.out _ _ ⟨bc ax 0,bc ax 1,bc ax 2,bc ax 3⟩ (fun hHeld=>?_);clear hK K;refine rN (h:=?_);refine rO 13 (h:=fun K hK=>?_);refine lY Tryz.func24 bD rfl #[.slice atf ahE.length atg] ek rfl rfl ql ?_
  with_reducible refine (gX.calls ?ai ?aj A6.o).mono ?_
  (case ai=>exact adw)
  (case aj=>exact adQ)
  rintro e w' ⟨rfl,⟨nd,rfl⟩⟩;refine ⟨_,rfl,?_⟩;refine hK.out _ _ ⟨bc ax 0,bc ax 1,bc ax 2,bc ax 3⟩ (fun hHeld=>?_);clear hK K;refine rN (h:=?_);refine rP 14 (h:=?_);refine rP 15 (h:=?_);refine rP 16 (h:=?_);refine rP 17 (h:=?_);refine FN 18 hHeld (h:=?_);refine rP 19 (h:=?_);refine rO 20 (h:=fun K hK=>?_);refine lY Tryz.func23 bD rfl #[.int .i64 (eZ.length:Int),.int .i64 1,.int .i64 40] ek rfl rfl ql ?_
  with_reducible refine (gp.calls A8.o).mono ?_
  rintro e w' ⟨rfl,⟨nd,rfl⟩⟩;refine ⟨_,rfl,?_⟩;refine hK.out _ _ ⟨bc ax 0,bc ax 1,bc ax 2,bc ax 3⟩ (fun hHeld=>?_);clear hK K;refine rN (h:=?_);refine rP 21 (h:=?_);refine rP 22 (h:=?_);refine rP 23 (h:=?_);refine rP 24 (h:=?_);refine rP 27 (h:=?_);refine FN 25 hHeld (h:=?_);refine rP 26 (h:=?_);refine FN 28 hHeld (h:=?_);refine rP 29 (h:=?_);refine rP 30 (h:=?_);refine rP 31 (h:=?_);refine rP 32 (h:=?_);refine rU 33 (h:=?_);refine rU 34 (h:=?_);refine rU 35 (h:=?_);refine rU 36 (h:=?_);refine rP 37 (h:=?_);refine kT (jv HT_.o bD) ?_
  try go_wp2
  go_ret;exact ⟨fT,qh⟩
 have aIN:(fG.length==eZ.length)=true:=by first|simpa using c10|(simp at c10 ⊢;omega)
 clear c10;obtain ⟨aIL,Q6,H⟩:=bd H
 replace H:=iB H;obtain ⟨rfl,H⟩|⟨rfl,H⟩:=H
 ·obtain rfl:=Option.some.inj H;go_enter Tryz.func8,Tryz.ntmps8
  try go_wp2_with (first|((with_reducible refine aG (N:=1) rfl ?_);(try (refine cO ek ?_;dsimp only));refine bE 1 #[.slice iq dH.length ig,.string fA,.slice kv eZ.length jI,.slice jX fG.length jF] 28 (h:=?_);intro gT hg V9 hbox hb;have n_:=Z48;clear HB;obtain ⟨HB,ax,PW⟩:=n_;clear hb hbox hg))
  have n_:=abE;clear ax HB;obtain ⟨ax,HB⟩:=n_;refine iZ (n:=38) (S:=fun w'=>w'.cell? ⟨gT,0,none⟩=some (.slice iq dH.length ig)∧w'.cell? ⟨gT,1,none⟩=some (.string fA)∧w'.cell? ⟨gT,2,none⟩=some (.slice kv eZ.length jI)∧w'.cell? ⟨gT,3,none⟩=some (.slice jX fG.length jF)) (ds:=[]) (qM 38 0) bD rfl (by kernel_rfl) ⟨bc ax 0,bc ax 1,bc ax 2,bc ax 3⟩ (fun hHeld=>?_);refine fZ eY.Rn eY.Io (fun HT_ HW_=>?_);generalize V9.drew=w26 at ax HB hHeld ⊢;refine rP 0 (h:=?_);refine FN 1 hHeld (h:=?_);refine rP 2 (h:=?_);refine rO 3 (h:=fun K hK=>?_);refine lY Tryz.func23 bD rfl #[.int .i64 (dH.length:Int),.int .i64 1,.int .i64 4] ek rfl rfl ql ?_
  with_reducible refine (gp.calls A2.o).mono ?_
  rintro e w' ⟨rfl,⟨nd,rfl⟩⟩;refine ⟨_,rfl,?_⟩;refine hK.out _ _ ⟨bc ax 0,bc ax 1,bc ax 2,bc ax 3⟩ (fun hHeld=>?_);clear hK K;refine rN (h:=?_);refine rP 4 (h:=?_);refine rP 5 (h:=?_);refine rP 6 (h:=?_);refine rP 9 (h:=?_);refine FN 7 hHeld (h:=?_);refine FN 10 hHeld (h:=?_);refine Gh (σ:=Value × Value) 26 (qM 38 4095) (fun s_=> [(11,s_.1),(14,s_.2)]) (fun s_ w'=>(w'.cell? ⟨gT,0,none⟩=some (.slice iq dH.length ig)∧w'.cell? ⟨gT,1,none⟩=some (.string fA)∧w'.cell? ⟨gT,2,none⟩=some (.slice kv eZ.length jI)∧w'.cell? ⟨gT,3,none⟩=some (.slice jX fG.length jF))∧(Kd.R Kd.string 9 w' w.heap.size (fun k_=>some k_≠(s_.2:Value).ownBlock) s_.1 Dt)∧(Kd.R Kd.string 9 w' w.heap.size (fun k_=>some k_≠(s_.1:Value).ownBlock) s_.2 zM)∧(w'.heap[gT]?=some (.cells #[.slice iq dH.length ig,.string fA,.slice kv eZ.length jI,.slice jX fG.length jF] 28 (0,0)))∧(Below w.heap.size w w')) ?_ ?_;rotate_left
  ·intro hCont;refine Ij (i:=8) (j:=11) (Ni:=some 11) (Nj:=some 14) (qM 38 2047) (qM 38 3839) rfl rfl rfl rfl (wW HT_.o bD) au au (fun K hK=>?_) (fun K hK=>?_)
   ·skip
    refine lY Tryz.func17 bD rfl #[.slice iq dH.length ig] ek rfl rfl ql ?_
    with_reducible refine (aT.calls ?ai ?aj A4.o).mono ?_
    (case ai=>exact Z74)
    (case aj=>exact wT)
    rintro e w27 ⟨tF,rfl,ho0,hb⟩;refine ⟨_,rfl,?_⟩;have n_:=Z44;clear ax HB;obtain ⟨pE,ax,HB⟩:=n_;(try clear hb);(try clear hb2);(try clear hk);(try clear hi);(try clear ho0);refine hK.out _ _ ⟨bc ax 0,bc ax 1,bc ax 2,bc ax 3⟩ (fun hHeld=>?_);clear hK K;refine rN (h:=?_);refine rO 11 (h:=fun K hK=>?_);refine Kd.gJ Kd.string _ 9 ?hg (N:=14) ?hd (xs:=([fA]:List ByteArray)) (inner:=[.string fA]) (ok:=fun _=>True) (okp:=fun _=>True) ?hr ?hp rE trivial (Below.refl _ _) (Nat.le_refl _) gQ ?_;(case hd=>rfl);(case hg=>rfl);(case hr=>exact kz);(case hp=>exact GX);intro uX w28 acu hb hg_ hnew_;clear hg_ hnew_;(first|rw[←ww.o] at acu|(simp only[Int.reduceToNat] at acu;rw[←ww.o] at acu));have n_:=jA (Kd.gq Nq (Kd.dJ acu) hb) (jA (Kd.dC (Kd.jh acu (Kd.iY Nq)) (ah qh)) (jA (dE ax hb) (jC (ae qh hb))));clear pE ax HB;obtain ⟨pE,nL,ax,HB⟩:=n_;clear hb acu;refine hK.out _ _ ⟨bc ax 0,bc ax 1,bc ax 2,bc ax 3⟩ (fun hHeld=>?_);clear hK K;refine rN (h:=?_);exact oC zG (hCont (tF,uX) _ ⟨hHeld,OY,OX,LD,qh⟩)
   skip
   refine Kd.gJ Kd.string _ 9 ?hg (N:=14) ?hd (xs:=([fA]:List ByteArray)) (inner:=[.string fA]) (ok:=fun _=>True) (okp:=fun _=>True) ?hr ?hp rE trivial (Below.refl _ _) (Nat.le_refl _) gQ ?_;(case hd=>rfl);(case hg=>rfl);(case hr=>exact kz);(case hp=>exact GX);intro uX w27 ahH hb hg_ hnew_;clear hg_ hnew_;(first|rw[←ww.o] at ahH|(simp only[Int.reduceToNat] at ahH;rw[←ww.o] at ahH));have n_:=jA (Kd.dC ahH (ah qh)) (jA (dE ax hb) (jC (ae qh hb)));clear ax HB;obtain ⟨nL,ax,HB⟩:=n_;clear hb ahH;refine hK.out _ _ ⟨bc ax 0,bc ax 1,bc ax 2,bc ax 3⟩ (fun hHeld=>?_);clear hK K;refine rN (h:=?_);refine rO 8 (h:=fun K hK=>?_);refine lY Tryz.func17 bD rfl #[.slice iq dH.length ig] ek rfl rfl ql ?_
   with_reducible refine (aT.calls ?ai ?aj A4.o).mono ?_
   (case ai=>exact D8)
   (case aj=>exact wT)
   rintro e w29 ⟨tF,rfl,ho0,hb⟩;refine ⟨_,rfl,?_⟩;have n_:=Z26;clear nL ax HB;obtain ⟨nL,pE,ax,HB⟩:=n_;(try clear hb);(try clear hb2);(try clear hk);(try clear hi);(try clear ho0);refine hK.out _ _ ⟨bc ax 0,bc ax 1,bc ax 2,bc ax 3⟩ (fun hHeld=>?_);clear hK K;refine rN (h:=?_);exact oC zG (hCont (tF,uX) _ ⟨hHeld,OY,OX,LD,qh⟩)
  rintro ⟨tF,uX⟩ w30 ⟨hS_,Ik,Il,Gi,Im⟩;have lg:aa (Kd.R Kd.string 9 w30 w.heap.size (fun k_=>some k_≠(uX:Value).ownBlock) tF Dt):=⟨Ik⟩;have ma:aa (Kd.R Kd.string 9 w30 w.heap.size (fun k_=>some k_≠(tF:Value).ownBlock) uX zM):=⟨Il⟩;have mf:aa (w30.heap[gT]?=some (.cells #[.slice iq dH.length ig,.string fA,.slice kv eZ.length jI,.slice jX fG.length jF] 28 (0,0))):=⟨Gi⟩;have mg:aa (Below w.heap.size w w30):=⟨Im⟩;clear ax;clear HB;clear Ik Il Gi Im;have pE:=lg;have nL:=ma;have ax:=mf;have HB:=mg;clear lg ma mf mg;have hHeld:w30.cell? ⟨gT,0,none⟩=some (.slice iq dH.length ig)∧w30.cell? ⟨gT,1,none⟩=some (.string fA)∧w30.cell? ⟨gT,2,none⟩=some (.slice kv eZ.length jI)∧w30.cell? ⟨gT,3,none⟩=some (.slice jX fG.length jF):=hS_;obtain ⟨aEi,aEj,akL⟩:=Kd.bR nL.o;(first|subst akL|(injection akL with lM qz lN;have qA:=lM.symm;have qC:=lN.symm;clear lM qz lN;subst qA;subst qC));refine oC (a':=?_) ?_ ?_;rotate_left
  ·simp only[wS,Act.put,List.setIfInBounds_toArray,List.set_cons_zero,List.set_cons_succ]
   rfl
  refine rO 12 (h:=fun K hK=>?_);refine Kd.fD Kd.string (w0:=w) w.heap.size ek (.tmp 11) (.tmp 14) 24 9 (.string ⟨#[]⟩) 16 rfl Tryz.underlying24 l_ rfl au bG tF Dt zM _ _ _ (fun k_=>some k_≠(.slice aEi zM.length aEj:Value).ownBlock) (fun _=>False) rfl rfl ?aO ?aR (fun _ _ h=>h) (fun _ h=>h.elim) ?aF ?aB ?aS ?aL ?_
  (case aR=>exact adx)
  (case aB=>exact adv)
  (case aF=>exact adC)
  (case aO=>exact adG)
  (case aS=>exact adu)
  (case aL=>exact Xh)
  intro alX w31 ho hb hg hat;rw[←VP.o] at ho;have n_:=adN;clear ax nL HB pE;obtain ⟨ax,HB,DI⟩:=n_;clear ho hb hg hat;obtain ⟨aj7,aj8,ab9⟩:=Kd.bR DI.o;(first|subst ab9|(injection ab9 with lM qz lN;have qA:=lM.symm;have qC:=lN.symm;clear lM qz lN;subst qA;subst qC));refine hK.out _ _ ⟨bc ax 0,bc ax 1,bc ax 2,bc ax 3⟩ (fun hHeld=>?_);clear hK K;refine rN (h:=?_);refine rO 13 (h:=fun K hK=>?_);refine lY Tryz.func24 bD rfl #[.slice aj7 ahE.length aj8] ek rfl rfl ql ?_
  with_reducible refine (gX.calls ?ai ?aj A6.o).mono ?_
  (case ai=>exact adw)
  (case aj=>exact adQ)
  rintro e w' ⟨rfl,⟨nd,rfl⟩⟩;refine ⟨_,rfl,?_⟩;refine hK.out _ _ ⟨bc ax 0,bc ax 1,bc ax 2,bc ax 3⟩ (fun hHeld=>?_);clear hK K;refine rN (h:=?_);refine rP 14 (h:=?_);refine rP 15 (h:=?_);refine rP 16 (h:=?_);refine rP 17 (h:=?_);refine FN 18 hHeld (h:=?_);refine rP 19 (h:=?_);refine rO 20 (h:=fun K hK=>?_);refine lY Tryz.func23 bD rfl #[.int .i64 (eZ.length:Int),.int .i64 1,.int .i64 40] ek rfl rfl ql ?_
  with_reducible refine (gp.calls A8.o).mono ?_
  rintro e w' ⟨rfl,⟨nd,rfl⟩⟩;refine ⟨_,rfl,?_⟩;refine hK.out _ _ ⟨bc ax 0,bc ax 1,bc ax 2,bc ax 3⟩ (fun hHeld=>?_);clear hK K;refine rN (h:=?_);refine rP 21 (h:=?_);refine rP 22 (h:=?_);refine rP 23 (h:=?_);refine rP 24 (h:=?_);refine rP 27 (h:=?_);refine FN 25 hHeld (h:=?_);refine rP 26 (h:=?_);refine FN 28 hHeld (h:=?_);refine rP 29 (h:=?_);refine rP 30 (h:=?_);refine rP 31 (h:=?_);refine rP 32 (h:=?_);refine rP 33 (h:=?_);refine FN 34 hHeld (h:=?_);refine rO 35 (h:=fun K hK=>?_);refine lY Tryz.func25 bD rfl #[.slice jX fG.length jF] ek rfl rfl ql ?_
  with_reducible refine (jV.calls ?ai ?aj Q6.o).mono ?_
  (case ai=>exact Z75)
  (case aj=>exact Cf.o)
  rintro e w' ⟨rfl,⟨nd,rfl⟩⟩;refine ⟨_,rfl,?_⟩;refine hK.out _ _ ⟨bc ax 0,bc ax 1,bc ax 2,bc ax 3⟩ (fun hHeld=>?_);clear hK K;refine rN (h:=?_);refine rP 36 (h:=?_);refine rP 37 (h:=?_);refine kT (jv HT_.o bD) ?_
  try go_wp2
  go_ret;exact ⟨fT,qh⟩
 obtain ⟨alW,A13,H⟩:=bd H;obtain rfl:=Option.some.inj H;go_enter Tryz.func8,Tryz.ntmps8
 try go_wp2_with (first|((with_reducible refine aG (N:=1) rfl ?_);(try (refine cO ek ?_;dsimp only));refine bE 1 #[.slice iq dH.length ig,.string fA,.slice kv eZ.length jI,.slice jX fG.length jF] 28 (h:=?_);intro gT hg Xi hbox hb;have n_:=Z48;clear HB;obtain ⟨HB,ax,PW⟩:=n_;clear hb hbox hg))
 have n_:=abE;clear ax HB;obtain ⟨ax,HB⟩:=n_;refine iZ (n:=38) (S:=fun w'=>w'.cell? ⟨gT,0,none⟩=some (.slice iq dH.length ig)∧w'.cell? ⟨gT,1,none⟩=some (.string fA)∧w'.cell? ⟨gT,2,none⟩=some (.slice kv eZ.length jI)∧w'.cell? ⟨gT,3,none⟩=some (.slice jX fG.length jF)) (ds:=[]) (qM 38 0) bD rfl (by kernel_rfl) ⟨bc ax 0,bc ax 1,bc ax 2,bc ax 3⟩ (fun hHeld=>?_);refine fZ eY.Rn eY.Io (fun HT_ HW_=>?_);generalize Xi.drew=Zf at ax HB hHeld ⊢;refine rP 0 (h:=?_);refine FN 1 hHeld (h:=?_);refine rP 2 (h:=?_);refine rO 3 (h:=fun K hK=>?_);refine lY Tryz.func23 bD rfl #[.int .i64 (dH.length:Int),.int .i64 1,.int .i64 4] ek rfl rfl ql ?_
 with_reducible refine (gp.calls A2.o).mono ?_
 rintro e w' ⟨rfl,⟨nd,rfl⟩⟩;refine ⟨_,rfl,?_⟩;refine hK.out _ _ ⟨bc ax 0,bc ax 1,bc ax 2,bc ax 3⟩ (fun hHeld=>?_);clear hK K;refine rN (h:=?_);refine rP 4 (h:=?_);refine rP 5 (h:=?_);refine rP 6 (h:=?_);refine rP 9 (h:=?_);refine FN 7 hHeld (h:=?_);refine FN 10 hHeld (h:=?_);refine Gh (σ:=Value × Value) 26 (qM 38 4095) (fun s_=> [(11,s_.1),(14,s_.2)]) (fun s_ w'=>(w'.cell? ⟨gT,0,none⟩=some (.slice iq dH.length ig)∧w'.cell? ⟨gT,1,none⟩=some (.string fA)∧w'.cell? ⟨gT,2,none⟩=some (.slice kv eZ.length jI)∧w'.cell? ⟨gT,3,none⟩=some (.slice jX fG.length jF))∧(Kd.R Kd.string 9 w' w.heap.size (fun k_=>some k_≠(s_.2:Value).ownBlock) s_.1 Dt)∧(Kd.R Kd.string 9 w' w.heap.size (fun k_=>some k_≠(s_.1:Value).ownBlock) s_.2 zM)∧(w'.heap[gT]?=some (.cells #[.slice iq dH.length ig,.string fA,.slice kv eZ.length jI,.slice jX fG.length jF] 28 (0,0)))∧(Below w.heap.size w w')) ?_ ?_;rotate_left
 ·intro hCont;refine Ij (i:=8) (j:=11) (Ni:=some 11) (Nj:=some 14) (qM 38 2047) (qM 38 3839) rfl rfl rfl rfl (wW HT_.o bD) au au (fun K hK=>?_) (fun K hK=>?_)
  ·skip
   refine lY Tryz.func17 bD rfl #[.slice iq dH.length ig] ek rfl rfl ql ?_
   with_reducible refine (aT.calls ?ai ?aj A4.o).mono ?_
   (case ai=>exact Z74)
   (case aj=>exact wT)
   rintro e w16 ⟨tF,rfl,ho0,hb⟩;refine ⟨_,rfl,?_⟩;have n_:=Z44;clear ax HB;obtain ⟨pE,ax,HB⟩:=n_;(try clear hb);(try clear hb2);(try clear hk);(try clear hi);(try clear ho0);refine hK.out _ _ ⟨bc ax 0,bc ax 1,bc ax 2,bc ax 3⟩ (fun hHeld=>?_);clear hK K;refine rN (h:=?_);refine rO 11 (h:=fun K hK=>?_);refine Kd.gJ Kd.string _ 9 ?hg (N:=14) ?hd (xs:=([fA]:List ByteArray)) (inner:=[.string fA]) (ok:=fun _=>True) (okp:=fun _=>True) ?hr ?hp rE trivial (Below.refl _ _) (Nat.le_refl _) gQ ?_;(case hd=>rfl);(case hg=>rfl);(case hr=>exact kz);(case hp=>exact GX);intro uX w17 LX hb hg_ hnew_;clear hg_ hnew_;(first|rw[←ww.o] at LX|(simp only[Int.reduceToNat] at LX;rw[←ww.o] at LX));have n_:=jA (Kd.gq Nq (Kd.dJ LX) hb) (jA (Kd.dC (Kd.jh LX (Kd.iY Nq)) (ah qh)) (jA (dE ax hb) (jC (ae qh hb))));clear pE ax HB;obtain ⟨pE,nL,ax,HB⟩:=n_;clear hb LX;refine hK.out _ _ ⟨bc ax 0,bc ax 1,bc ax 2,bc ax 3⟩ (fun hHeld=>?_);clear hK K;refine rN (h:=?_);exact oC zG (hCont (tF,uX) _ ⟨hHeld,OY,OX,LD,qh⟩)
  skip
  refine Kd.gJ Kd.string _ 9 ?hg (N:=14) ?hd (xs:=([fA]:List ByteArray)) (inner:=[.string fA]) (ok:=fun _=>True) (okp:=fun _=>True) ?hr ?hp rE trivial (Below.refl _ _) (Nat.le_refl _) gQ ?_;(case hd=>rfl);(case hg=>rfl);(case hr=>exact kz);(case hp=>exact GX);intro uX w16 NQ hb hg_ hnew_;clear hg_ hnew_;(first|rw[←ww.o] at NQ|(simp only[Int.reduceToNat] at NQ;rw[←ww.o] at NQ));have n_:=jA (Kd.dC NQ (ah qh)) (jA (dE ax hb) (jC (ae qh hb)));clear ax HB;obtain ⟨nL,ax,HB⟩:=n_;clear hb NQ;refine hK.out _ _ ⟨bc ax 0,bc ax 1,bc ax 2,bc ax 3⟩ (fun hHeld=>?_);clear hK K;refine rN (h:=?_);refine rO 8 (h:=fun K hK=>?_);refine lY Tryz.func17 bD rfl #[.slice iq dH.length ig] ek rfl rfl ql ?_
  with_reducible refine (aT.calls ?ai ?aj A4.o).mono ?_
  (case ai=>exact D8)
  (case aj=>exact wT)
  rintro e w18 ⟨tF,rfl,ho0,hb⟩;refine ⟨_,rfl,?_⟩;have n_:=Z26;clear nL ax HB;obtain ⟨nL,pE,ax,HB⟩:=n_;(try clear hb);(try clear hb2);(try clear hk);(try clear hi);(try clear ho0);refine hK.out _ _ ⟨bc ax 0,bc ax 1,bc ax 2,bc ax 3⟩ (fun hHeld=>?_);clear hK K;refine rN (h:=?_);exact oC zG (hCont (tF,uX) _ ⟨hHeld,OY,OX,LD,qh⟩)
 rintro ⟨tF,uX⟩ Zc ⟨hS_,Ik,Il,Gi,Im⟩;have lg:aa (Kd.R Kd.string 9 Zc w.heap.size (fun k_=>some k_≠(uX:Value).ownBlock) tF Dt):=⟨Ik⟩;have ma:aa (Kd.R Kd.string 9 Zc w.heap.size (fun k_=>some k_≠(tF:Value).ownBlock) uX zM):=⟨Il⟩;have mf:aa (Zc.heap[gT]?=some (.cells #[.slice iq dH.length ig,.string fA,.slice kv eZ.length jI,.slice jX fG.length jF] 28 (0,0))):=⟨Gi⟩;have mg:aa (Below w.heap.size w Zc):=⟨Im⟩;clear ax;clear HB;clear Ik Il Gi Im;have pE:=lg;have nL:=ma;have ax:=mf;have HB:=mg;clear lg ma mf mg;have hHeld:Zc.cell? ⟨gT,0,none⟩=some (.slice iq dH.length ig)∧Zc.cell? ⟨gT,1,none⟩=some (.string fA)∧Zc.cell? ⟨gT,2,none⟩=some (.slice kv eZ.length jI)∧Zc.cell? ⟨gT,3,none⟩=some (.slice jX fG.length jF):=hS_;obtain ⟨aEg,aEh,akK⟩:=Kd.bR nL.o;(first|subst akK|(injection akK with lM qz lN;have qA:=lM.symm;have qC:=lN.symm;clear lM qz lN;subst qA;subst qC));refine oC (a':=?_) ?_ ?_;rotate_left
 ·simp only[wS,Act.put,List.setIfInBounds_toArray,List.set_cons_zero,List.set_cons_succ]
  rfl
 refine rO 12 (h:=fun K hK=>?_);refine Kd.fD Kd.string (w0:=w) w.heap.size ek (.tmp 11) (.tmp 14) 24 9 (.string ⟨#[]⟩) 16 rfl Tryz.underlying24 l_ rfl au bG tF Dt zM _ _ _ (fun k_=>some k_≠(.slice aEg zM.length aEh:Value).ownBlock) (fun _=>False) rfl rfl ?aO ?aR (fun _ _ h=>h) (fun _ h=>h.elim) ?aF ?aB ?aS ?aL ?_
 (case aR=>exact adx)
 (case aB=>exact adv)
 (case aF=>exact adC)
 (case aO=>exact adG)
 (case aS=>exact adu)
 (case aL=>exact Xh)
 intro alX w20 ho hb hg hat;rw[←VP.o] at ho;have n_:=adN;clear ax nL HB pE;obtain ⟨ax,HB,DI⟩:=n_;clear ho hb hg hat;obtain ⟨ajO,ajP,abW⟩:=Kd.bR DI.o;(first|subst abW|(injection abW with lM qz lN;have qA:=lM.symm;have qC:=lN.symm;clear lM qz lN;subst qA;subst qC));refine hK.out _ _ ⟨bc ax 0,bc ax 1,bc ax 2,bc ax 3⟩ (fun hHeld=>?_);clear hK K;refine rN (h:=?_);refine rO 13 (h:=fun K hK=>?_);refine lY Tryz.func24 bD rfl #[.slice ajO ahE.length ajP] ek rfl rfl ql ?_
 with_reducible refine (gX.calls ?ai ?aj A6.o).mono ?_
 (case ai=>exact adw)
 (case aj=>exact adQ)
 rintro e w' ⟨rfl,⟨nd,rfl⟩⟩;refine ⟨_,rfl,?_⟩;refine hK.out _ _ ⟨bc ax 0,bc ax 1,bc ax 2,bc ax 3⟩ (fun hHeld=>?_);clear hK K;refine rN (h:=?_);refine rP 14 (h:=?_);refine rP 15 (h:=?_);refine rP 16 (h:=?_);refine rP 17 (h:=?_);refine FN 18 hHeld (h:=?_);refine rP 19 (h:=?_);refine rO 20 (h:=fun K hK=>?_);refine lY Tryz.func23 bD rfl #[.int .i64 (eZ.length:Int),.int .i64 1,.int .i64 40] ek rfl rfl ql ?_
 with_reducible refine (gp.calls A8.o).mono ?_
 rintro e w' ⟨rfl,⟨nd,rfl⟩⟩;refine ⟨_,rfl,?_⟩;refine hK.out _ _ ⟨bc ax 0,bc ax 1,bc ax 2,bc ax 3⟩ (fun hHeld=>?_);clear hK K;refine rN (h:=?_);refine rP 21 (h:=?_);refine rP 22 (h:=?_);refine rP 23 (h:=?_);refine rP 24 (h:=?_);refine rP 27 (h:=?_);refine FN 25 hHeld (h:=?_);refine rP 26 (h:=?_);refine FN 28 hHeld (h:=?_);refine rP 29 (h:=?_);refine rP 30 (h:=?_);refine rP 31 (h:=?_);refine rP 32 (h:=?_);refine rP 33 (h:=?_);refine FN 34 hHeld (h:=?_);refine rO 35 (h:=fun K hK=>?_);refine lY Tryz.func25 bD rfl #[.slice jX fG.length jF] ek rfl rfl ql ?_
 with_reducible refine (jV.calls ?ai ?aj Q6.o).mono ?_
 (case ai=>exact Z75)
 (case aj=>exact Cf.o)
 rintro e w' ⟨rfl,⟨nd,rfl⟩⟩;refine ⟨_,rfl,?_⟩;refine hK.out _ _ ⟨bc ax 0,bc ax 1,bc ax 2,bc ax 3⟩ (fun hHeld=>?_);clear hK K;refine rN (h:=?_);refine rP 36 (h:=?_);refine rP 37 (h:=?_);refine kT (jv HT_.o bD) ?_;obtain ⟨_,_,_,_,_,_,_,_⟩:=cz ax.o
 try go_wp2_with (first|((with_reducible refine yS (f:=26) rfl ?_);refine JM (some 44) rfl rfl Tryz.func26 bD rfl #[.slice kv eZ.length jI,.func (.func 27) #[] #[.pointer (some ⟨gT,0,none⟩)]] rfl ql ?_;(with_reducible refine (aH.calls _ _ eZ gT iq ig dH alW _ ?ai ?aj ?fI A13.o).mono ?_);(case ai=>exact Z76);(case aj=>exact Ah.o);(case fI=>exact (cu LD 0).trans rfl);rintro e w24 ⟨rfl,hb⟩;refine ⟨_,rfl,?_⟩;have n_:=jA (dE ax hb) (jC (ae qh hb));clear DI ax HB;obtain ⟨ax,HB⟩:=n_)|(go_at_call 26;(with_reducible refine (aH.calls _ _ eZ gT iq ig dH alW _ ?ai ?aj ?fI A13.o).mono ?_);(case ai=>exact Z76);(case aj=>exact Ah.o);(case fI=>exact (cu LD 0).trans rfl);rintro e w24 ⟨rfl,hb⟩;have lg:=jC (ae qh hb);clear ax;clear HB;have HB:=lg;clear lg))
 go_ret;exact ⟨fT,qh⟩
end Go.Proofs.YtkjbbnijhpldhaaGreatDoor.QFnTable
