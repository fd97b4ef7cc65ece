/- The machine side of FnTable: what each Go function that it reaches comes to. Conditions: none. -/
import Derived.Test.YtkjbbnijhpldhaaGreatDoorQFnTablex8
namespace Go.Proofs.YtkjbbnijhpldhaaGreatDoor.QFnTable
open Go.RowKit Go.Proofs.YtkjbbnijhpldhaaGreatDoorW.PrintWords Go.Proofs.YtkjbbnijhpldhaaGreatDoorW.PrintLast Go.Proofs.YtkjbbnijhpldhaaGreatDoorW.PrintMore
attribute [local go_sem] oq ou qN qO mr mD ow oz
set_option linter.unusedVariables false
set_option linter.unusedSimpArgs false
def strconv_Itoa.f (a0:Int):Option (ByteArray):=if -9223372036854775808≤a0∧a0≤9223372036854775807 then some ⟨(Lib.itoa a0).toArray⟩ else none
theorem strconv_Itoa.calls {a0:Int} {r:ByteArray} {w:World} (hG:GT w) (h:strconv_Itoa.f a0=some r):
  Calls Tryz.prog 76 #[.int .i64 a0] w fun e w'=>e=.returned (.string r)∧Below w.heap.size w w':=by
 unfold strconv_Itoa.f at h
 by_cases hb:-9223372036854775808≤a0∧a0≤9223372036854775807
 rotate_left
 ·rw[if_neg hb] at h;cases h
 rw[if_pos hb] at h;obtain rfl:=Option.some.inj h
 exact (Tryz.strconv_Itoa a0 hb.1 hb.2 w hG.pow10).mono fun e w' ⟨he,k,os,hw⟩=>⟨he,by rw[hw];exact Lib.below_grow _ _ (Nat.le_refl _) k os⟩
def qL.f (a0:Int):Option (ByteArray):=(strconv_Itoa.f a0).bind fun alY=>(some alY)
set_option maxHeartbeats 8000000 in
set_option maxRecDepth 100000 in
theorem qL.calls {a0:Int} {r:ByteArray} {w:World} (hG:GT w) (h:qL.f a0=some r):
  Calls Tryz.prog 55 #[.int .i64 a0] w fun e w'=>e=.returned (.string r)∧Below w.heap.size w w':=by
 have HG:=jC hG;clear hG;have HB:=jC (Below.refl w.heap.size w);have H:((strconv_Itoa.f a0).bind fun alY=>(some alY))=some r:=h;clear h;obtain ⟨alY,A2,H⟩:=bd H;obtain rfl:=Option.some.inj H;go_enter Tryz.func55,Tryz.ntmps55
 go_wp2_with (first|(refine gR 4 Tryz.func76 #[.int .i64 a0] (strconv_Itoa.calls ?ai A2.o) (h:=?_);(case ai=>exact adA);intro wC hb;replace HB:=jC (ae dn hb)))
 go_ret;exact ⟨fT,dn⟩
def mZ.f (a0 a1:ByteArray):Option (ByteArray):=if a0.size≤9223372036854775807∧a1=(⟨#[48]⟩:ByteArray) then some ⟨(Lib.trimRightB a0.data.toList 48).toArray⟩ else none
theorem mZ.calls {a0 a1:ByteArray} {r:ByteArray} {w:World} (h:mZ.f a0 a1=some r):
  Calls Tryz.prog 56 #[.string a0,.string a1] w fun e w'=>e=.returned (.string r)∧Below w.heap.size w w':=by
 unfold mZ.f at h
 by_cases hb:a0.size≤9223372036854775807∧a1=(⟨#[48]⟩:ByteArray)
 rotate_left
 ·rw[if_neg hb] at h;cases h
 rw[if_pos hb] at h;obtain rfl:=Option.some.inj h;rw[hb.2]
 exact (Tryz.strings_TrimRight_one a0 48 au w hb.1).mono fun e w' ⟨he,hw⟩=>⟨he,hw ▸ Below.refl _ _⟩
def jH.j0:Nat→Int→ByteArray→Option (ByteArray)
 |0,_,_=>none
 |k+1,x0,x3=>(qL.f (wrap64 (Int.tdiv x0 1000))).bind fun Ym=>(if x3.size+Ym.size≤9223372036854775807 then (if (Int.tmod x0 1000)=0 then (some (x3++Ym)) else ((qL.f (wrap64 (1000+(Int.tmod x0 1000)))).bind fun acv=>(if 1≤(acv.size:Int) then ((mZ.f (acv.extract 1 acv.size) (⟨#[48]⟩:ByteArray)).bind fun acw=>(if 1+acw.size≤9223372036854775807 then (if (x3++Ym).size+((⟨#[46]⟩:ByteArray)++acw).size≤9223372036854775807 then (some ((x3++Ym)++((⟨#[46]⟩:ByteArray)++acw))) else (none)) else (none))) else (none)))) else (none))
def jH.f (k:Nat) (a0:Int):Option (ByteArray):=(eP.f a0).bind fun alZ=>(if alZ=true then (if a0<0 then (jH.j0 k (wrap64 (-a0)) (⟨#[45]⟩:ByteArray)) else (jH.j0 k a0 (⟨#[]⟩:ByteArray))) else (some (⟨#[]⟩:ByteArray)))
set_option maxHeartbeats 8000000 in
set_option maxRecDepth 100000 in
theorem jH.calls {k:Nat} {a0:Int} {r:ByteArray} {w:World} (hG:GT w) (h:jH.f k a0=some r):
  Calls Tryz.prog 19 #[.int .i64 a0] w fun e w'=>e=.returned (.string r)∧Below w.heap.size w w':=by
 have HG:=jC hG;clear hG;have HB:=jC (Below.refl w.heap.size w);have H:((eP.f a0).bind fun alZ=>(if alZ=true then (if a0<0 then (jH.j0 k (wrap64 (-a0)) (⟨#[45]⟩:ByteArray)) else (jH.j0 k a0 (⟨#[]⟩:ByteArray))) else (some (⟨#[]⟩:ByteArray))))=some r:=h;clear h;obtain ⟨alZ,A2,H⟩:=bd H
 replace H:=iB H;obtain ⟨rfl,H⟩|⟨rfl,H⟩:=H
 ·obtain rfl:=Option.some.inj H;go_enter Tryz.func19,Tryz.ntmps19
  go_wp2_with (first|(refine gR 6 Tryz.func54 #[.int .i64 a0] (eP.calls A2.o) (h:=?_);rintro w' ⟨nd,rfl⟩))
  go_ret;exact ⟨fT,dn⟩
 have HC4:=jC H;clear H;go_enter Tryz.func19,Tryz.ntmps19
 go_upto_if 9 with (first|(refine gR 6 Tryz.func54 #[.int .i64 a0] (eP.calls A2.o) (h:=?_);rintro w' ⟨nd,rfl⟩))
 (try simp only[Act.put,List.setIfInBounds_toArray,List.set_cons_zero,List.set_cons_succ])
 go_cut [0,3] (fun v0 v3 wc=>∃(kq:Nat) (xH:Int) (EF:ByteArray),v0=.int .i64 xH∧v3=.string EF∧aa (jH.j0 kq xH EF=some r)∧aa (kq≤k)∧aa (Below w.heap.size w wc))
 case first=>
  have H:=HC4.o;clear HC4
  replace H:=iD H;obtain ⟨oZ,-,H⟩|⟨oZ,-,H⟩:=H
  ·(first|rw[oZ]|(simp only[jT,kS];rw[oZ])|skip);have H':=jC H;clear H
   go_wp2
   go_meet
   case rel=>exact ⟨_,(a0),((⟨#[]⟩:ByteArray)),bT,bT,H',⟨Au⟩,⟨dn⟩⟩
  (first|rw[oZ]|(simp only[jT,kS];rw[oZ])|skip);have H':=jC H;clear H
  go_wp2
  go_meet
  case rel=>exact ⟨_,(wrap64 (-a0)),((⟨#[45]⟩:ByteArray)),bT,bT,H',⟨Au⟩,⟨dn⟩⟩
 case rest=>
  clear HC4;obtain ⟨kq,xH,EF,rfl,rfl,HA,HJ3,HB⟩:=hcut
  cases kq with
  |zero=>exact absurd HA.o (by simp [jH.j0])
  |succ kj3=>
   have H:=HA.o;clear HA;simp only[jH.j0] at H;obtain ⟨Ym,A6,H⟩:=bd H;obtain ⟨c7,H⟩:=nD H;have D9:=fO c7;have Re:=rM c7
   try have adl:(9223372036854775807<EF.size+Ym.size)=False:=eq_false (Nat.not_lt.2 c7)
   replace H:=jE H;obtain ⟨vV,FU,-,H⟩|⟨vV,FU,c8,H⟩:=H
   ·obtain rfl:=Option.some.inj H
    go_wp2_with (first|(refine gR 15 Tryz.func55 #[.int .i64 (wrap64 (Int.tdiv xH 1000))] (qL.calls ?ai A6.o) (h:=?_);(case ai=>exact adA);intro wC hb;replace HB:=jC (ae dn hb)))
    go_ret;exact ⟨fT,dn⟩
   obtain ⟨acv,A10,H⟩:=bd H;obtain ⟨c11,H⟩:=nD H;have yA:=fO c11;have Qa:=rM c11;clear c11;obtain ⟨acw,Y0,H⟩:=bd H;obtain ⟨c13,H⟩:=nD H;have Qk:=fO c13;have aZU:=rM c13
   try have aZV:(9223372036854775807<1+acw.size)=False:=eq_false (Nat.not_lt.2 c13)
   obtain ⟨c14,H⟩:=nD H;have Gf:=fO c14;have Ql:=rM c14
   try have aIO:(9223372036854775807<(EF++Ym).size+((⟨#[46]⟩:ByteArray)++acw).size)=False:=eq_false (Nat.not_lt.2 c14)
   try (have apF:=aIO;simp only[ByteArray.size_append] at apF)
   try (have aIP:=apF;simp only[show ∀b_:UInt8,(⟨#[b_]⟩:ByteArray).size=1 from fun _=>rfl] at aIP)
   obtain rfl:=Option.some.inj H
   go_wp2_with (first|(refine gR 15 Tryz.func55 #[.int .i64 (wrap64 (Int.tdiv xH 1000))] (qL.calls ?ai A6.o) (h:=?_);(case ai=>exact adA);intro wC hb;replace HB:=jC (ae dn hb))|(refine gR 24 Tryz.func55 #[.int .i64 (wrap64 (1000+(Int.tmod xH 1000)))] (qL.calls ?ai A10.o) (h:=?_);(case ai=>exact adA);intro wq2 hb;replace HB:=jC (ae dn hb))|(refine gR 26 Tryz.func56 #[.string (acv.extract 1 acv.size),.string (⟨#[48]⟩:ByteArray)] (mZ.calls Y0.o) (h:=?_);intro wq3 hb;replace HB:=jC (ae dn hb)))
   go_ret;exact ⟨fT,dn⟩
def jO.l0:Nat→List ByteArray→List Int→Int→Int→Option (List ByteArray)
 |0,_,_,_,_=>none
 |k+1,x3,x7,x8,x9=>if x9<x8 then (if 0≤x9 then (if x9<(x7.length:Int) then ((jH.f k (rd x7 x9)).bind fun ahI=>(if x3.length<8796093022208 then (jO.l0 k (x3++ [ahI]) x7 x8 (wrap64 (x9+1))) else (none))) else (none)) else (none)) else (some x3)
def jO.f (k:Nat) (l0:List Int):Option (List ByteArray):=jO.l0 k (([]:List ByteArray)) l0 (l0.length:Int) 0
set_option maxHeartbeats 8000000 in
set_option maxRecDepth 100000 in
theorem jO.calls {k:Nat} {A0:Option Addr} {c0:Nat} {l0:List Int} {r:List ByteArray} {w:World} (hr0:Kd.C (Kd.int .i64) w A0 l0.length l0) (hc0:l0.length≤c0) (hG:GT w) (h:jO.f k l0=some r):
  Calls Tryz.prog 18 #[.slice A0 l0.length c0] w fun e w'=>∃Ee:Value,e=.returned (Ee)∧Kd.R Kd.string 9 w' w.heap.size (fun _=>True) Ee r∧Below w.heap.size w w':=by
 have HG:=jC hG;clear hG;have t_:=jC hr0;have BI:=jC hc0;clear hr0 hc0;have HB:=jC (Below.refl w.heap.size w);have H:=h;clear h;unfold jO.f at H;generalize hyy:(([]:List ByteArray))=aUS at H;have apG:=jC hyy.symm;clear hyy;have H':=jC H;clear H;go_enter Tryz.func18,Tryz.ntmps18
 go_wp2_with (first|((with_reducible refine aG (N:=6) rfl ?_);refine Kd.sQ Kd.string _ 9 ?hg (N:=6) ?hd (xs:=([]:List ByteArray)) (inner:=[]) (ok:=fun _=>True) (okp:=fun _=>True) ?hr ?hp rE trivial (Below.refl _ _) (Nat.le_refl _) gQ ?_;(case hd=>rfl);(case hg=>rfl);(case hr=>exact kz);(case hp=>exact xk);intro a5V w2 ho3 hb hg_ hnew_;clear hg_ hnew_;(first|rw[←apG.o] at ho3|(simp only[Int.reduceToNat] at ho3;rw[←apG.o] at ho3));have n_:=Z69;clear HB;obtain ⟨aIQ,HB⟩:=n_;clear hb ho3))
 go_loopg [3,9] k (fun kq v3 v9 w'=>∃(lK:List ByteArray) (uT:Int),v9=.int .i64 uT∧aa (jO.l0 kq lK l0 (l0.length:Int) uT=some r)∧aa (kq≤k)∧aa (Kd.R Kd.string 9 w' w.heap.size (fun _=>True) v3 lK)∧aa (Below w.heap.size w w'))
 case atStart=>exact ⟨(aUS),(0),bT,H',⟨Nat.le_refl _⟩,⟨by refine pR ?_;exact aIQ.o⟩,⟨dn⟩⟩
 case round=>
  clear H';obtain ⟨lK,uT,rfl,HA,rF,lv,HB⟩:=hrel
  cases gk with
  |zero=>exact absurd HA.o (by simp [jO.l0])
  |succ k1=>
   have H:=HA.o;clear HA;simp only[jO.l0] at H
   replace H:=iD H;obtain ⟨qo,-,H⟩|⟨qo,-,H⟩:=H
   ·obtain rfl:=Option.some.inj H
    go_wp2
    go_ret;exact ⟨_,fT,abq,dn⟩
   obtain ⟨oZ,-,H⟩:=l5 H;obtain ⟨vU,-,H⟩:=l5 H;obtain ⟨ahI,A7,H⟩:=bd H;obtain ⟨c8,H⟩:=nD H;have ajQ:=jC c8;clear c8;generalize hyy:(lK++ [ahI])=aUT at H;have aIR:=jC hyy.symm;clear hyy;have H':=jC H;clear H;obtain ⟨a5W,a5X,aZW,aUU,SE⟩:=gI t_.o uT
   cases aUU
   replace SE:=(HB.o.cell (World.block_lt_of_cell? w _ SE)).trans SE
   go_wp2_with (first|(refine gR 15 Tryz.func19 #[.int .i64 (rd l0 uT)] (jH.calls ?ai A7.o) (h:=?_);(case ai=>exact adA);intro w9 hb;have n_:=Z84;clear lv HB;obtain ⟨lv,HB⟩:=n_)|((with_reducible refine bJ (b:=.append) (xs:=#[.tmp 13,.tmp 16]) rfl ?_);at_builtin;refine Kd.gH Kd.string (w0:=w) w.heap.size rfl (.tmp 13) (.tmp 16) 24 9 (.string ⟨#[]⟩) 16 rfl Tryz.underlying24 l_ rfl au bG u3 lK ahI [.string ahI] (fun _=>True) (fun _=>False) rfl rfl ?aP (fun _ hk=>hk.elim) ?aF ?aO ?aB ?aS ?aL ?_;(case aP=>exact rfl);(case aB=>exact zf);(case aF=>exact o8);(case aO=>exact adH);(case aS=>exact ze);(case aL=>have:=ajQ.o;omega);intro a5Y w10 ho hb hg hat;rw[←aIR.o] at ho;have n_:=jA (hb) (jC (ho));clear HB lv;obtain ⟨HB,aIS⟩:=n_;clear ho hb hg hat))
   go_roundg k1
   case measure=>have:=rF.o;omega
   case rel=>exact ⟨(aUT),(wrap64 (uT+1)),bT,H',⟨vE⟩,⟨by refine pR ?_;exact aIS.o⟩,⟨dn⟩⟩
theorem Od {P:Program} {f:FuncId} {args:Array Value} {w:World} {a n:Nat} {v:Value} (h:Calls P f args (w.drewN (a+n)) fun e w'=>e=.returned v∧w'=w.drewN (a+n)):Calls P f args (w.drewN (a+n)) fun e w''=>e=.returned v∧∃m,w''=w.drewN (a+m):=
 h.mono fun _ _ ⟨he,hm⟩=>⟨he,n,hm⟩
theorem strings_IndexAny.enc {r:Int} (h0:128≤r) (h1:r≤1114111) (hv:Utf8.valid r=true):∃(rs:ByteArray) (b:UInt8),Utf8.encode r=rs∧128≤b.toNat∧((∃b0,rs=⟨#[b0,b]⟩)∨(∃b0 b1,rs=⟨#[b0,b1,b]⟩)∨(∃b0 b1 b2,rs=⟨#[b0,b1,b2,b]⟩)):=by
 have k:∀n:Nat,128≤(UInt8.ofNat (0x80+n % 64)).toNat:=fun n=>by rw[UInt8.toNat_ofNat'];omega
 unfold Utf8.encode;rw[if_pos hv];simp only
 split
 ·omega
 split
 ·exact ⟨_,_,rfl,k _,.inl ⟨_,rfl⟩⟩
 split
 ·exact ⟨_,_,rfl,k _,.inr (.inl ⟨_,_,rfl⟩)⟩
 exact ⟨_,_,rfl,k _,.inr (.inr ⟨_,_,_,rfl⟩)⟩
theorem strings_IndexAny.none_ (k:Nat) (b:UInt8) (hb:128≤b.toNat):Lib.indexByte (([44,34,10,13]:List UInt8).drop k) b=-1:=by
 have n1:(44:UInt8)≠b:=by rintro rfl;exact absurd hb au
 have n2:(34:UInt8)≠b:=by rintro rfl;exact absurd hb au
 have n3:(10:UInt8)≠b:=by rintro rfl;exact absurd hb au
 have n4:(13:UInt8)≠b:=by rintro rfl;exact absurd hb au
 match k with
 |0=>simp [Lib.indexByte,n1,n2,n3,n4]
 |1=>simp [Lib.indexByte,n1,n2,n3,n4]
 |2=>simp [Lib.indexByte,n1,n2,n3,n4]
 |3=>simp [Lib.indexByte,n1,n2,n3,n4]
 |k+4=>simp [Lib.indexByte]
set_option maxHeartbeats 8000000 in
set_option maxRecDepth 1000000 in
theorem strings_IndexAny.ahJ (w:World):Calls Tryz.prog 95 #[.string ⟨#[44,34,10,13]⟩,.int .i32 65533] w fun e w'=>e=.returned (.int .i64 (-1))∧Below w.heap.size w w':=by
 go_enter Tryz.func95,Tryz.ntmps95
 go_wp2
 go_loopg [5,6] 4 (fun g _ _ wx=>∃i:Nat,i+g=4∧wx=w.iter ⟨#[44,34,10,13]⟩ i)
 case atStart=>exact ⟨0,bG,rfl⟩
 case round=>
  obtain ⟨i,hig,rfl⟩:=hrel
  cases gk with
  |zero=>
   obtain rfl:i=4:=by omega
   have hnx:=run_next_end (P:=Tryz.prog) w ⟨#[44,34,10,13]⟩ 4
   go_wp2
   go_ret;exact ⟨rfl,(Below.refl _ _).alloc (Nat.le_refl _) _⟩
  |succ g=>
   have hi:i=0∨i=1∨i=2∨i=3:=by omega
   rcases hi with rfl|rfl|rfl|rfl
   ·have hnx:=fun ty=>run_next_ascii (P:=Tryz.prog) w ⟨#[44,34,10,13]⟩ 0 ty au au
    have e:(((⟨#[44,34,10,13]⟩:ByteArray)[0]'au).toNat:Int)=44:=rfl;simp only[e] at hnx
    go_wp2
    go_roundg g
    case measure=>omega
    case rel=>exact ⟨1,bG,rfl⟩
   ·have hnx:=fun ty=>run_next_ascii (P:=Tryz.prog) w ⟨#[44,34,10,13]⟩ 1 ty au au
    have e:(((⟨#[44,34,10,13]⟩:ByteArray)[1]'au).toNat:Int)=34:=rfl;simp only[e] at hnx
    go_wp2
    go_roundg g
    case measure=>omega
    case rel=>exact ⟨2,bG,rfl⟩
   ·have hnx:=fun ty=>run_next_ascii (P:=Tryz.prog) w ⟨#[44,34,10,13]⟩ 2 ty au au
    have e:(((⟨#[44,34,10,13]⟩:ByteArray)[2]'au).toNat:Int)=10:=rfl;simp only[e] at hnx
    go_wp2
    go_roundg g
    case measure=>omega
    case rel=>exact ⟨3,bG,rfl⟩
   have hnx:=fun ty=>run_next_ascii (P:=Tryz.prog) w ⟨#[44,34,10,13]⟩ 3 ty au au
   have e:(((⟨#[44,34,10,13]⟩:ByteArray)[3]'au).toNat:Int)=13:=rfl;simp only[e] at hnx
   go_wp2
   go_roundg g
   case measure=>omega
   case rel=>exact ⟨4,bG,rfl⟩
set_option maxHeartbeats 8000000 in
set_option maxRecDepth 1000000 in
theorem strings_IndexAny.al0 (r:Int) (w:World) (h0:128≤r) (h1:r≤1114111):Calls Tryz.prog 95 #[.string ⟨#[44,34,10,13]⟩,.int .i32 r] w fun e w'=>e=.returned (.int .i64 (-1))∧Below w.heap.size w w':=by
 by_cases hbad:r=65533
 ·subst hbad;exact strings_IndexAny.ahJ w
 have e1:(r==65533)=false:=beq_eq_false_iff_ne.2 hbad;have d1:decide ((0:Int)≤r)=true:=rM bG;have d2:decide (r<128)=false:=M_ bG
 cases hv:Lib.validRune r with
 |false=>
  clear hbad;go_enter Tryz.func95,Tryz.ntmps95
  go_wp2_with (go_at_call 110;(with_reducible refine (Tryz.utf8_ValidRune r _).mono ?_);rintro e w' ⟨rfl,hw⟩;rw[hw,hv])
  go_ret;exact ⟨rfl,Below.refl _ _⟩
 |true=>
  have hv2:Utf8.valid r=true:=by
   have:=hv
   unfold Lib.validRune at this;unfold Utf8.valid;simp only[Bool.or_eq_true,Bool.and_eq_true,decide_eq_true_eq] at this ⊢
   omega
  obtain ⟨rs,b,hrs,hb,hc⟩:=strings_IndexAny.enc h0 h1 hv2;have HV:=jC hv;have HB:=jC hb;clear hbad hv hv2 hb
  rcases hc with ⟨b0,rfl⟩|⟨b0,b1,rfl⟩|⟨b0,b1,b2,rfl⟩
  ·have hx:(((⟨#[b0,b]⟩:ByteArray)[1]'(show 1<2 from au)).toNat:Int)=(b.toNat:Int):=rfl;have hc0:(((⟨#[44,34,10,13]⟩:ByteArray)[1]'(show 1<4 from au)).toNat:Int)=34:=rfl;have hne:((34:Int) !=(b.toNat:Int))=true:=bne_iff_ne.2 (by have:=HB.o;omega)
   have apH:(b.toNat:Int)<256:=by have:=b.toNat_lt;omega
   have hix:=strings_IndexAny.none_ 2 b HB.o
   have hbk:((b.toNat:Int)).toNat.toUInt8=b:=by simp
   have hib:∀W,Calls Tryz.prog 109 #[.string ((⟨#[44,34,10,13]⟩:ByteArray).extract 2 4),.int .u8 (b.toNat:Int)] W fun e w'=>e=.returned (.int .i64 (-1))∧w'=W:=fun W=>by
    have c:=Tryz.strings_IndexByte ((⟨#[44,34,10,13]⟩:ByteArray).extract 2 4) (b.toNat:Int) W;rw[hbk,show ((⟨#[44,34,10,13]⟩:ByteArray).extract 2 4).data.toList=([44,34,10,13]:List UInt8).drop 2 from rfl,hix] at c;exact c
   have HIB:=jC hib;clear hix hbk hib;go_enter Tryz.func95,Tryz.ntmps95
   go_wp2_with (go_at_call 110;(with_reducible refine (Tryz.utf8_ValidRune r _).mono ?_);rintro e w' ⟨rfl,hw⟩;rw[hw,HV.o])
   go_step3
   go_wp2
   go_loopg [9,10] 1 (fun g v9 v10 wx=>v9=.int .i64 1∧v10=.int .i64 0∧g=1∧wx=w)
   case atStart=>exact ⟨rfl,rfl,rfl,rfl⟩
   case round=>
    obtain ⟨rfl,rfl,rfl,rfl⟩:=hrel
    go_wp2
    go_step3
    go_wp2
    go_quiet (fail)
    try go_wp2
    go_quiet ((go_at_call 109;exact Od (HIB.o _)))
    try go_wp2
    rw[Exit.noGoto_ret]
    go_wp2
    rw[Exit.noGoto_ret]
    go_wp2
    go_ret;exact ⟨rfl,ak (Below.refl _ _) _⟩
  ·have hx:(((⟨#[b0,b1,b]⟩:ByteArray)[2]'(show 2<3 from au)).toNat:Int)=(b.toNat:Int):=rfl;have hc0:(((⟨#[44,34,10,13]⟩:ByteArray)[2]'(show 2<4 from au)).toNat:Int)=10:=rfl;have hne:((10:Int) !=(b.toNat:Int))=true:=bne_iff_ne.2 (by have:=HB.o;omega)
   have apH:(b.toNat:Int)<256:=by have:=b.toNat_lt;omega
   have hix:=strings_IndexAny.none_ 3 b HB.o
   have hbk:((b.toNat:Int)).toNat.toUInt8=b:=by simp
   have hib:∀W,Calls Tryz.prog 109 #[.string ((⟨#[44,34,10,13]⟩:ByteArray).extract 3 4),.int .u8 (b.toNat:Int)] W fun e w'=>e=.returned (.int .i64 (-1))∧w'=W:=fun W=>by
    have c:=Tryz.strings_IndexByte ((⟨#[44,34,10,13]⟩:ByteArray).extract 3 4) (b.toNat:Int) W;rw[hbk,show ((⟨#[44,34,10,13]⟩:ByteArray).extract 3 4).data.toList=([44,34,10,13]:List UInt8).drop 3 from rfl,hix] at c;exact c
   have HIB:=jC hib;clear hix hbk hib;go_enter Tryz.func95,Tryz.ntmps95
   go_wp2_with (go_at_call 110;(with_reducible refine (Tryz.utf8_ValidRune r _).mono ?_);rintro e w' ⟨rfl,hw⟩;rw[hw,HV.o])
   go_step3
   go_wp2
   go_loopg [9,10] 1 (fun g v9 v10 wx=>v9=.int .i64 2∧v10=.int .i64 0∧g=1∧wx=w)
   case atStart=>exact ⟨rfl,rfl,rfl,rfl⟩
   case round=>
    obtain ⟨rfl,rfl,rfl,rfl⟩:=hrel
    go_wp2
    go_step3
    go_wp2
    go_quiet (fail)
    try go_wp2
    go_quiet ((go_at_call 109;exact Od (HIB.o _)))
    try go_wp2
    rw[Exit.noGoto_ret]
    go_wp2
    rw[Exit.noGoto_ret]
    go_wp2
    go_ret;exact ⟨rfl,ak (Below.refl _ _) _⟩
  have hx:(((⟨#[b0,b1,b2,b]⟩:ByteArray)[3]'(show 3<4 from au)).toNat:Int)=(b.toNat:Int):=rfl;have hc0:(((⟨#[44,34,10,13]⟩:ByteArray)[3]'(show 3<4 from au)).toNat:Int)=13:=rfl;have hne:((13:Int) !=(b.toNat:Int))=true:=bne_iff_ne.2 (by have:=HB.o;omega)
  have apH:(b.toNat:Int)<256:=by have:=b.toNat_lt;omega
  have hix:=strings_IndexAny.none_ 4 b HB.o
  have hbk:((b.toNat:Int)).toNat.toUInt8=b:=by simp
  have hib:∀W,Calls Tryz.prog 109 #[.string ((⟨#[44,34,10,13]⟩:ByteArray).extract 4 4),.int .u8 (b.toNat:Int)] W fun e w'=>e=.returned (.int .i64 (-1))∧w'=W:=fun W=>by
   have c:=Tryz.strings_IndexByte ((⟨#[44,34,10,13]⟩:ByteArray).extract 4 4) (b.toNat:Int) W;rw[hbk,show ((⟨#[44,34,10,13]⟩:ByteArray).extract 4 4).data.toList=([44,34,10,13]:List UInt8).drop 4 from rfl,hix] at c;exact c
  have HIB:=jC hib;clear hix hbk hib;go_enter Tryz.func95,Tryz.ntmps95
  go_wp2_with (go_at_call 110;(with_reducible refine (Tryz.utf8_ValidRune r _).mono ?_);rintro e w' ⟨rfl,hw⟩;rw[hw,HV.o])
  go_step3
  go_wp2
  go_loopg [9,10] 1 (fun g v9 v10 wx=>v9=.int .i64 3∧v10=.int .i64 0∧g=1∧wx=w)
  case atStart=>exact ⟨rfl,rfl,rfl,rfl⟩
  case round=>
   obtain ⟨rfl,rfl,rfl,rfl⟩:=hrel
   go_wp2
   go_step3
   go_wp2
   go_quiet (fail)
   try go_wp2
   go_quiet ((go_at_call 109;exact Od (HIB.o _)))
   try go_wp2
   rw[Exit.noGoto_ret]
   go_wp2
   rw[Exit.noGoto_ret]
   go_wp2
   go_ret;exact ⟨rfl,ak (Below.refl _ _) _⟩
theorem strings_IndexAny.VQ {s:ByteArray} {j:Nat} {b:UInt8} (h:s.data.toList[j]?=some b):s.get! j=b:=by
 have hlt:j<s.data.size:=by
  have:=(List.getElem?_eq_some_iff.mp h).1
  simpa using this
 rw[Array.getElem?_toList,Array.getElem?_eq_getElem hlt] at h
 show s.data[j]! =b
 rw[getElem!_pos s.data j hlt];exact Option.some.inj h
theorem strings_IndexAny.avy (s:ByteArray) (i:Nat) (h:i<s.size) (hx:128≤(s.get! i).toNat):128≤(Utf8.decode s i).1∧(Utf8.decode s i).1≤1114111∧1≤(Utf8.decode s i).2∧i+(Utf8.decode s i).2≤s.size∧∀j,j<(Utf8.decode s i).2→128≤(s.get! (i+j)).toNat:=by
 rw[Lib.decode_at];have b3:=(s.get! (i+3)).toNat_lt;have b2:=(s.get! (i+2)).toNat_lt;have b1:=(s.get! (i+1)).toNat_lt;have b0:=(s.get! i).toNat_lt
 have one:∀j,j<1→128≤(s.get! (i+j)).toNat:=fun j hj=>by obtain rfl:j=0:=bG;exact hx
 unfold Lib.decodeN;rw[if_neg bG]
 split
 ·rename_i g
  split
  ·refine ⟨xm,xm,xm,xm,fun j hj=>?_⟩
   have hj:j=0∨j=1:=by dsimp only at hj;omega
   rcases hj with rfl|rfl
   ·exact hx
   omega
  exact ⟨xm,xm,xm,xm,one⟩
 split
 ·rename_i g
  split
  ·refine ⟨xm,xm,xm,xm,fun j hj=>?_⟩
   have hj:j=0∨j=1∨j=2:=by dsimp only at hj;omega
   rcases hj with rfl|rfl|rfl
   ·exact hx
   ·omega
   omega
  exact ⟨xm,xm,xm,xm,one⟩
 split
 ·rename_i g
  split
  ·refine ⟨xm,xm,xm,xm,fun j hj=>?_⟩
   have hj:j=0∨j=1∨j=2∨j=3:=by dsimp only at hj;omega
   rcases hj with rfl|rfl|rfl|rfl
   ·exact hx
   ·omega
   ·omega
   omega
  exact ⟨xm,xm,xm,xm,one⟩
 exact ⟨xm,xm,xm,xm,one⟩
theorem strings_IndexAny.avz {b:UInt8} (h:128≤b.toNat):([44,34,10,13]:List UInt8).contains b=false:=by
 have n1:b≠44:=by rintro rfl;exact absurd h au
 have n2:b≠34:=by rintro rfl;exact absurd h au
 have n3:b≠10:=by rintro rfl;exact absurd h au
 have n4:b≠13:=by rintro rfl;exact absurd h au
 simp [n1,n2,n3,n4]
theorem strings_IndexAny.skip {s:ByteArray} {i d:Nat} (h:Lib.NoAny s.data.toList [44,34,10,13] i) (hd:∀j,j<d→128≤(s.get! (i+j)).toNat):Lib.NoAny s.data.toList [44,34,10,13] (i+d):=fun j b hj hb=>by
 by_cases g:j<i
 ·exact h j b g hb
 ·have:=hd (j - i) bG
  rw[show i+(j - i)=j by omega,strings_IndexAny.VQ hb] at this;exact strings_IndexAny.avz this
set_option maxHeartbeats 8000000 in
set_option maxRecDepth 1000000 in
theorem strings_IndexAny.short (s:ByteArray) (w:World) (h8:s.size≤8):
  Calls Tryz.prog 84 #[.string s,.string ⟨#[44,34,10,13]⟩] w fun e w'=>e=.returned (.int .i64 (Lib.indexAny s.data.toList [44,34,10,13]))∧Below w.heap.size w w':=by
 have h8z:decide ((8:Int)<(s.size:Int))=false:=M_ bG;go_enter Tryz.func84,Tryz.ntmps84
 go_wp2_with (go_at_call 96;(with_reducible refine (Tryz.strings_shouldUseASCIISet _ _).mono ?_);rintro e w' ⟨rfl,hw⟩;rw[hw,h8z])
 go_loopg [9,10] s.size (fun g _ _ wx=>∃i:Nat,i+g=s.size∧aa (wx.heap[w.heap.size]?=some (.stringIter s i))∧aa (Below w.heap.size w wx)∧aa (Lib.NoAny s.data.toList [44,34,10,13] i))
 case atStart=>exact ⟨0,bG,⟨World.iter_heap w s 0⟩,⟨(Below.refl _ _).alloc (Nat.le_refl _) _⟩,⟨Lib.NoAny.zero _ _⟩⟩
 case round=>
  obtain ⟨i,hig,HK,HB,HN⟩:=hrel
  cases gk with
  |zero=>
   obtain rfl:i=s.size:=by omega
   have hnx:=fun ty=>Lib.run_next_end_at (P:=Tryz.prog) wr w.heap.size s s.size ty HK.o bG
   go_wp2
   go_ret;exact ⟨by rw[Lib.indexAny_none (by rw[iA];exact HN.o)];rfl,HB.o⟩
  |succ g=>
   have hi:i<s.size:=by omega
   obtain ⟨x,hx⟩:∃x:UInt8,s.data.toList[i]?=some x:=⟨_,List.getElem?_eq_getElem (by rw[iA];exact hi)⟩
   have hgx:=strings_IndexAny.VQ hx;have Hx:=jC hx
   by_cases h128:x.toNat<128
   rotate_left
   ·obtain ⟨c0,c1,c2,c3,c4⟩:=strings_IndexAny.avy s i hi (by rw[hgx];omega)
    have hnx:=fun ty=>Lib.run_next_any_at (P:=Tryz.prog) wr w.heap.size s i ty HK.o hi
    obtain ⟨c,hc⟩:∃c,(Utf8.decode s i).1=c:=⟨_,rfl⟩
    obtain ⟨d,hd⟩:∃d,(Utf8.decode s i).2=d:=⟨_,rfl⟩
    rw[hc,hd] at hnx;rw[hc] at c0 c1;rw[hd] at c2 c3 c4;have vD:=jC (Lib.iterAt_heap wr w.heap.size s i (i+d) HK.o);have HB2:=jC (Lib.below_iterAt HB.o (Nat.le_refl _) s (i+d));have C4:=jC c4;clear hc hd c4 hx hgx
    go_wp2_with (go_at_call 95;(with_reducible refine (strings_IndexAny.al0 (c:Int) _ bG bG).mono ?_);rintro e w9 ⟨rfl,hb9⟩;have Ta:=jC hb9;clear hb9)
    go_roundg (g+1 - d)
    case measure=>omega
    case rel=>exact ⟨i+d,bG,⟨(Ta.o.block w.heap.size (by have:=(Array.getElem?_eq_some_iff.1 vD.o).1;exact this)).trans vD.o⟩,⟨Oe HB2.o HB2.o.size Ta.o⟩,⟨strings_IndexAny.skip HN.o C4.o⟩⟩
   have hsx:(s[i]'hi).toNat=x.toNat:=by
    have:=Lib.data_getElem? s i hi
    rw[hx] at this;rw[Option.some.inj this]
   have hnx:=fun ty=>Lib.run_next_ascii_at (P:=Tryz.prog) wr w.heap.size s i ty HK.o hi (by rw[hsx];exact h128)
   rw[hsx] at hnx;have vD:=jC (Lib.iterAt_heap wr w.heap.size s i (i+1) HK.o);have HB2:=jC (Lib.below_iterAt HB.o (Nat.le_refl _) s (i+1));clear hx hgx hsx;have hcon:=Lib.contains_iff_indexByte ([44,34,10,13]:List UInt8) x
   have hback:((x.toNat:Int)).toNat.toUInt8=x:=by simp
   cases hin:([44,34,10,13]:List UInt8).contains x
   ·rw[hin] at hcon;have hlt:¬((0:Int)≤Lib.indexByte ([44,34,10,13]:List UInt8) x):=of_decide_eq_false hcon.symm;clear hcon
    go_wp2_with (go_at_call 95;(with_reducible refine (Tryz.strings_IndexRune_ascii _ _ _ bG bG).mono ?_);rintro e w' ⟨rfl,hw⟩;rw[hw,hback])
    go_roundg g
    case measure=>omega
    case rel=>exact ⟨i+1,bG,vD,HB2,⟨HN.o.succ Hx.o hin⟩⟩
   rw[hin] at hcon;have hge:(0:Int)≤Lib.indexByte ([44,34,10,13]:List UInt8) x:=oT hcon.symm;clear hcon
   go_wp2_with (go_at_call 95;(with_reducible refine (Tryz.strings_IndexRune_ascii _ _ _ bG bG).mono ?_);rintro e w' ⟨rfl,hw⟩;rw[hw,hback])
   go_ret;exact ⟨by rw[Lib.indexAny_hit HN.o Hx.o hin];rfl,HB2.o⟩
def strings_IndexAny.f (a0 a1:ByteArray):Option Int:=if a0.size<4294967281∧a1=(⟨#[44,34,10,13]⟩:ByteArray) then some (Lib.indexAny a0.data.toList [44,34,10,13]) else none
theorem strings_IndexAny.calls {a0 a1:ByteArray} {r:Int} {w:World} (h:strings_IndexAny.f a0 a1=some r):
  Calls Tryz.prog 84 #[.string a0,.string a1] w fun e w'=>e=.returned (.int .i64 r)∧Below w.heap.size w w':=by
 unfold strings_IndexAny.f at h
 by_cases hb:a0.size<4294967281∧a1=(⟨#[44,34,10,13]⟩:ByteArray)
 rotate_left
 ·rw[if_neg hb] at h;cases h
 rw[if_pos hb] at h;obtain rfl:=Option.some.inj h;obtain ⟨hb,rfl⟩:=hb
 by_cases h8:a0.size≤8
 ·exact strings_IndexAny.short a0 w h8
 refine (Tryz.strings_IndexAny_long (by intro W;exact (zero_of_info (P:=Tryz.prog) (n:=256) bD).1 W) a0 ⟨#[44,34,10,13]⟩ w au bG hb au (fun _ b hb'=>oT (List.all_eq_true.1 (show ([44,34,10,13]:List UInt8).all (fun b=>decide (b.toNat<128))=true by decide) b (List.mem_of_getElem? hb')))).mono fun e w' ⟨h1,h2⟩=>⟨h1,?_⟩
 rw[h2];exact ((Below.refl _ _).alloc (Nat.le_refl _) _).alloc gQ _
def strings_ContainsAny.f (a0:ByteArray) (a1:ByteArray):Option (Bool):=(strings_IndexAny.f a0 a1).bind fun al1=>(some (decide (al1≥0)))
set_option maxHeartbeats 8000000 in
set_option maxRecDepth 100000 in
theorem strings_ContainsAny.calls {a0:ByteArray} {a1:ByteArray} {r:Bool} {w:World} (h:strings_ContainsAny.f a0 a1=some r):
  Calls Tryz.prog 81 #[.string a0,.string a1] w fun e w'=>e=.returned (.bool r)∧Below w.heap.size w w':=by
 have HB:=jC (Below.refl w.heap.size w);have H:((strings_IndexAny.f a0 a1).bind fun al1=>(some (decide (al1≥0))))=some r:=h;clear h;obtain ⟨al1,A3,H⟩:=bd H;obtain rfl:=Option.some.inj H;go_enter Tryz.func81,Tryz.ntmps81
 go_wp2_with (first|(refine gR 7 Tryz.func84 #[.string a0,.string a1] (strings_IndexAny.calls A3.o) (h:=?_);intro wC hb;replace HB:=jC (ae dn hb)))
 go_ret;exact ⟨fT,dn⟩
def strings_ReplaceAll.f (_a0 _a1 _a2:ByteArray):Option ByteArray:=none
theorem strings_ReplaceAll.calls {a0 a1 a2:ByteArray} {r:ByteArray} {w:World} (h:strings_ReplaceAll.f a0 a1 a2=some r):
  Calls Tryz.prog 82 #[.string a0,.string a1,.string a2] w fun e w'=>e=.returned (.string r)∧Below w.heap.size w w':=by
 unfold strings_ReplaceAll.f at h
 cases h
def nX.f (a0:ByteArray):Option (ByteArray):=(strings_ContainsAny.f a0 (⟨#[44,34,10,13]⟩:ByteArray)).bind fun al2=>(if al2=true then ((strings_ReplaceAll.f a0 (⟨#[34]⟩:ByteArray) (⟨#[34,34]⟩:ByteArray)).bind fun Pj=>(if 1+Pj.size≤9223372036854775807 then (if ((⟨#[34]⟩:ByteArray)++Pj).size+1≤9223372036854775807 then (some (((⟨#[34]⟩:ByteArray)++Pj)++(⟨#[34]⟩:ByteArray))) else (none)) else (none))) else (some a0))
set_option maxHeartbeats 8000000 in
set_option maxRecDepth 100000 in
theorem nX.calls {a0:ByteArray} {r:ByteArray} {w:World} (h:nX.f a0=some r):
  Calls Tryz.prog 57 #[.string a0] w fun e w'=>e=.returned (.string r)∧Below w.heap.size w w':=by
 have HB:=jC (Below.refl w.heap.size w);have H:((strings_ContainsAny.f a0 (⟨#[44,34,10,13]⟩:ByteArray)).bind fun al2=>(if al2=true then ((strings_ReplaceAll.f a0 (⟨#[34]⟩:ByteArray) (⟨#[34,34]⟩:ByteArray)).bind fun Pj=>(if 1+Pj.size≤9223372036854775807 then (if ((⟨#[34]⟩:ByteArray)++Pj).size+1≤9223372036854775807 then (some (((⟨#[34]⟩:ByteArray)++Pj)++(⟨#[34]⟩:ByteArray))) else (none)) else (none))) else (some a0)))=some r:=h;clear h;obtain ⟨al2,A2,H⟩:=bd H
 replace H:=iB H;obtain ⟨rfl,H⟩|⟨rfl,H⟩:=H
 ·obtain rfl:=Option.some.inj H;go_enter Tryz.func57,Tryz.ntmps57
  go_wp2_with (first|(refine gR 4 Tryz.func81 #[.string a0,.string (⟨#[44,34,10,13]⟩:ByteArray)] (strings_ContainsAny.calls A2.o) (h:=?_);intro wC hb;replace HB:=jC (ae dn hb)))
  go_ret;exact ⟨fT,dn⟩
 obtain ⟨Pj,A4,H⟩:=bd H;obtain ⟨c5,H⟩:=nD H;have oZ:=fO c5;have GY:=rM c5
 try have aOr:(9223372036854775807<1+Pj.size)=False:=eq_false (Nat.not_lt.2 c5)
 obtain ⟨c6,H⟩:=nD H;have vU:=fO c6;have Us:=rM c6
 try have aUV:(9223372036854775807<((⟨#[34]⟩:ByteArray)++Pj).size+1)=False:=eq_false (Nat.not_lt.2 c6)
 try (have aIT:=aUV;simp only[ByteArray.size_append] at aIT)
 try (have aUW:=aIT;simp only[show ∀b_:UInt8,(⟨#[b_]⟩:ByteArray).size=1 from fun _=>rfl] at aUW)
 obtain rfl:=Option.some.inj H;go_enter Tryz.func57,Tryz.ntmps57
 go_wp2_with (first|(refine gR 4 Tryz.func81 #[.string a0,.string (⟨#[44,34,10,13]⟩:ByteArray)] (strings_ContainsAny.calls A2.o) (h:=?_);intro wC hb;replace HB:=jC (ae dn hb))|(refine gR 8 Tryz.func82 #[.string a0,.string (⟨#[34]⟩:ByteArray),.string (⟨#[34,34]⟩:ByteArray)] (strings_ReplaceAll.calls A4.o) (h:=?_);intro wq2 hb;replace HB:=jC (ae dn hb)))
 go_ret;exact ⟨fT,dn⟩
section
set_option maxHeartbeats 8000000
set_option maxRecDepth 100000
mutual
def fJ.l0:Nat→List Int→List (List ByteArray)→Int→Int→Option (ByteArray)
 |0,_,_,_,_=>none
 |k+1,x3,x9,K9,Vy=>if Vy<K9 then (if 0≤Vy then (if Vy<(x9.length:Int) then (fJ.l1 k x3 x9 K9 Vy (aN x9 Vy) ((aN x9 Vy).length:Int) 0) else (none)) else (none)) else (some (strOfNums x3))
def fJ.l1:Nat→List Int→List (List ByteArray)→Int→Int→List ByteArray→Int→Int→Option (ByteArray)
 |0,_,_,_,_,_,_,_=>none
 |k+1,x3,x9,K9,Vy,x15,XB,Ow=>if Ow<XB then (if 0≤Ow then (if Ow<(x15.length:Int) then (if Ow>0 then (if x3.length<140737488355328 then ((some (x3++ [44]:List Int)).bind fun ahK=>((nX.f (jg ByteArray.empty x15 Ow)).bind fun ahL=>(if ahK.length+ahL.size<140737488355328 then (fJ.l1 k (ahK++bytesOf ahL) x9 K9 Vy x15 XB (wrap64 (Ow+1))) else (none)))) else (none)) else ((nX.f (jg ByteArray.empty x15 Ow)).bind fun ahM=>(if x3.length+ahM.size<140737488355328 then (fJ.l1 k (x3++bytesOf ahM) x9 K9 Vy x15 XB (wrap64 (Ow+1))) else (none)))) else (none)) else (none)) else (if x3.length<140737488355328 then (fJ.l0 k (x3++ [10]) x9 K9 (wrap64 (Vy+1))) else (none))
end
def fJ.f (k:Nat) (l0:List (List ByteArray)):Option (ByteArray):=fJ.l0 k (([]:List Int)) l0 (l0.length:Int) 0
theorem fJ.calls {k:Nat} {A0:Option Addr} {c0:Nat} {l0:List (List ByteArray)} {r:ByteArray} {w:World} (hr0:Kd.C (Kd.slice 9 Kd.string) w A0 l0.length l0) (hc0:l0.length≤c0) (h:fJ.f k l0=some r):
  Calls Tryz.prog 20 #[.slice A0 l0.length c0] w fun e w'=>e=.returned (.string r)∧Below w.heap.size w w':=by
 have t_:=jC hr0;have BI:=jC hc0;clear hr0 hc0;have HB:=jC (Below.refl w.heap.size w);have H:=h;clear h;unfold fJ.f at H;generalize hyy:(([]:List Int))=aUX at H;have apI:=jC hyy.symm;clear hyy;have H':=jC H;clear H;go_enter Tryz.func20,Tryz.ntmps20
 go_wp2_with (first|((with_reducible refine aG (N:=8) rfl ?_);refine Kd.sQ (Kd.int .u8) _ 5 ?hg (N:=8) ?hd (xs:=([]:List Int)) (inner:=[]) (ok:=fun _=>True) (okp:=fun _=>True) ?hr ?hp rE trivial (Below.refl _ _) (Nat.le_refl _) gQ ?_;(case hd=>rfl);(case hg=>rfl);(case hr=>exact kz);(case hp=>exact xk);intro a5Z w2 ho3 hb hg_ hnew_;clear hg_ hnew_;(first|rw[←apI.o] at ho3|(simp only[Int.reduceToNat] at ho3;rw[←apI.o] at ho3));have n_:=Z69;clear HB;obtain ⟨aIU,HB⟩:=n_;clear hb ho3))
 go_loopg [3,11] k (fun kq v3 v11 w'=>∃(lK:List Int) (Gu:Int),v11=.int .i64 Gu∧aa (fJ.l0 kq lK l0 (l0.length:Int) Gu=some r)∧aa (kq≤k)∧aa (Kd.R (Kd.int .u8) 5 w' w.heap.size (fun _=>True) v3 lK)∧aa (Below w.heap.size w w'))
 case atStart=>exact ⟨(aUX),(0),bT,H',⟨Nat.le_refl _⟩,⟨by refine pR ?_;exact aIU.o⟩,⟨dn⟩⟩
 case round=>
  clear H';obtain ⟨lK,Gu,rfl,HA,rF,lv,HB⟩:=hrel
  cases gk with
  |zero=>exact absurd HA.o (by simp [fJ.l0])
  |succ k1=>
   have H:=HA.o;clear HA;simp only[fJ.l0] at H
   replace H:=iD H;obtain ⟨qo,-,H⟩|⟨qo,-,H⟩:=H
   ·obtain rfl:=Option.some.inj H;have aeF:=qp (P:=Tryz.prog) Tryz.underlying22 Tryz.underlying5 Tryz.underlying9 (Kd.o6 lv.o)
    go_wp2
    go_ret;exact ⟨fT,dn⟩
   obtain ⟨oZ,-,H⟩:=l5 H;obtain ⟨vU,-,H⟩:=l5 H;have H':=jC H;clear H;obtain ⟨a6a,a6b,aZY,aUY,aUZ,aU0,ME,aM9,aaQ⟩:=S9 t_.o Gu
   cases aU0
   replace ME:=(HB.o.cell (World.block_lt_of_cell? w _ ME)).trans ME
   go_wp2
   go_loopg [3,17] k1 (fun kq v3 v17 w'=>∃(tL:List Int) (Jn:Int),v17=.int .i64 Jn∧aa (fJ.l1 kq tL l0 (l0.length:Int) Gu (aN l0 Gu) ((aN l0 Gu).length:Int) Jn=some r)∧aa (kq≤k1)∧aa (Kd.R (Kd.int .u8) 5 w' w.heap.size (fun _=>True) v3 tL)∧aa (Below w.heap.size w w'))
   case atStart=>exact ⟨(lK),(0),bT,H',⟨Nat.le_refl _⟩,⟨abq⟩,⟨dn⟩⟩
   case round=>
    clear H'
    try clear hx3
    try clear ME
    obtain ⟨tL,Jn,rfl,HA,vD,lv,HB⟩:=hrel
    cases gk with
    |zero=>exact absurd HA.o (by simp [fJ.l1])
    |succ k2=>
     have H:=HA.o;clear HA;simp only[fJ.l1] at H
     replace H:=iD H;obtain ⟨D9,-,H⟩|⟨D9,-,H⟩:=H
     ·obtain ⟨c21,H⟩:=nD H;have aeM:=jC c21;clear c21;generalize hyy:(tL++ [10])=aU1 at H;have aIV:=jC hyy.symm;clear hyy;have H':=jC H;clear H
      go_wp2_with (first|((with_reducible refine bJ (b:=.append) (xs:=#[.tmp 32,.tmp 33]) rfl ?_);at_builtin;refine Kd.gH (Kd.int .u8) (w0:=w) w.heap.size rfl (.tmp 32) (.tmp 33) 22 5 (.int .u8 0) 1 rfl Tryz.underlying22 info5 rfl au bG u3 tL 10 [.int .u8 10] (fun _=>True) (fun _=>False) rfl rfl ?aP (fun _ hk=>hk.elim) ?aF ?aO ?aB ?aS ?aL ?_;(case aP=>exact rfl);(case aB=>exact zf);(case aF=>exact o8);(case aO=>exact adH);(case aS=>exact ze);(case aL=>have:=aeM.o;omega);intro a6c w22 ho hb hg hat;rw[←aIV.o] at ho;have n_:=jA (hb) (jC (ho));clear HB lv;obtain ⟨HB,aIW⟩:=n_;clear ho hb hg hat))
      go_roundg k2
      case measure=>have:=rF.o;have:=vD.o;omega
      case rel=>exact ⟨(aU1),(wrap64 (Gu+1)),bT,H',⟨Ca⟩,⟨by refine pR ?_;exact aIW.o⟩,⟨dn⟩⟩
     obtain ⟨vV,-,H⟩:=l5 H;obtain ⟨G6,-,H⟩:=l5 H
     replace H:=iD H;obtain ⟨vC,-,H⟩|⟨vC,-,H⟩:=H
     ·obtain ⟨ahM,O6,H⟩:=bd H;obtain ⟨c18,H⟩:=nD H;have aeQ:=jC c18;clear c18;generalize hyy:(tL++bytesOf ahM)=aIX at H;have aIY:=jC hyy.symm;clear hyy;have H':=jC H;clear H;obtain ⟨aU2,aU3,aIZ,avA,Du⟩:=gS aaQ.o Jn
      cases avA
      replace Du:=(HB.o.cell (World.block_lt_of_cell? w _ Du)).trans Du
      go_wp2_with (first|(refine gR 29 Tryz.func57 #[.string (jg ByteArray.empty (aN l0 Gu) Jn)] (nX.calls O6.o) (h:=?_);intro Zc hb;have n_:=Z84;clear lv HB;obtain ⟨lv,HB⟩:=n_)|(at_builtin;refine uS (w0:=w) w.heap.size rfl (.tmp 27) _ 22 9 5 rfl Tryz.underlying22 Tryz.underlying9 info5 u3 tL ahM rfl rfl ?aO ?aB ?aS ?aL ?_;(case aB=>exact zf);(case aO=>exact axY);(case aS=>exact ze);(case aL=>have:=aeQ.o;omega);intro aU4 w20 ho0 hb hg;have ho:=Kd.wV (h1:=fun _=>rfl) (ok:=fun _=>True) ho0 o8;clear ho0;have hat:=True.intro;rw[←aIY.o] at ho;change Kd.R (Kd.int .u8) 5 w20 w.heap.size (fun _=>True) aU4 aIX at ho;have n_:=jA (hb) (jC (ho));clear HB lv;obtain ⟨HB,aI0⟩:=n_;clear ho hb hg hat))
      go_roundg k2
      case measure=>have:=rF.o;have:=vD.o;omega
      case rel=>exact ⟨(aIX),(wrap64 (Jn+1)),bT,H',⟨Ca⟩,⟨by refine pR ?_;exact aI0.o⟩,⟨dn⟩⟩
     obtain ⟨c11,H⟩:=nD H;have aeI:=jC c11;clear c11;obtain ⟨ahK,aI1,H⟩:=yB H;obtain ⟨ahL,Y0,H⟩:=bd H;obtain ⟨c13,H⟩:=nD H;have aI2:=jC c13;clear c13;generalize hyy:(ahK++bytesOf ahL)=aI3 at H;have aI4:=jC hyy.symm;clear hyy;have H':=jC H;clear H;obtain ⟨aU2,aU3,aIZ,avA,Du⟩:=gS aaQ.o Jn
     cases avA
     replace Du:=(HB.o.cell (World.block_lt_of_cell? w _ Du)).trans Du
     go_wp2_with (first|((with_reducible refine bJ (b:=.append) (xs:=#[.tmp 24,.tmp 25]) rfl ?_);at_builtin;refine Kd.gH (Kd.int .u8) (w0:=w) w.heap.size rfl (.tmp 24) (.tmp 25) 22 5 (.int .u8 0) 1 rfl Tryz.underlying22 info5 rfl au bG u3 tL 44 [.int .u8 44] (fun _=>True) (fun _=>False) rfl rfl ?aP (fun _ hk=>hk.elim) ?aF ?aO ?aB ?aS ?aL ?_;(case aP=>exact rfl);(case aB=>exact zf);(case aF=>exact o8);(case aO=>exact adH);(case aS=>exact ze);(case aL=>have:=aeI.o;omega);intro aU5 Xi ho hb hg hat;rw[←aI1.o] at ho;have n_:=jA (hb) (jC (ho));clear HB lv;obtain ⟨HB,YT⟩:=n_;clear ho hb hg hat)|(refine gR 29 Tryz.func57 #[.string (jg ByteArray.empty (aN l0 Gu) Jn)] (nX.calls Y0.o) (h:=?_);intro Zf hb;have n_:=jA (Kd.bX ayh hb) (jC (ae dn hb));clear YT HB;obtain ⟨YT,HB⟩:=n_)|(at_builtin;refine uS (w0:=w) w.heap.size rfl (.tmp 27) _ 22 9 5 rfl Tryz.underlying22 Tryz.underlying9 info5 aU5 ahK ahL rfl rfl ?aO ?aB ?aS ?aL ?_;(case aB=>exact zf);(case aO=>exact (Kd.o6 ayh));(case aS=>exact ze);(case aL=>have:=aI2.o;omega);intro aU6 w16 ho0 hb hg;have ho:=Kd.wV (h1:=fun _=>rfl) (ok:=fun _=>True) ho0 o8;clear ho0;have hat:=True.intro;rw[←aI4.o] at ho;change Kd.R (Kd.int .u8) 5 w16 w.heap.size (fun _=>True) aU6 aI3 at ho;have n_:=jA (hb) (jC (ho));clear HB YT;obtain ⟨HB,aI5⟩:=n_;clear ho hb hg hat))
     go_roundg k2
     case measure=>have:=rF.o;have:=vD.o;omega
     case rel=>exact ⟨(aI3),(wrap64 (Jn+1)),bT,H',⟨Ca⟩,⟨by refine pR ?_;exact aI5.o⟩,⟨dn⟩⟩
end
section
set_option maxHeartbeats 8000000
set_option maxRecDepth 100000
def dx.l0:Nat→List (List ByteArray)→List (List Int)→Int→Int→List ByteArray→ByteArray→List (List Int)→List Int→Option (ByteArray)
 |0,_,_,_,_,_,_,_,_=>none
 |k+1,x3,Tc,x19,x20,al3,al4,al5,SF=>if x20<x19 then (if 0≤x20 then (if x20<(Tc.length:Int) then ((jO.f k (gP Tc x20)).bind fun ahN=>(if x20<(SF.length:Int) then ((jH.f k (rd SF x20)).bind fun acx=>((some (([acx]:List ByteArray):List ByteArray)).bind fun G9=>(if ahN.length+G9.length<8796093022208 then ((some (([(ahN++G9)]:List (List ByteArray)):List (List ByteArray))).bind fun ahO=>(if x3.length+ahO.length<5864062014805 then (dx.l0 k (x3++ahO) Tc x19 (wrap64 (x20+1)) al3 al4 al5 SF) else (none))) else (none)))) else (none))) else (none)) else (none)) else ((fJ.f k x3).bind fun aI6=>(some aI6))
def dx.f (k:Nat) (dH:List ByteArray) (fA:ByteArray) (eZ:List (List Int)) (fG:List Int):Option (ByteArray):=(eY.f k dH fA eZ fG).bind fun aI7=>(if aI7=true then ((aT.f dH).bind fun Yn=>((some (([fA]:List ByteArray):List ByteArray)).bind fun Kv=>(if Yn.length+Kv.length<8796093022208 then (dx.l0 k (([(Yn++Kv)]:List (List ByteArray))) eZ (eZ.length:Int) 0 dH fA eZ fG) else (none)))) else (some (⟨#[]⟩:ByteArray)))
def dx.T3:Bool × List (List Nat × List Nat):=(true,[([],[]),([0],[0]),([1],[1]),([],[]),([3],[3]),([4],[4]),([2,5,2],[2,5]),([6],[6]),([7,6,0,1,2,3,4,5,6,7],[7])])
def dx.B3:List Nat:=[0,1,3,0,8,24,63,127,255]
theorem dx.NH:o_ .any (opsOf Tryz.f6 3)=dx.T3:=by kernel_rfl
theorem dx.EI:lq dx.T3.2 dx.B3=true:=by kernel_rfl
def dx.T7:Bool × List (List Nat × List Nat):=(true,[([],[]),([],[]),([1],[1]),([],[]),([3],[3]),([],[]),([4,5],[4,5]),([6],[6]),([7,2],[7]),([8],[8]),([2,9,8],[2,9]),([10],[10]),([0,11,10],[0,11]),([12,12,0,1,2,3,4,5,6,7,8,9,10,11,12],[0,12])])
def dx.B7:List Nat:=[0,0,2,0,8,0,56,120,254,510,1022,2046,4095,8191]
theorem dx.aeY:o_ .any (opsOf Tryz.f6 7)=dx.T7:=by kernel_rfl
theorem dx.UI:lq dx.T7.2 dx.B7=true:=by kernel_rfl
theorem dx.calls {k:Nat} {iq:Option Addr} {ig:Nat} {dH:List ByteArray} {fA:ByteArray} {kv:Option Addr} {jI:Nat} {eZ:List (List Int)} {jX:Option Addr} {jF:Nat} {fG:List Int} {r:ByteArray} {w:World} (yG:Kd.C Kd.string w iq dH.length dH) (yH:dH.length≤ig) (yI:Kd.C (Kd.slice 3 (Kd.int .i64)) w kv eZ.length eZ) (yJ:eZ.length≤jI) (yK:Kd.C (Kd.int .i64) w jX fG.length fG) (yL:fG.length≤jF) (hG:GT w) (h:dx.f k dH fA eZ fG=some r):
  Calls Tryz.prog 6 #[.agg #[.slice iq dH.length ig,.string fA,.slice kv eZ.length jI,.slice jX fG.length jF]] w fun e w'=>e=.returned (.string r)∧Below w.heap.size w w':=by
 have HG:=jC hG;clear hG;have NB:=Tryz.underlying28;have zo:=jC yG;have H7:=jC yH;clear yG yH;have zn:=jC yI;have Ah:=jC yJ;clear yI yJ;have DD:=jC yK;have Cf:=jC yL;clear yK yL;have HB:=jC (Below.refl w.heap.size w);have H:=h;clear h;unfold dx.f at H;obtain ⟨aI7,A2,H⟩:=bd H
 replace H:=iB H;obtain ⟨rfl,H⟩|⟨rfl,H⟩:=H
 ·obtain rfl:=Option.some.inj H;go_enter Tryz.func6,Tryz.ntmps6
  go_wp2_with (first|((with_reducible refine aG (N:=1) rfl ?_);refine bE 1 #[.slice iq dH.length ig,.string fA,.slice kv eZ.length jI,.slice jX fG.length jF] 28 (h:=?_);intro nu hg wC hbox hb;have n_:=Z57;clear HB;obtain ⟨HB,dW,amZ⟩:=n_;clear hb hbox hg;obtain ⟨_,_,_,_,_,_,_,_⟩:=cz dW.o)|(refine gR 7 Tryz.func8 #[.agg #[.slice iq dH.length ig,.string fA,.slice kv eZ.length jI,.slice jX fG.length jF]] (eY.calls ?ai ?aj ?fI ?gV ?nz ?tN A2.o) (h:=?_);(case ai=>exact D8);(case aj=>exact wT);(case fI=>exact abw);(case gV=>exact Ah.o);(case nz=>exact ai6);(case tN=>exact Cf.o);intro wq2 hb;have lg:=jC (ae wR hb);clear dW;clear HB;have HB:=lg;clear lg))
  go_ret;exact ⟨fT,wR⟩
 obtain ⟨Yn,A4,H⟩:=bd H;obtain ⟨Kv,aaR,H⟩:=yB H;obtain ⟨c5,H⟩:=nD H;have aqW:=jC c5;clear c5;generalize hyy:(Yn++Kv)=ahP at H;have aI8:=jC hyy.symm;clear hyy;generalize hyy:(([ahP]:List (List ByteArray)))=aU7 at H;have apJ:=jC hyy.symm;clear hyy;have H':=jC H;clear H;go_enter Tryz.func6,Tryz.ntmps6
 try go_wp2_with (first|((with_reducible refine aG (N:=1) rfl ?_);refine bE 1 #[.slice iq dH.length ig,.string fA,.slice kv eZ.length jI,.slice jX fG.length jF] 28 (h:=?_);intro nu hg w6 hbox hb;have n_:=Z57;clear HB;obtain ⟨HB,dW,amZ⟩:=n_;clear hb hbox hg;obtain ⟨_,_,_,_,_,_,_,_⟩:=cz dW.o)|(refine gR 7 Tryz.func8 #[.agg #[.slice iq dH.length ig,.string fA,.slice kv eZ.length jI,.slice jX fG.length jF]] (eY.calls ?ai ?aj ?fI ?gV ?nz ?tN A2.o) (h:=?_);(case ai=>exact D8);(case aj=>exact wT);(case fI=>exact abw);(case gV=>exact Ah.o);(case nz=>exact ai6);(case tN=>exact Cf.o);intro w8 hb;have n_:=jA (dE dW hb) (jC (ae wR hb));clear dW HB;obtain ⟨dW,HB⟩:=n_))
 have n_:=jA (ib dW.o) (jC (aU HB.o));clear dW HB;obtain ⟨dW,HB⟩:=n_;refine iZ (n:=9) (S:=fun w'=>w'.cell? ⟨nu,0,none⟩=some (.slice iq dH.length ig)∧w'.cell? ⟨nu,1,none⟩=some (.string fA)∧w'.cell? ⟨nu,2,none⟩=some (.slice kv eZ.length jI)∧w'.cell? ⟨nu,3,none⟩=some (.slice jX fG.length jF)) (ds:=[]) (qM 9 0) bD rfl (by kernel_rfl) ⟨bc dW 0,bc dW 1,bc dW 2,bc dW 3⟩ (fun hHeld=>?_);refine fZ dx.NH dx.EI (fun HT_ HW_=>?_);generalize w8.drew=w9 at dW HB hHeld ⊢;refine rP 0 (h:=?_);refine rP 3 (h:=?_);refine FN 1 hHeld (h:=?_);refine FN 4 hHeld (h:=?_);refine Gh (σ:=Value × Value) 3 (qM 9 63) (fun s_=> [(11,s_.1),(14,s_.2)]) (fun s_ w'=>(w'.cell? ⟨nu,0,none⟩=some (.slice iq dH.length ig)∧w'.cell? ⟨nu,1,none⟩=some (.string fA)∧w'.cell? ⟨nu,2,none⟩=some (.slice kv eZ.length jI)∧w'.cell? ⟨nu,3,none⟩=some (.slice jX fG.length jF))∧(Kd.R Kd.string 9 w' w.heap.size (fun k_=>some k_≠(s_.2:Value).ownBlock) s_.1 Yn)∧(Kd.R Kd.string 9 w' w.heap.size (fun k_=>some k_≠(s_.1:Value).ownBlock) s_.2 Kv)∧(w'.heap[nu]?=some (.cells #[.slice iq dH.length ig,.string fA,.slice kv eZ.length jI,.slice jX fG.length jF] 28 (0,0)))∧(Below w.heap.size w w')) ?_ ?_;rotate_left
 ·intro hCont;refine Ij (i:=2) (j:=5) (Ni:=some 11) (Nj:=some 14) (qM 9 31) (qM 9 59) rfl rfl rfl rfl (wW HT_.o bD) au au (fun K hK=>?_) (fun K hK=>?_)
  ·skip
   refine lY Tryz.func17 bD rfl #[.slice iq dH.length ig] ek rfl rfl ql ?_
   with_reducible refine (aT.calls ?ai ?aj A4.o).mono ?_
   (case ai=>exact D8)
   (case aj=>exact wT)
   rintro e w10 ⟨Yo,rfl,ho0,hb⟩;refine ⟨_,rfl,?_⟩;have n_:=jA (Kd.dC ho0 (ah wR)) (jA (dE dW hb) (jC (ae wR hb)));clear dW HB;obtain ⟨KW,dW,HB⟩:=n_;(try clear hb);(try clear hb2);(try clear hk);(try clear hi);(try clear ho0);refine hK.out _ _ ⟨bc dW 0,bc dW 1,bc dW 2,bc dW 3⟩ (fun hHeld=>?_);clear hK K;refine rN (h:=?_);refine rO 5 (h:=fun K hK=>?_);refine Kd.gJ Kd.string _ 9 ?hg (N:=14) ?hd (xs:=([fA]:List ByteArray)) (inner:=[.string fA]) (ok:=fun _=>True) (okp:=fun _=>True) ?hr ?hp rE trivial (Below.refl _ _) (Nat.le_refl _) gQ ?_;(case hd=>rfl);(case hg=>rfl);(case hr=>exact kz);(case hp=>exact GX);intro acy w11 C_ hb hg_ hnew_;clear hg_ hnew_;(first|rw[←aaR.o] at C_|(simp only[Int.reduceToNat] at C_;rw[←aaR.o] at C_));have n_:=jA (Kd.gq aqJ (Kd.dJ C_) hb) (jA (Kd.dC (Kd.jh C_ (Kd.iY aqJ)) (ah wR)) (jA (dE dW hb) (jC (ae wR hb))));clear KW dW HB;obtain ⟨KW,DJ,dW,HB⟩:=n_;clear hb C_;refine hK.out _ _ ⟨bc dW 0,bc dW 1,bc dW 2,bc dW 3⟩ (fun hHeld=>?_);clear hK K;refine rN (h:=?_);exact oC zG (hCont (Yo,acy) _ ⟨hHeld,ax2,ax1,Xf,wR⟩)
  skip
  refine Kd.gJ Kd.string _ 9 ?hg (N:=14) ?hd (xs:=([fA]:List ByteArray)) (inner:=[.string fA]) (ok:=fun _=>True) (okp:=fun _=>True) ?hr ?hp rE trivial (Below.refl _ _) (Nat.le_refl _) gQ ?_;(case hd=>rfl);(case hg=>rfl);(case hr=>exact kz);(case hp=>exact GX);intro acy w10 FR hb hg_ hnew_;clear hg_ hnew_;(first|rw[←aaR.o] at FR|(simp only[Int.reduceToNat] at FR;rw[←aaR.o] at FR));have n_:=jA (Kd.dC FR (ah wR)) (jA (dE dW hb) (jC (ae wR hb)));clear dW HB;obtain ⟨DJ,dW,HB⟩:=n_;clear hb FR;refine hK.out _ _ ⟨bc dW 0,bc dW 1,bc dW 2,bc dW 3⟩ (fun hHeld=>?_);clear hK K;refine rN (h:=?_);refine rO 2 (h:=fun K hK=>?_);refine lY Tryz.func17 bD rfl #[.slice iq dH.length ig] ek rfl rfl ql ?_
  with_reducible refine (aT.calls ?ai ?aj A4.o).mono ?_
  (case ai=>exact D8)
  (case aj=>exact wT)
  rintro e Q9 ⟨Yo,rfl,ho0,hb⟩;refine ⟨_,rfl,?_⟩;have n_:=jA (Kd.gq ajk (Kd.dJ ho0) hb) (jA (Kd.dC (Kd.jh ho0 (Kd.iY ajk)) (ah wR)) (jA (dE dW hb) (jC (ae wR hb))));clear DJ dW HB;obtain ⟨DJ,KW,dW,HB⟩:=n_;(try clear hb);(try clear hb2);(try clear hk);(try clear hi);(try clear ho0);refine hK.out _ _ ⟨bc dW 0,bc dW 1,bc dW 2,bc dW 3⟩ (fun hHeld=>?_);clear hK K;refine rN (h:=?_);exact oC zG (hCont (Yo,acy) _ ⟨hHeld,ax2,ax1,Xf,wR⟩)
 rintro ⟨Yo,acy⟩ Y9 ⟨hS_,Ik,Il,Gi,Im⟩;have lg:aa (Kd.R Kd.string 9 Y9 w.heap.size (fun k_=>some k_≠(acy:Value).ownBlock) Yo Yn):=⟨Ik⟩;have ma:aa (Kd.R Kd.string 9 Y9 w.heap.size (fun k_=>some k_≠(Yo:Value).ownBlock) acy Kv):=⟨Il⟩;have mf:aa (Y9.heap[nu]?=some (.cells #[.slice iq dH.length ig,.string fA,.slice kv eZ.length jI,.slice jX fG.length jF] 28 (0,0))):=⟨Gi⟩;have mg:aa (Below w.heap.size w Y9):=⟨Im⟩;clear dW;clear HB;clear Ik Il Gi Im;have KW:=lg;have DJ:=ma;have dW:=mf;have HB:=mg;clear lg ma mf mg;have hHeld:Y9.cell? ⟨nu,0,none⟩=some (.slice iq dH.length ig)∧Y9.cell? ⟨nu,1,none⟩=some (.string fA)∧Y9.cell? ⟨nu,2,none⟩=some (.slice kv eZ.length jI)∧Y9.cell? ⟨nu,3,none⟩=some (.slice jX fG.length jF):=hS_;obtain ⟨Pb,LM,UV⟩:=Kd.bR DJ.o;(first|subst UV|(injection UV with lM qz lN;have qA:=lM.symm;have qC:=lN.symm;clear lM qz lN;subst qA;subst qC));refine oC (a':=?_) ?_ ?_;rotate_left
 ·simp only[wS,Act.put,List.setIfInBounds_toArray,List.set_cons_zero,List.set_cons_succ]
  rfl
 refine rO 6 (h:=fun K hK=>?_);refine Kd.fD Kd.string (w0:=w) w.heap.size ek (.tmp 11) (.tmp 14) 24 9 (.string ⟨#[]⟩) 16 rfl Tryz.underlying24 l_ rfl au bG Yo Yn Kv _ _ _ (fun k_=>some k_≠(.slice Pb Kv.length LM:Value).ownBlock) (fun _=>False) rfl rfl ?aO ?aR (fun _ _ h=>h) (fun _ h=>h.elim) ?aF ?aB ?aS ?aL ?_
 (case aR=>repeat (first|exact (Kd.a_ DJ.o).2.2|(with_reducible refine Kd.dF ?_ _)|(with_reducible refine Kd.dG ?_ _)|(with_reducible refine Kd.eQ ?_)))
 (case aB=>exact aqd)
 (case aF=>exact (fun k_ hk=>Kd.fresh' (Kd.iY ajk) k_ hk))
 (case aO=>exact aqJ)
 (case aS=>exact aqc)
 (case aL=>exact Xh)
 intro a6d Xi ho hb hg hat;rw[←aI8.o] at ho;have n_:=jA (kQ dW hg (Kd.lJ KW.o dW.o au)) (jA (Kd.uN (ok:=(fun _=>True)) (by refine pR ?_;exact Kd.aD DJ.o (fun _ hk=>⟨trivial,hk⟩)) hg hat) (jA (hb) (jC (ho))));clear dW DJ HB KW;obtain ⟨dW,DJ,HB,aaS⟩:=n_;clear ho hb hg hat;obtain ⟨XN,XO,acf⟩:=Kd.bR aaS.o;(first|subst acf|(injection acf with lM qz lN;have qA:=lM.symm;have qC:=lN.symm;clear lM qz lN;subst qA;subst qC));refine hK.out _ _ ⟨bc dW 0,bc dW 1,bc dW 2,bc dW 3⟩ (fun hHeld=>?_);clear hK K;refine rN (h:=?_);refine rO 7 (h:=fun K hK=>?_);refine Kd.xI (Kd.slice 9 Kd.string) _ 24 ?hg (N':=16) ?hd (xs:=([ahP]:List (List ByteArray))) (inner:=[.slice XN ahP.length XO]) (ok:=(fun k_=>some k_≠(.slice Pb Kv.length LM:Value).ownBlock∧k_≠nu)) (okp:=(fun k_=>some k_≠(.slice Pb Kv.length LM:Value).ownBlock∧k_≠nu)) ?hr ?hp rE ((show ∀k_,Xi.heap.size≤k_→(fun k_=>some k_≠(.slice Pb Kv.length LM:Value).ownBlock∧k_≠nu) k_ from fun k_ hk=>⟨Kd.fresh' (Kd.iY ajk) k_ hk,Kd.kg (g:=nu) (o:=.cells #[.slice iq dH.length ig,.string fA,.slice kv eZ.length jI,.slice jX fG.length jF] 28 (0,0)) Xf k_ hk⟩) _ (Nat.le_refl _)) (Below.refl _ _) (Nat.le_refl _) gQ ?_;(case hd=>rfl);(case hg=>rfl);(case hr=>exact kz);(case hp=>exact (d_.one (show Kd.FK (Kd.slice 9 Kd.string) _ _ ahP [.slice XN ahP.length XO] from (Kd.sJ (Kd.a_ (Kd.aD (ok':=(fun k_=>some k_≠(.slice Pb Kv.length LM:Value).ownBlock∧k_≠nu)) (Kd.iW (aaS.o) dW.o au) (fun k_ hk=>⟨hk.1,hk.2⟩))).2.1 (Kd.R_F (Kd.aD (ok':=(fun k_=>some k_≠(.slice Pb Kv.length LM:Value).ownBlock∧k_≠nu)) (Kd.iW (aaS.o) dW.o au) (fun k_ hk=>⟨hk.1,hk.2⟩))))) (d_.none _ _)));intro a6e w17 LX hb hg_ hnew_;clear hg_ hnew_;(first|rw[←apJ.o] at LX|(simp only[Int.reduceToNat] at LX;rw[←apJ.o] at LX));have n_:=jA (Kd.qP LX (ah wR)) (jA (dE dW hb) (jC (ae wR hb)));clear DJ dW HB aaS;obtain ⟨aI9,dW,HB⟩:=n_;clear hb LX;refine hK.out _ _ ⟨bc dW 0,bc dW 1,bc dW 2,bc dW 3⟩ (fun hHeld=>?_);clear hK K;refine rN (h:=?_);refine rP 8 (h:=?_);refine kT (jv HT_.o bD) ?_;obtain ⟨_,_,_,_,_,_,_,_⟩:=cz dW.o
 try go_wp2
 go_loopg [3,20] k (fun kq v3 v20 w'=>∃(lK:List (List ByteArray)) (Gv:Int),v20=.int .i64 Gv∧aa (dx.l0 kq lK eZ (eZ.length:Int) Gv dH fA eZ fG=some r)∧aa (kq≤k)∧aa (Kd.N (Kd.slice 9 Kd.string) 24 w' w.heap.size (fun k_=>k_≠nu) v3 lK)∧aa (w'.heap[nu]?=some (.cells #[(.slice iq dH.length ig),.string fA,(.slice kv eZ.length jI),(.slice jX fG.length jF)] 28 (0,0)))∧aa (Below w.heap.size w w'))
 case atStart=>exact ⟨(aU7),(0),bT,H',⟨Nat.le_refl _⟩,⟨by refine pN ?_;exact Kd.fE aI9.o mV⟩,⟨Xf⟩,⟨wR⟩⟩
 case round=>
  clear H';obtain ⟨lK,Gv,rfl,HA,rF,lv,dW,HB⟩:=hrel
  cases gk with
  |zero=>exact absurd HA.o (by simp [dx.l0])
  |succ k1=>
   have H:=HA.o;clear HA;simp only[dx.l0] at H
   replace H:=iD H;obtain ⟨yN,-,H⟩|⟨yN,-,H⟩:=H
   ·obtain ⟨aI6,A40,H⟩:=bd H;obtain rfl:=Option.some.inj H;obtain ⟨Vn,Vo,RP⟩:=Kd.nA lv.o;subst RP
    go_wp2_with (first|(refine gR 40 Tryz.func20 #[.slice Vn lK.length Vo] (fJ.calls ?ai ?aj A40.o) (h:=?_);(case ai=>exact axq);(case aj=>exact (Kd.iK lv.o).2.1);intro wC hb;have lg:=jC (ae wR hb);clear lv;clear dW;clear HB;have HB:=lg;clear lg))
    go_ret;exact ⟨fT,wR⟩
   obtain ⟨Ii,-,H⟩:=l5 H;obtain ⟨aoB,-,H⟩:=l5 H;obtain ⟨ahN,A23,H⟩:=bd H;obtain ⟨ank,-,H⟩:=l5 H;obtain ⟨acx,A25,H⟩:=bd H;obtain ⟨G9,apK,H⟩:=yB H;obtain ⟨c26,H⟩:=nD H;have aJa:=jC c26;clear c26;generalize hyy:(ahN++G9)=al6 at H;have aJb:=jC hyy.symm;clear hyy;obtain ⟨ahO,apL,H⟩:=yB H;obtain ⟨c27,H⟩:=nD H;have aJc:=jC c27;clear c27;generalize hyy:(lK++ahO)=aU8 at H;have aJd:=jC hyy.symm;clear hyy;have H':=jC H;clear H;obtain ⟨a6g,a6h,ahQ,avB,avC,aU9,SG,al7,al8⟩:=V8 zn.o Gv
   cases aU9
   replace SG:=(HB.o.cell (World.block_lt_of_cell? w _ SG)).trans SG
   try go_wp2
   have n_:=jA (Kd.JE lv.o) (jA (ib dW.o) (jC (aU HB.o)));clear lv dW HB;obtain ⟨lv,dW,HB⟩:=n_;obtain ⟨a6i,a6j,aaT,aVa,Jo⟩:=gI DD.o Gv;have uq:=Jo
   cases aVa
   replace Jo:=(HB.o.cell (World.block_lt_of_cell? w _ Jo)).trans Jo;refine iZ (n:=14) (S:=fun w'=>w'.cell? ⟨nu,0,none⟩=some (.slice iq dH.length ig)∧w'.cell? ⟨nu,1,none⟩=some (.string fA)∧w'.cell? ⟨nu,2,none⟩=some (.slice (some ahQ) eZ.length jI)∧w'.cell? ⟨nu,3,none⟩=some (.slice (some aaT) fG.length jF)∧w'.cell? (aaT.add (Gv).toNat)=some (.int .i64 (rd fG Gv))) (ds:=[]) (qM 14 0) bD rfl (by kernel_rfl) ⟨bc dW 0,bc dW 1,bc dW 2,bc dW 3,((HB.o.cell (World.block_lt_of_cell? w _ uq)).trans uq)⟩ (fun hHeld=>?_);refine fZ dx.aeY dx.UI (fun HT_ HW_=>?_);generalize wr.drew=w28 at lv dW HB Jo hHeld ⊢;refine rP 0 (h:=?_);refine rP 1 (h:=?_);refine rP 3 (h:=?_);refine rP 5 (h:=?_);refine WL 4 hHeld (h:=?_);refine rP 6 (h:=?_);refine WL 7 hHeld (h:=?_);refine rO 2 (h:=fun K hK=>?_);refine lY Tryz.func18 bD rfl #[.slice avB (gP eZ Gv).length avC] ek rfl rfl ql ?_
   with_reducible refine (jO.calls ?ai ?aj ?fI A23.o).mono ?_
   (case ai=>repeat (first|exact (Kd.kR al8.o HB.o)|(with_reducible refine Kd.dF ?_ _)|(with_reducible refine Kd.dG ?_ _)|(with_reducible refine Kd.eQ ?_)))
   (case aj=>exact al7.o)
   (case fI=>exact aw9)
   rintro e w29 ⟨aVb,rfl,ho0,hb⟩;refine ⟨_,rfl,?_⟩;have n_:=jA (Kd.jo Nf (Kd.dJ ho0) hb) (jA (Kd.dC ho0 (ah wR)) (jA (dE dW hb) (jC (ae wR hb))));clear lv dW HB;obtain ⟨lv,KZ,dW,HB⟩:=n_;(try clear hb);(try clear hb2);(try clear hk);(try clear hi);(try clear ho0);refine hK.out _ _ ⟨bc dW 0,bc dW 1,bc dW 2,bc dW 3,((HB.o.cell (World.block_lt_of_cell? w _ uq)).trans uq)⟩ (fun hHeld=>?_);clear hK K;refine rN (h:=?_);refine rO 8 (h:=fun K hK=>?_);refine lY Tryz.func19 bD rfl #[.int .i64 (rd fG Gv)] ek rfl rfl ql ?_
   with_reducible refine (jH.calls ?ai A25.o).mono ?_
   (case ai=>exact aw9)
   rintro e w30 ⟨rfl,hb⟩;refine ⟨_,rfl,?_⟩;have n_:=jA (Kd.kD Nf hb) (jA (Kd.bX aqI hb) (jA (dE dW hb) (jC (ae wR hb))));clear lv KZ dW HB;obtain ⟨lv,KZ,dW,HB⟩:=n_;(try clear hb);(try clear hb2);(try clear hk);(try clear hi);refine hK.out _ _ ⟨bc dW 0,bc dW 1,bc dW 2,bc dW 3,((HB.o.cell (World.block_lt_of_cell? w _ uq)).trans uq)⟩ (fun hHeld=>?_);clear hK K;refine rN (h:=?_);refine rO 9 (h:=fun K hK=>?_);refine Kd.gJ Kd.string _ 9 ?hg (N:=34) ?hd (xs:=([acx]:List ByteArray)) (inner:=[.string acx]) (ok:=fun _=>True) (okp:=fun _=>True) ?hr ?hp rE trivial (Below.refl _ _) (Nat.le_refl _) gQ ?_;(case hd=>rfl);(case hg=>rfl);(case hr=>exact kz);(case hp=>exact (d_.one (show Kd.M Kd.string _ _ _ acx [.string acx] from rfl) (d_.none _ _)));intro a6k w31 Yp hb hg_ hnew_;clear hg_ hnew_;(first|rw[←apK.o] at Yp|(simp only[Int.reduceToNat] at Yp;rw[←apK.o] at Yp));have n_:=jA (Kd.jo Nf (Kd.dJ Yp) hb) (jA (Kd.gq aqI (Kd.dJ Yp) hb) (jA (Kd.dC (Kd.jh Yp (Kd.iY aqI)) (ah wR)) (jA (dE dW hb) (jC (ae wR hb)))));clear lv KZ dW HB;obtain ⟨lv,KZ,KY,dW,HB⟩:=n_;clear hb Yp;obtain ⟨LP,LQ,aj9⟩:=Kd.bR KY.o;(first|subst aj9|(injection aj9 with lM qz lN;have qA:=lM.symm;have qC:=lN.symm;clear lM qz lN;subst qA;subst qC));refine hK.out _ _ ⟨bc dW 0,bc dW 1,bc dW 2,bc dW 3,((HB.o.cell (World.block_lt_of_cell? w _ uq)).trans uq)⟩ (fun hHeld=>?_);clear hK K;refine rN (h:=?_);refine rO 10 (h:=fun K hK=>?_);refine Kd.fD Kd.string (w0:=w) w.heap.size ek (.tmp 27) (.tmp 34) 24 9 (.string ⟨#[]⟩) 16 rfl Tryz.underlying24 l_ rfl au bG aVb ahN G9 _ _ _ (fun k_=>some k_≠(.slice LP G9.length LQ:Value).ownBlock) (fun _=>False) rfl rfl ?aO ?aR (fun _ _ h=>h) (fun _ h=>h.elim) ?aF ?aB ?aS ?aL ?_
   (case aR=>repeat (first|exact (Kd.a_ KY.o).2.2|(with_reducible refine Kd.dF ?_ _)|(with_reducible refine Kd.dG ?_ _)|(with_reducible refine Kd.eQ ?_)))
   (case aB=>exact aqd)
   (case aF=>exact (fun k_ hk=>Kd.fresh' (Kd.iY adK) k_ hk))
   (case aO=>exact (by refine pR ?_;exact Kd.aD KZ.o mV))
   (case aS=>exact aqc)
   (case aL=>have:=aJa.o;omega)
   intro a6l w33 ho hb hg hat;rw[←aJb.o] at ho;have n_:=jA (Kd.su (ok:=(fun k_=>some k_≠(.slice LP G9.length LQ:Value).ownBlock∧k_≠nu)) (by refine pN ?_;exact Kd.fE lv.o (fun _ hk=>⟨⟨hk.2,hk.1.1⟩,hk.1.2⟩)) hg hat) (jA (kQ dW hg (Kd.lJ KZ.o dW.o au)) (jA (Kd.uN (ok:=(fun _=>True)) adK hg hat) (jA (hb) (jC (ho)))));clear lv dW KY HB KZ;obtain ⟨lv,dW,KY,HB,aaU⟩:=n_;clear ho hb hg hat;obtain ⟨VB,z8,RV⟩:=Kd.bR aaU.o;(first|subst RV|(injection RV with lM qz lN;have qA:=lM.symm;have qC:=lN.symm;clear lM qz lN;subst qA;subst qC));refine hK.out _ _ ⟨bc dW 0,bc dW 1,bc dW 2,bc dW 3,((HB.o.cell (World.block_lt_of_cell? w _ uq)).trans uq)⟩ (fun hHeld=>?_);clear hK K;refine rN (h:=?_);refine rO 11 (h:=fun K hK=>?_);refine Kd.xI (Kd.slice 9 Kd.string) _ 24 ?hg (N':=36) ?hd (xs:=([al6]:List (List ByteArray))) (inner:=[.slice VB al6.length z8]) (ok:=(fun k_=>some k_≠(u3:Value).ownBlock∧some k_≠(.slice LP G9.length LQ:Value).ownBlock∧k_≠nu)) (okp:=(fun k_=>some k_≠(u3:Value).ownBlock∧some k_≠(.slice LP G9.length LQ:Value).ownBlock∧k_≠nu)) ?hr ?hp rE ((show ∀k_,w33.heap.size≤k_→(fun k_=>some k_≠(u3:Value).ownBlock∧some k_≠(.slice LP G9.length LQ:Value).ownBlock∧k_≠nu) k_ from fun k_ hk=>⟨Kd.fresh' (Kd.BO Nf) k_ hk,Kd.fresh' (Kd.iY adK) k_ hk,Kd.kg (g:=nu) (o:=.cells #[.slice iq dH.length ig,.string fA,.slice (some ahQ) eZ.length jI,.slice (some aaT) fG.length jF] 28 (0,0)) Xf k_ hk⟩) _ (Nat.le_refl _)) (Below.refl _ _) (Nat.le_refl _) gQ ?_;(case hd=>rfl);(case hg=>rfl);(case hr=>exact kz);(case hp=>exact (d_.one (show Kd.FK (Kd.slice 9 Kd.string) _ _ al6 [.slice VB al6.length z8] from (Kd.sJ (Kd.a_ (Kd.aD (ok':=(fun k_=>some k_≠(u3:Value).ownBlock∧some k_≠(.slice LP G9.length LQ:Value).ownBlock∧k_≠nu)) (Kd.iW (Kd.ji (aaU.o) (Kd.m_ lv.o) au) dW.o au) (fun k_ hk=>⟨hk.1.2,⟨hk.1.1,hk.2⟩⟩))).2.1 (Kd.R_F (Kd.aD (ok':=(fun k_=>some k_≠(u3:Value).ownBlock∧some k_≠(.slice LP G9.length LQ:Value).ownBlock∧k_≠nu)) (Kd.iW (Kd.ji (aaU.o) (Kd.m_ lv.o) au) dW.o au) (fun k_ hk=>⟨hk.1.2,⟨hk.1.1,hk.2⟩⟩))))) (d_.none _ _)));intro a6m w36 LW hb hg_ hnew_;clear hg_ hnew_;(first|rw[←apL.o] at LW|(simp only[Int.reduceToNat] at LW;rw[←apL.o] at LW));have n_:=jA (Kd.jo Nf (Kd.wK LW) hb) (jA (Kd.bX adK hb) (jA (Kd.qP LW (ah wR)) (jA (dE dW hb) (jC (ae wR hb)))));clear lv KY dW HB aaU;obtain ⟨lv,KY,ahR,dW,HB⟩:=n_;clear hb LW;obtain ⟨auF,alB,alC⟩:=Kd.nA ahR.o;(first|subst alC|(injection alC with lM qz lN;have qA:=lM.symm;have qC:=lN.symm;clear lM qz lN;subst qA;subst qC));refine hK.out _ _ ⟨bc dW 0,bc dW 1,bc dW 2,bc dW 3,((HB.o.cell (World.block_lt_of_cell? w _ uq)).trans uq)⟩ (fun hHeld=>?_);clear hK K;refine rN (h:=?_);refine rO 12 (h:=fun K hK=>?_);refine Kd.qw (Kd.slice 9 Kd.string) (w0:=w) w.heap.size ek (.tmp 25) (.tmp 36) 42 24 (.slice none 0 0) 24 rfl Tryz.underlying42 JK rfl au bG u3 lK ahO _ _ _ (fun k_=>some k_≠(.slice LP G9.length LQ:Value).ownBlock∧k_≠nu) (fun k_=>((fun k_=>some k_≠(.slice LP G9.length LQ:Value).ownBlock∧k_≠nu)) k_∧some k_≠(u3:Value).ownBlock) rfl rfl ?aO ?aR rE ?aF ?aB ?aS ?aL ?_
   (case aR=>exact (by skip;exact Kd.N_F (Kd.fE (ok':=(fun k_=>((fun k_=>some k_≠(.slice LP G9.length LQ:Value).ownBlock∧k_≠nu)) k_∧some k_≠(u3:Value).ownBlock)) (ahR.o) (fun k_ hk=>⟨⟨hk.2.1,hk.2.2⟩,hk.1⟩))))
   (case aB=>exact aqd)
   (case aF=>exact (fun k_ hk=>⟨Kd.fresh' (Kd.iY adK) k_ hk,Kd.kg (g:=nu) (o:=.cells #[.slice iq dH.length ig,.string fA,.slice (some ahQ) eZ.length jI,.slice (some aaT) fG.length jF] 28 (0,0)) Xf k_ hk⟩))
   (case aO=>exact axz)
   (case aS=>exact aqc)
   (case aL=>have:=aJc.o;omega)
   intro a6n S_ ho hb hg hat;rw[←aJd.o] at ho;have n_:=jA (kQ dW hg (Kd.Ea lv.o dW.o au)) (jA (hb) (jC (ho)));clear dW KY ahR HB lv;obtain ⟨dW,HB,aJe⟩:=n_;clear ho hb hg hat;refine hK.out _ _ ⟨bc dW 0,bc dW 1,bc dW 2,bc dW 3,((HB.o.cell (World.block_lt_of_cell? w _ uq)).trans uq)⟩ (fun hHeld=>?_);clear hK K;refine rN (h:=?_);refine rP 13 (h:=?_);refine kT (jv HT_.o bD) ?_
   try go_wp2
   go_roundg k1
   case measure=>have:=rF.o;omega
   case rel=>exact ⟨(aU8),(wrap64 (Gv+1)),bT,H',⟨vE⟩,⟨by refine pN ?_;exact Kd.fE aJe.o mV⟩,⟨Xf⟩,⟨wR⟩⟩
def dw.f (a0:Int) (a1:Int) (a2:Int):Option (Bool):=if a0≥a1 then (some (decide (a0≤a2))) else (some false)
theorem dw.calls {a0:Int} {a1:Int} {a2:Int} {r:Bool} {w:World} (h:dw.f a0 a1 a2=some r):
  Calls Tryz.prog 47 #[.int .i64 a0,.int .i64 a1,.int .i64 a2] w fun e w'=>e=.returned (.bool r)∧iI w w':=by
 have H:=h;clear h;unfold dw.f at H
 replace H:=jD H;obtain ⟨qo,-,H⟩|⟨qo,-,H⟩:=H
 ·obtain rfl:=Option.some.inj H;go_enter Tryz.func47,Tryz.ntmps47
  go_wp2
  go_ret;exact ⟨bT,jR⟩
 obtain rfl:=Option.some.inj H;go_enter Tryz.func47,Tryz.ntmps47
 go_wp2
 go_ret;exact ⟨bT,jR⟩
end
section
set_option maxHeartbeats 8000000
set_option maxRecDepth 100000
mutual
def bH.j0:Nat→ByteArray→Bool→Option (Bool)
 |0,_,_=>none
 |k+1,x0,x12=>if x12=true then (some false) else (bH.l0 k x0 0)
def bH.l0:Nat→ByteArray→Int→Option (Bool)
 |0,_,_=>none
 |k+1,x0,x3=>if x3<(x0.size:Int) then (if 0≤x3 then ((dw.f (wrap64 (bt x0 x3)) 97 122).bind fun aJf=>(if aJf=true then (bH.l0 k x0 (wrap64 (x3+1))) else ((dw.f (wrap64 (bt x0 x3)) 48 57).bind fun aJg=>(if aJg=true then (bH.l0 k x0 (wrap64 (x3+1))) else (some false))))) else (none)) else (some true)
end
def bH.f (k:Nat) (a0:ByteArray):Option (Bool):=(dw.f (a0.size:Int) 1 12).bind fun aJh=>(if aJh=true then (if 0<(a0.size:Int) then (bH.j0 k a0 (decide ((bt a0 0)<97))) else (none)) else (bH.j0 k a0 true))
theorem bH.calls {k:Nat} {a0:ByteArray} {r:Bool} {w:World} (h:bH.f k a0=some r):
  Calls Tryz.prog 49 #[.string a0] w fun e w'=>e=.returned (.bool r)∧iI w w':=by
 have H:=h;clear h;unfold bH.f at H;have HC2:=jC H;clear H;go_enter Tryz.func49,Tryz.ntmps49
 go_upto_region 1 with (fail)
 go_cut [12] (fun v12 wc=>∃(kq:Nat) (ahS:Bool),v12=.bool ahS∧aa (bH.j0 kq a0 ahS=some r)∧aa (kq≤k)∧iI w wc)
 case first=>
  have H:=HC2.o;clear HC2;obtain ⟨aJh,A3,H⟩:=bd H
  replace H:=iB H;obtain ⟨rfl,H⟩|⟨rfl,H⟩:=H
  ·have H':=jC H;clear H
   go_wp2_with (first|(refine gR 6 Tryz.func47 #[.int .i64 (a0.size:Int),.int .i64 1,.int .i64 12] (dw.calls A3.o) (h:=?_);rintro w' ⟨nd,rfl⟩))
   go_meet
   case rel=>exact ⟨_,(true),bT,H',⟨Au⟩,jR⟩
  obtain ⟨oZ,c5,H⟩:=l5 H;have GY:decide (0<a0.size)=true:=rM bG;clear c5;(first|rw[oZ]|(simp only[jT,kS];rw[oZ])|skip);have H':=jC H;clear H
  go_wp2_with (first|(refine gR 6 Tryz.func47 #[.int .i64 (a0.size:Int),.int .i64 1,.int .i64 12] (dw.calls A3.o) (h:=?_);rintro w' ⟨nd,rfl⟩;have p6:0≤(0:Int):=bG;have q6:0<a0.size:=(by have:(0:Int)<(a0.size:Int):=oT bL;omega);have hx6:∀h:0<a0.size,((a0[0]'h).toNat:Int)=bt a0 0:=d9 a0 0;clear p6;have qi6:(0<(a0.size:Int))=True:=fO (oT bL);replace q6:=fO q6))
  go_meet
  case rel=>exact ⟨_,(decide ((bt a0 0)<97)),bT,H',⟨Au⟩,jR⟩
 case rest=>
  clear HC2
  try clear hx6
  obtain ⟨kq,ahS,rfl,HA,YU,⟨mc1,rfl⟩⟩:=hcut
  cases kq with
  |zero=>exact absurd HA.o (by simp [bH.j0])
  |succ kj1=>
   have H:=HA.o;clear HA;simp only[bH.j0] at H
   replace H:=jB H;obtain ⟨rfl,G⟩|⟨rfl,G⟩:=H
   ·have H:=G;clear G;obtain rfl:=Option.some.inj H
    go_wp2
    go_ret;exact ⟨bT,jR⟩
   have H:=G;clear G;have H':=jC H;clear H
   go_wp2
   go_loopg [3] kj1 (fun kq v3 w'=>∃(tL:Int),v3=.int .i64 tL∧aa (bH.l0 kq a0 tL=some r)∧aa (kq≤kj1)∧iI w w')
   case atStart=>exact ⟨(0),bT,H',⟨Nat.le_refl _⟩,jR⟩
   case round=>
    clear H'
    try clear hx6
    obtain ⟨tL,rfl,HA,vD,⟨m2,rfl⟩⟩:=hrel
    cases gk with
    |zero=>exact absurd HA.o (by simp [bH.l0])
    |succ k2=>
     have H:=HA.o;clear HA;simp only[bH.l0] at H
     replace H:=iD H;obtain ⟨vV,-,H⟩|⟨vV,-,H⟩:=H
     ·obtain rfl:=Option.some.inj H
      go_wp2
      go_ret;exact ⟨bT,jR⟩
     obtain ⟨G6,-,H⟩:=l5 H;obtain ⟨aJf,Q6,H⟩:=bd H
     replace H:=jB H;obtain ⟨rfl,H⟩|⟨rfl,H⟩:=H
     ·have H':=jC H;clear H;obtain ⟨p10,Zr⟩:=uw (s:=a0) (i:=tL);have Ro:=d9 a0 tL
      go_wp2_with (first|(refine gR 23 Tryz.func47 #[.int .i64 (wrap64 (bt a0 tL)),.int .i64 97,.int .i64 122] (dw.calls Q6.o) (h:=?_);rintro w' ⟨nd,rfl⟩))
      go_roundg k2
      case measure=>have:=YU.o;have:=vD.o;omega
      case rel=>exact ⟨(wrap64 (tL+1)),bT,H',⟨aqV⟩,jR⟩
     obtain ⟨aJg,A14,H⟩:=bd H
     replace H:=iB H;obtain ⟨rfl,H⟩|⟨rfl,H⟩:=H
     ·obtain rfl:=Option.some.inj H;obtain ⟨p10,Zr⟩:=uw (s:=a0) (i:=tL);have Ro:=d9 a0 tL
      go_wp2_with (first|(refine gR 23 Tryz.func47 #[.int .i64 (wrap64 (bt a0 tL)),.int .i64 97,.int .i64 122] (dw.calls Q6.o) (h:=?_);rintro w' ⟨nd,rfl⟩;have pq1:0≤(tL:Int):=oT bL;have qq1:tL<(a0.size:Int):=oT bL;have a6o:=d9 a0 tL;replace pq1:=fO pq1;replace qq1:=fO qq1)|(go_at_call 47;(with_reducible refine (dw.calls A14.o).mono ?_);rintro e w' ⟨rfl,⟨nd,rfl⟩⟩))
      go_ret;exact ⟨bT,jR⟩
     have H':=jC H;clear H;obtain ⟨p10,Zr⟩:=uw (s:=a0) (i:=tL);have Ro:=d9 a0 tL
     go_wp2_with (first|(refine gR 23 Tryz.func47 #[.int .i64 (wrap64 (bt a0 tL)),.int .i64 97,.int .i64 122] (dw.calls Q6.o) (h:=?_);rintro w' ⟨nd,rfl⟩;have p13:0≤(tL:Int):=oT bL;have q13:tL<(a0.size:Int):=oT bL;have ace:=d9 a0 tL;replace p13:=fO p13;replace q13:=fO q13)|(go_at_call 47;(with_reducible refine (dw.calls A14.o).mono ?_);rintro e w' ⟨rfl,⟨nd,rfl⟩⟩))
     go_roundg k2
     case measure=>have:=YU.o;have:=vD.o;omega
     case rel=>exact ⟨(wrap64 (tL+1)),bT,H',⟨aqV⟩,jR⟩
def fw.l0:Nat→List ByteArray→ByteArray→Int→Option (Bool)
 |0,_,_,_=>none
 |k+1,x0,x1,x5=>if x5<(x0.length:Int) then (if 0≤x5 then (if (jg ByteArray.empty x0 x5).toList=x1.toList then (some true) else (fw.l0 k x0 x1 (wrap64 (x5+1)))) else (none)) else (some false)
def fw.f (k:Nat) (l0:List ByteArray) (a1:ByteArray):Option (Bool):=fw.l0 k l0 a1 0
theorem fw.calls {k:Nat} {A0:Option Addr} {c0:Nat} {l0:List ByteArray} {a1:ByteArray} {r:Bool} {w:World} (hr0:Kd.C Kd.string w A0 l0.length l0) (hc0:l0.length≤c0) (h:fw.f k l0 a1=some r):
  Calls Tryz.prog 50 #[.slice A0 l0.length c0,.string a1] w fun e w'=>e=.returned (.bool r)∧iI w w':=by
 have t_:=jC hr0;have BI:=jC hc0;clear hr0 hc0;have H:=h;clear h;unfold fw.f at H;have H':=jC H;clear H;go_enter Tryz.func50,Tryz.ntmps50
 go_wp2
 go_loopg [5] k (fun kq v5 w'=>∃(dY:Int),v5=.int .i64 dY∧aa (fw.l0 kq l0 a1 dY=some r)∧aa (kq≤k)∧iI w w')
 case atStart=>exact ⟨(0),bT,H',⟨Nat.le_refl _⟩,jR⟩
 case round=>
  clear H';obtain ⟨dY,rfl,HA,rF,⟨m1,rfl⟩⟩:=hrel
  cases gk with
  |zero=>exact absurd HA.o (by simp [fw.l0])
  |succ k1=>
   have H:=HA.o;clear HA;simp only[fw.l0] at H
   replace H:=iD H;obtain ⟨rG,-,H⟩|⟨rG,-,H⟩:=H
   ·obtain rfl:=Option.some.inj H
    go_wp2
    go_ret;exact ⟨bT,jR⟩
   obtain ⟨qo,-,H⟩:=l5 H
   replace H:=jE H;obtain ⟨oZ,GY,-,H⟩|⟨oZ,GY,c5,H⟩:=H
   ·obtain rfl:=Option.some.inj H;obtain ⟨aVc,aVd,aJi,avD,al9⟩:=gS t_.o dY
    cases avD
    go_wp2
    go_ret;exact ⟨bT,jR⟩
   have H':=jC H;clear H;obtain ⟨aVc,aVd,aJi,avD,al9⟩:=gS t_.o dY
   cases avD
   go_wp2
   go_roundg k1
   case measure=>have:=rF.o;omega
   case rel=>exact ⟨(wrap64 (dY+1)),bT,H',⟨vE⟩,jR⟩
def f_.f (a0:Int):Option (Bool):=(dw.f a0 (-2147483647) 2147483647).bind fun aJj=>(some aJj)
theorem f_.calls {a0:Int} {r:Bool} {w:World} (h:f_.f a0=some r):
  Calls Tryz.prog 51 #[.int .i64 a0] w fun e w'=>e=.returned (.bool r)∧iI w w':=by
 have H:=h;clear h;unfold f_.f at H;obtain ⟨aJj,A2,H⟩:=bd H;obtain rfl:=Option.some.inj H;go_enter Tryz.func51,Tryz.ntmps51
 go_wp2_with (first|(refine gR 4 Tryz.func47 #[.int .i64 a0,.int .i64 (-2147483647),.int .i64 2147483647] (dw.calls A2.o) (h:=?_);rintro w' ⟨nd,rfl⟩))
 go_ret;exact ⟨bT,jR⟩
end
end Go.Proofs.YtkjbbnijhpldhaaGreatDoor.QFnTable
