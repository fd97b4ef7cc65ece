/- The machine side of FnTable: what each Go function that it reaches comes to. Conditions: none. -/
import Derived.Test.YtkjbbnijhpldhaaGreatDoorQFnTablex17
namespace Go.Proofs.YtkjbbnijhpldhaaGreatDoor.QFnTable
open Go.RowKit Go.Proofs.YtkjbbnijhpldhaaGreatDoorW.PrintWords Go.Proofs.YtkjbbnijhpldhaaGreatDoorW.PrintLast Go.Proofs.YtkjbbnijhpldhaaGreatDoorW.PrintMore
attribute [local go_sem] oq ou qN qO mr mD ow oz
set_option linter.unusedVariables false
set_option linter.unusedSimpArgs false
set_option maxHeartbeats 8000000
set_option maxRecDepth 100000
def stringslite_CutPrefix.f (a0:ByteArray) (a1:ByteArray):Option (ByteArray × Bool):=(stringslite_HasPrefix.f a0 a1).bind fun aBU=>(if aBU=true then (if 0≤(a1.size:Int) then (if (a1.size:Int)≤(a0.size:Int) then (some (a0.extract ((a1.size:Int):Int).toNat a0.size,true)) else (none)) else (none)) else (some (a0,false)))
theorem stringslite_CutPrefix.calls {a0:ByteArray} {a1:ByteArray} {r1:ByteArray} {r2:Bool} {w:World} (h:stringslite_CutPrefix.f a0 a1=some (r1,r2)):
  Calls Tryz.prog 98 #[.string a0,.string a1] w fun e w'=>e=.returned (.tuple #[.string r1,.bool r2])∧iI w w':=by
 have H:=h;clear h;unfold stringslite_CutPrefix.f at H;obtain ⟨aBU,A3,H⟩:=bd H
 replace H:=iB H;obtain ⟨rfl,H⟩|⟨rfl,H⟩:=H
 ·simp only[Option.some.injEq,Prod.mk.injEq] at H;obtain ⟨rfl,rfl⟩:=H;go_enter Tryz.func98,Tryz.ntmps98
  go_wp2_with (first|(refine gR 8 Tryz.func97 #[.string a0,.string a1] (stringslite_HasPrefix.calls A3.o) (h:=?_);rintro w' ⟨nd,rfl⟩))
  go_ret2;exact ⟨bT,jR⟩
 obtain ⟨c5,H⟩:=nD H;have oZ:=fO c5;have GY:=rM c5;clear c5;obtain ⟨c6,H⟩:=nD H;have vU:=fO c6;have Us:=rM c6;clear c6;simp only[Option.some.injEq,Prod.mk.injEq] at H;obtain ⟨rfl,rfl⟩:=H;go_enter Tryz.func98,Tryz.ntmps98
 go_wp2_with (first|(refine gR 8 Tryz.func97 #[.string a0,.string a1] (stringslite_HasPrefix.calls A3.o) (h:=?_);rintro w' ⟨nd,rfl⟩))
 go_ret2;exact ⟨bT,jR⟩
def strings_CutPrefix.f (a0:ByteArray) (a1:ByteArray):Option (ByteArray × Bool):=(stringslite_CutPrefix.f a0 a1).bind fun anT=>(some (anT.1,anT.2))
theorem strings_CutPrefix.calls {a0:ByteArray} {a1:ByteArray} {r1:ByteArray} {r2:Bool} {w:World} (h:strings_CutPrefix.f a0 a1=some (r1,r2)):
  Calls Tryz.prog 86 #[.string a0,.string a1] w fun e w'=>e=.returned (.tuple #[.string r1,.bool r2])∧iI w w':=by
 have H:=h;clear h;unfold strings_CutPrefix.f at H;obtain ⟨⟨a1O,a1P⟩,A3,H⟩:=bd H
 try dsimp only at H
 simp only[Option.some.injEq,Prod.mk.injEq] at H;obtain ⟨rfl,rfl⟩:=H;go_enter Tryz.func86,Tryz.ntmps86
 go_wp2_with (first|(refine gR 8 Tryz.func98 #[.string a0,.string a1] (stringslite_CutPrefix.calls A3.o) (h:=?_);rintro w' ⟨nd,rfl⟩))
 go_ret2;exact ⟨bT,jR⟩
def strings_Cut.f (a0 a1:ByteArray):Option (ByteArray × ByteArray × Bool):=if a0.size<4294967281 then some (⟨(Lib.cut a0.data.toList a1.data.toList).1.toArray⟩,⟨(Lib.cut a0.data.toList a1.data.toList).2.1.toArray⟩,(Lib.cut a0.data.toList a1.data.toList).2.2) else none
theorem strings_Cut.calls {a0 a1:ByteArray} {r1 r2:ByteArray} {r3:Bool} {w:World} (hG:GT w) (h:strings_Cut.f a0 a1=some (r1,r2,r3)):
  Calls Tryz.prog 87 #[.string a0,.string a1] w fun e w'=>e=.returned (.tuple #[.string r1,.string r2,.bool r3])∧Below w.heap.size w w':=by
 unfold strings_Cut.f at h
 by_cases hb:a0.size<4294967281
 rotate_left
 ·rw[if_neg hb] at h;cases h
 rw[if_pos hb] at h;simp only[Option.some.injEq,Prod.mk.injEq] at h;obtain ⟨rfl,rfl,rfl⟩:=h;obtain ⟨m,hm⟩:=hG.maxlen
 exact (Tryz.strings_Cut a0 a1 m w hb hm).mono fun e w' ⟨he,n,hw⟩=>⟨he,hw ▸ ak (Below.refl _ _) n⟩
def sV.f (a0 a1:ByteArray):Option (ByteArray):=if a0.size≤9223372036854775807∧a1.size<4294967281∧a1.data.toList.all (fun b=>decide (b.toNat<128))=true then some ⟨(Lib.trimS a0.data.toList a1.data.toList).toArray⟩ else none
theorem sV.calls {a0 a1:ByteArray} {r:ByteArray} {w:World} (h:sV.f a0 a1=some r):
  Calls Tryz.prog 100 #[.string a0,.string a1] w fun e w'=>e=.returned (.string r)∧Below w.heap.size w w':=by
 unfold sV.f at h
 by_cases hb:a0.size≤9223372036854775807∧a1.size<4294967281∧a1.data.toList.all (fun b=>decide (b.toNat<128))=true
 rotate_left
 ·rw[if_neg hb] at h;cases h
 rw[if_pos hb] at h;obtain rfl:=Option.some.inj h;exact Any.strings_Trim_laid Tryz.akc bD a0 a1 w hb.1 hb.2.1 (fun _ b hb'=>oT (List.all_eq_true.1 hb.2.2 b (List.mem_of_getElem? hb')))
def eG.f (a0:ByteArray):Option (Bool):=if a0.toList=([]:List UInt8) then (some false) else ((sV.f a0 (⟨#[48,49,50,51,52,53,54,55,56,57]⟩:ByteArray)).bind fun akd=>(some (akd.toList==([]:List UInt8))))
theorem eG.calls {a0:ByteArray} {r:Bool} {w:World} (h:eG.f a0=some r):
  Calls Tryz.prog 88 #[.string a0] w fun e w'=>e=.returned (.bool r)∧Below w.heap.size w w':=by
 have HB:=jC (Below.refl w.heap.size w);have H:(if a0.toList=([]:List UInt8) then (some false) else ((sV.f a0 (⟨#[48,49,50,51,52,53,54,55,56,57]⟩:ByteArray)).bind fun akd=>(some (akd.toList==([]:List UInt8)))))=some r:=h;clear h
 replace H:=jE H;obtain ⟨CY,NF,-,H⟩|⟨CY,NF,c2,H⟩:=H
 ·obtain rfl:=Option.some.inj H;go_enter Tryz.func88,Tryz.ntmps88
  go_wp2
  go_ret;exact ⟨fT,dn⟩
 obtain ⟨akd,A3,H⟩:=bd H;obtain rfl:=Option.some.inj H;go_enter Tryz.func88,Tryz.ntmps88
 go_wp2_with (first|(go_at_call 100;(with_reducible refine (sV.calls A3.o).mono ?_);rintro e wC ⟨rfl,hb⟩;replace HB:=jC (ae dn hb)))
 go_ret;exact ⟨fT,dn⟩
def ay.dg (b:UInt8):Bool:=decide (48≤b.toNat∧b.toNat≤57)
def ay.val (l:List UInt8):Int:=l.foldl (fun n b=>10 * n+((b.toNat:Int) - 48)) 0
def ay.all (w p:ByteArray):ByteArray:=w++p++(⟨#[48,48,48]⟩:ByteArray).extract p.size 3
def ay.fin (neg:Bool) (w p:ByteArray):Option (Int × Bool):=if w.size≤10 then (if p.size≤3∧(ay.all w p).data.toList.all ay.dg=true then (eP.f (ay.val (ay.all w p).data.toList)).bind fun t=>(if t=true then some (if neg=true then -(ay.val (ay.all w p).data.toList) else ay.val (ay.all w p).data.toList,true) else some (0,false)) else none) else some (0,false)
def ay.f (a0:ByteArray):Option (Int × Bool):=(strings_CutPrefix.f a0 (⟨#[45]⟩:ByteArray)).bind fun t=>(strings_Cut.f t.1 (⟨#[46]⟩:ByteArray)).bind fun u=>(eG.f u.1).bind fun b1=>(if b1=true then (if 1<u.1.size∧bt u.1 0=48 then some (0,false) else (if u.2.2=true then (eG.f u.2.1).bind fun b2=>(if b2=true then (if u.2.1.size≤3 then ay.fin t.2 u.1 u.2.1 else some (0,false)) else some (0,false)) else ay.fin t.2 u.1 u.2.1)) else some (0,false))
theorem ay.UY (l:List UInt8) (b:UInt8):ay.val (l++ [b])=10 * ay.val l+((b.toNat:Int) - 48):=by
 unfold ay.val;rw[List.foldl_append]
 rfl
theorem ay.Cg:∀(k:Nat) (l:List UInt8),l.length=k→l.all ay.dg=true→0≤ay.val l∧ay.val l<(10:Int) ^ k:=by
 intro k
 induction k with
 |zero=>
  intro l hl _;obtain rfl:=List.length_eq_zero_iff.mp hl;exact ⟨Int.le_refl _,au⟩
 |succ k ih=>
  intro l hl ha
  obtain ⟨a,c,rfl⟩:∃a c,l=a++ [c]:=by
   have h:l≠ []:=by intro h;rw[h] at hl;cases hl
   exact ⟨l.dropLast,l.getLast h,(List.dropLast_concat_getLast h).symm⟩
  rw[List.length_append,List.length_singleton] at hl;rw[List.all_append,Bool.and_eq_true] at ha;obtain ⟨h0,h1⟩:=ih a bG ha.1
  have hc:48≤c.toNat∧c.toNat≤57:=by
   have:=ha.2
   simp only[List.all_cons,List.all_nil,Bool.and_true] at this;exact oT this
  rw[ay.UY,Int.pow_succ]
  omega
theorem ay.at (s:ByteArray) (k:Nat) (hk:k<s.data.toList.length) (ha:s.data.toList.all ay.dg=true) (hl:s.data.toList.length≤13):
  ∃c:Int,((s.data.toList.getD k 0).toNat:Int)=c∧48≤c∧c≤57∧0≤ay.val (s.data.toList.take k)∧ay.val (s.data.toList.take k)<10000000000000∧ay.val (s.data.toList.take (k+1))=10 * ay.val (s.data.toList.take k)+(c - 48):=by
 have hx:s.data.toList[k]?=some s.data.toList[k]:=List.getElem?_eq_getElem hk;have hd:=List.all_eq_true.1 ha _ (List.mem_of_getElem? hx);have hd:48≤(s.data.toList[k]).toNat∧(s.data.toList[k]).toNat≤57:=oT hd;have ht:=ay.Cg k (s.data.toList.take k) (by rw[List.length_take];omega) (List.all_eq_true.2 fun b hb=>List.all_eq_true.1 ha b (List.mem_of_mem_take hb))
 have hp:(10:Int) ^ k≤(10:Int) ^ 13:=by
  have:(10:Nat) ^ k≤10 ^ 13:=Nat.pow_le_pow_right bG bG
  exact_mod_cast this
 refine ⟨_,rfl,?_,?_,ht.1,bG,?_⟩
 ·rw[List.getD_eq_getElem?_getD,hx]
  show (48:Int)≤((s.data.toList[k]).toNat:Int)
  omega
 ·rw[List.getD_eq_getElem?_getD,hx]
  show ((s.data.toList[k]).toNat:Int)≤57
  omega
 rw[List.take_succ_eq_append_getElem hk,ay.UY,List.getD_eq_getElem?_getD,hx]
 rfl
theorem ay.calls {a0:ByteArray} {r1:Int} {r2:Bool} {w:World} (hG:GT w) (h:ay.f a0=some (r1,r2)):
  Calls Tryz.prog 67 #[.string a0] w fun e w'=>e=.returned (.tuple #[.int .i64 r1,.bool r2])∧Below w.heap.size w w':=by
 have HB:=jC (Below.refl w.heap.size w);have HG:=jC hG;clear hG;unfold ay.f at h;obtain ⟨⟨rest,neg⟩,h1,h⟩:=Option.bind_eq_some_iff.mp h;obtain ⟨⟨ws,p,parted⟩,h2,h⟩:=Option.bind_eq_some_iff.mp h;obtain ⟨b1,h3,h⟩:=Option.bind_eq_some_iff.mp h;have A1:=jC h1;have A2:=jC h2;have A3:=jC h3;clear h1 h2 h3
 cases b1 with
 |false=>
  have h:some ((0:Int),false)=some (r1,r2):=h;obtain ⟨rfl,rfl⟩:=Prod.mk.inj (Option.some.inj h);clear h;go_enter Tryz.func67,Tryz.ntmps67
  go_wp2_with (first
   |(go_at_call 86;(with_reducible refine (strings_CutPrefix.calls A1.o).mono ?_);rintro e w' ⟨rfl,⟨nd,rfl⟩⟩)
   |(go_at_call 87;(with_reducible refine (strings_Cut.calls (oh HG.o (ak (Below.refl _ _) _)) A2.o).mono ?_);rintro e w1 ⟨rfl,hb⟩;replace HB:=jC (ae dn hb);clear hb)
   |(go_at_call 88;(with_reducible refine (eG.calls A3.o).mono ?_);rintro e w2 ⟨rfl,hb⟩;replace HB:=jC (ae dn hb);clear hb))
  go_ret2;exact ⟨rfl,HB.o⟩
 |true=>
  rw[if_pos rfl] at h
  by_cases hz:1<ws.size∧bt ws 0=48
  ·rw[if_pos hz] at h;have h:some ((0:Int),false)=some (r1,r2):=h;obtain ⟨rfl,rfl⟩:=Prod.mk.inj (Option.some.inj h);clear h;have h1s:=hz.1;have da1:decide ((1:Int)<(ws.size:Int))=true:=rM bG;have da2:decide (1<ws.size)=true:=rM bG;have q7:(0<ws.size)=True:=fO bG;have qi7:(0<(ws.size:Int))=True:=fO bG
   have hx7:∀h:0<ws.size,(((ws[0]'h).toNat:Int))=bt ws 0:=d9 ws 0
   have e7:(bt ws 0==48)=true:=beq_iff_eq.mpr hz.2;clear h1s hz;go_enter Tryz.func67,Tryz.ntmps67
   go_wp2_with (first
    |(go_at_call 86;(with_reducible refine (strings_CutPrefix.calls A1.o).mono ?_);rintro e w' ⟨rfl,⟨nd,rfl⟩⟩)
    |(go_at_call 87;(with_reducible refine (strings_Cut.calls (oh HG.o (ak (Below.refl _ _) _)) A2.o).mono ?_);rintro e w1 ⟨rfl,hb⟩;replace HB:=jC (ae dn hb);clear hb)
    |(go_at_call 88;(with_reducible refine (eG.calls A3.o).mono ?_);rintro e w2 ⟨rfl,hb⟩;replace HB:=jC (ae dn hb);clear hb))
   go_ret2;exact ⟨rfl,HB.o⟩
  rw[if_neg hz] at h
  by_cases h1s:1<ws.size
  rotate_left
  ·skip
   have da1:decide ((1:Int)<(ws.size:Int))=false:=M_ bG;have da2:decide (1<ws.size)=false:=M_ bG;clear hz
   cases parted with
   |true=>
    rw[if_pos rfl] at h;obtain ⟨b2,h4,h⟩:=Option.bind_eq_some_iff.mp h;have A4:=jC h4;clear h4
    cases b2 with
    |false=>
     have h:some ((0:Int),false)=some (r1,r2):=h;obtain ⟨rfl,rfl⟩:=Prod.mk.inj (Option.some.inj h);clear h;go_enter Tryz.func67,Tryz.ntmps67
     go_wp2_with (first
      |(go_at_call 86;(with_reducible refine (strings_CutPrefix.calls A1.o).mono ?_);rintro e w' ⟨rfl,⟨nd,rfl⟩⟩)
      |(go_at_call 87;(with_reducible refine (strings_Cut.calls (oh HG.o (ak (Below.refl _ _) _)) A2.o).mono ?_);rintro e w1 ⟨rfl,hb⟩;replace HB:=jC (ae dn hb);clear hb)
      |(go_at_call 88;(with_reducible refine (eG.calls A3.o).mono ?_);rintro e w2 ⟨rfl,hb⟩;replace HB:=jC (ae dn hb);clear hb)
      |(go_at_call 88;(with_reducible refine (eG.calls A4.o).mono ?_);rintro e w3 ⟨rfl,hb⟩;replace HB:=jC (ae dn hb);clear hb))
     go_ret2;exact ⟨rfl,HB.o⟩
    |true=>
     rw[if_pos rfl] at h
     by_cases h3:p.size≤3
     rotate_left
     ·rw[if_neg h3] at h;have h:some ((0:Int),false)=some (r1,r2):=h;obtain ⟨rfl,rfl⟩:=Prod.mk.inj (Option.some.inj h);clear h;have db1:decide ((3:Int)<(p.size:Int))=true:=rM bG;have db2:decide (3<p.size)=true:=rM bG;clear h3;go_enter Tryz.func67,Tryz.ntmps67
      go_wp2_with (first
       |(go_at_call 86;(with_reducible refine (strings_CutPrefix.calls A1.o).mono ?_);rintro e w' ⟨rfl,⟨nd,rfl⟩⟩)
       |(go_at_call 87;(with_reducible refine (strings_Cut.calls (oh HG.o (ak (Below.refl _ _) _)) A2.o).mono ?_);rintro e w1 ⟨rfl,hb⟩;replace HB:=jC (ae dn hb);clear hb)
       |(go_at_call 88;(with_reducible refine (eG.calls A3.o).mono ?_);rintro e w2 ⟨rfl,hb⟩;replace HB:=jC (ae dn hb);clear hb)
       |(go_at_call 88;(with_reducible refine (eG.calls A4.o).mono ?_);rintro e w3 ⟨rfl,hb⟩;replace HB:=jC (ae dn hb);clear hb))
      go_ret2;exact ⟨rfl,HB.o⟩
     rw[if_pos h3] at h;have db1:decide ((3:Int)<(p.size:Int))=false:=M_ bG;have db2:decide (3<p.size)=false:=M_ bG;unfold ay.fin at h
     by_cases h10:ws.size≤10
     rotate_left
     ·rw[if_neg h10] at h
      omega
     rw[if_pos h10] at h;have dc1:decide ((10:Int)<(ws.size:Int))=false:=M_ bG;have dc2:decide (10<ws.size)=false:=M_ bG
     by_cases hp:p.size≤3∧(ay.all ws p).data.toList.all ay.dg=true
     rotate_left
     ·rw[if_neg hp] at h;cases h
     rw[if_pos hp] at h;obtain ⟨hp3,had⟩:=hp;obtain ⟨t,h5,h⟩:=Option.bind_eq_some_iff.mp h;have A5:=jC h5;have H:=jC h;clear h5 h;have HD:=jC had;clear had
     obtain ⟨z,hz0⟩:∃z:ByteArray,(⟨#[48,48,48]⟩:ByteArray).extract p.size 3=z:=⟨_,rfl⟩
     have hzs:z.size=3 - p.size:=by rw[←hz0,ByteArray.size_extract];show min 3 3 - p.size=_;omega
     obtain ⟨L,hL⟩:∃L:ByteArray,ay.all ws p=L:=⟨_,rfl⟩
     have hLs:L.size≤13:=by rw[←hL];unfold ay.all;rw[ByteArray.size_append,ByteArray.size_append,hz0];omega
     have hL2:ws++p++z=L:=by rw[←hL,←hz0];rfl
     rw[hL] at HD A5 H;clear hL;have s1:(9223372036854775807<ws.size+p.size)=False:=eq_false bG;have s2:(9223372036854775807<ws.size+p.size+z.size)=False:=eq_false bG;have k1:((0:Int)≤(p.size:Int))=True:=fO bG;have k2:((p.size:Int)≤3)=True:=fO bG;have k3:(p.size≤3)=True:=fO hp3;have HLS:=jC hLs;clear hLs hzs hp3 h10
     have kb:=fun W=>AX (P:=Tryz.prog) 9 22 5 Tryz.underlying9 Tryz.underlying22 Tryz.underlying5 L W
     obtain ⟨V,hV⟩:∃V:Int,ay.val L.data.toList=V:=⟨_,rfl⟩
     rw[hV] at A5 H;have hb0:=ay.Cg L.data.toList.length L.data.toList rfl HD.o
     have hb1:(10:Int) ^ L.data.toList.length≤10000000000000:=by
      have q:(10:Nat) ^ L.data.toList.length≤10 ^ 13:=Nat.pow_le_pow_right bG Uh
      have q:(10:Int) ^ L.data.toList.length≤(10:Int) ^ 13:=by exact_mod_cast q
      exact q
     have hV0:0≤V:=by omega
     have hV1:V≤10000000000000:=by omega
     have HVV:=jC hV;clear hV hb0 hb1;go_enter Tryz.func67,Tryz.ntmps67
     go_wp2_with (first
      |(go_at_call 86;(with_reducible refine (strings_CutPrefix.calls A1.o).mono ?_);rintro e w' ⟨rfl,⟨nd,rfl⟩⟩)
      |(go_at_call 87;(with_reducible refine (strings_Cut.calls (oh HG.o (ak (Below.refl _ _) _)) A2.o).mono ?_);rintro e w1 ⟨rfl,hb⟩;replace HB:=jC (ae dn hb);clear hb)
      |(go_at_call 88;(with_reducible refine (eG.calls A3.o).mono ?_);rintro e w2 ⟨rfl,hb⟩;replace HB:=jC (ae dn hb);clear hb)
      |(go_at_call 88;(with_reducible refine (eG.calls A4.o).mono ?_);rintro e w3 ⟨rfl,hb⟩;replace HB:=jC (ae dn hb);clear hb))
     go_loop [9,63] (fun n i=>∃k:Nat,k≤L.size∧i=.int .i64 k∧n=.int .i64 (ay.val (L.data.toList.take k))) (fun _ i=>L.size - (intOf i).toNat)
     case atStart=>exact ⟨0,Nat.zero_le _,rfl,rfl⟩
     case round=>
      obtain ⟨k,hk,rfl,hn⟩:=hrel
      by_cases hlt:k<L.size
      ·obtain ⟨c,hc1,hc2,hc3,hv0,hv1,hv2⟩:=ay.at L k ajx HD.o Uh;subst hn;have hcell:=Lib.bytesWorld_cell w3 5 L k hlt;rw[hc1] at hcell;have HV:=jC hv2;clear hv2 hc1
       have ar0:k<13:=by have:=HLS.o;omega
       go_wp2
       go_round
       case rel=>exact ⟨k+1,bG,by go_num,by rw[HV.o]⟩
       case measure=>simp [intOf];omega
      have hkk:k=L.size:=by omega
      rw[List.take_of_length_le ajy,HVV.o] at hn;subst hn;clear hkk hk;have Ta:=jC (AY HB.o (Nat.le_trans HB.o.size (Nat.le_refl _)) 5 L)
      cases t with
      |false=>
       have h:some ((0:Int),false)=some (r1,r2):=H.o;obtain ⟨rfl,rfl⟩:=Prod.mk.inj (Option.some.inj h);clear h H
       go_wp2_with (go_at_call 54;(with_reducible refine (eP.calls A5.o).mono ?_);rintro e w' ⟨rfl,⟨nd,rfl⟩⟩)
       go_ret2;exact ⟨rfl,ak Ta.o _⟩
      |true=>
       cases neg with
       |false=>
        have h:some (V,true)=some (r1,r2):=H.o;obtain ⟨rfl,rfl⟩:=Prod.mk.inj (Option.some.inj h);clear h H
        go_wp2_with (go_at_call 54;(with_reducible refine (eP.calls A5.o).mono ?_);rintro e w' ⟨rfl,⟨nd,rfl⟩⟩)
        go_ret2;exact ⟨rfl,ak Ta.o _⟩
       |true=>
        have h:some (-V,true)=some (r1,r2):=H.o;obtain ⟨rfl,rfl⟩:=Prod.mk.inj (Option.some.inj h);clear h H
        go_wp2_with (go_at_call 54;(with_reducible refine (eP.calls A5.o).mono ?_);rintro e w' ⟨rfl,⟨nd,rfl⟩⟩)
        go_ret2;exact ⟨rfl,ak Ta.o _⟩
   |false=>
    rw[if_neg Bool.false_ne_true] at h;unfold ay.fin at h
    by_cases h10:ws.size≤10
    rotate_left
    ·rw[if_neg h10] at h
     omega
    rw[if_pos h10] at h;have dc1:decide ((10:Int)<(ws.size:Int))=false:=M_ bG;have dc2:decide (10<ws.size)=false:=M_ bG
    by_cases hp:p.size≤3∧(ay.all ws p).data.toList.all ay.dg=true
    rotate_left
    ·rw[if_neg hp] at h;cases h
    rw[if_pos hp] at h;obtain ⟨hp3,had⟩:=hp;obtain ⟨t,h5,h⟩:=Option.bind_eq_some_iff.mp h;have A5:=jC h5;have H:=jC h;clear h5 h;have HD:=jC had;clear had
    obtain ⟨z,hz0⟩:∃z:ByteArray,(⟨#[48,48,48]⟩:ByteArray).extract p.size 3=z:=⟨_,rfl⟩
    have hzs:z.size=3 - p.size:=by rw[←hz0,ByteArray.size_extract];show min 3 3 - p.size=_;omega
    obtain ⟨L,hL⟩:∃L:ByteArray,ay.all ws p=L:=⟨_,rfl⟩
    have hLs:L.size≤13:=by rw[←hL];unfold ay.all;rw[ByteArray.size_append,ByteArray.size_append,hz0];omega
    have hL2:ws++p++z=L:=by rw[←hL,←hz0];rfl
    rw[hL] at HD A5 H;clear hL;have s1:(9223372036854775807<ws.size+p.size)=False:=eq_false bG;have s2:(9223372036854775807<ws.size+p.size+z.size)=False:=eq_false bG;have k1:((0:Int)≤(p.size:Int))=True:=fO bG;have k2:((p.size:Int)≤3)=True:=fO bG;have k3:(p.size≤3)=True:=fO hp3;have HLS:=jC hLs;clear hLs hzs hp3 h10
    have kb:=fun W=>AX (P:=Tryz.prog) 9 22 5 Tryz.underlying9 Tryz.underlying22 Tryz.underlying5 L W
    obtain ⟨V,hV⟩:∃V:Int,ay.val L.data.toList=V:=⟨_,rfl⟩
    rw[hV] at A5 H;have hb0:=ay.Cg L.data.toList.length L.data.toList rfl HD.o
    have hb1:(10:Int) ^ L.data.toList.length≤10000000000000:=by
     have q:(10:Nat) ^ L.data.toList.length≤10 ^ 13:=Nat.pow_le_pow_right bG Uh
     have q:(10:Int) ^ L.data.toList.length≤(10:Int) ^ 13:=by exact_mod_cast q
     exact q
    have hV0:0≤V:=by omega
    have hV1:V≤10000000000000:=by omega
    have HVV:=jC hV;clear hV hb0 hb1;go_enter Tryz.func67,Tryz.ntmps67
    go_wp2_with (first
     |(go_at_call 86;(with_reducible refine (strings_CutPrefix.calls A1.o).mono ?_);rintro e w' ⟨rfl,⟨nd,rfl⟩⟩)
     |(go_at_call 87;(with_reducible refine (strings_Cut.calls (oh HG.o (ak (Below.refl _ _) _)) A2.o).mono ?_);rintro e w1 ⟨rfl,hb⟩;replace HB:=jC (ae dn hb);clear hb)
     |(go_at_call 88;(with_reducible refine (eG.calls A3.o).mono ?_);rintro e w2 ⟨rfl,hb⟩;replace HB:=jC (ae dn hb);clear hb))
    go_loop [9,63] (fun n i=>∃k:Nat,k≤L.size∧i=.int .i64 k∧n=.int .i64 (ay.val (L.data.toList.take k))) (fun _ i=>L.size - (intOf i).toNat)
    case atStart=>exact ⟨0,Nat.zero_le _,rfl,rfl⟩
    case round=>
     obtain ⟨k,hk,rfl,hn⟩:=hrel
     by_cases hlt:k<L.size
     ·obtain ⟨c,hc1,hc2,hc3,hv0,hv1,hv2⟩:=ay.at L k ajx HD.o Uh;subst hn;have hcell:=Lib.bytesWorld_cell w2 5 L k hlt;rw[hc1] at hcell;have HV:=jC hv2;clear hv2 hc1
      have ar0:k<13:=by have:=HLS.o;omega
      go_wp2
      go_round
      case rel=>exact ⟨k+1,bG,by go_num,by rw[HV.o]⟩
      case measure=>simp [intOf];omega
     have hkk:k=L.size:=by omega
     rw[List.take_of_length_le ajy,HVV.o] at hn;subst hn;clear hkk hk;have Ta:=jC (AY HB.o (Nat.le_trans HB.o.size (Nat.le_refl _)) 5 L)
     cases t with
     |false=>
      have h:some ((0:Int),false)=some (r1,r2):=H.o;obtain ⟨rfl,rfl⟩:=Prod.mk.inj (Option.some.inj h);clear h H
      go_wp2_with (go_at_call 54;(with_reducible refine (eP.calls A5.o).mono ?_);rintro e w' ⟨rfl,⟨nd,rfl⟩⟩)
      go_ret2;exact ⟨rfl,ak Ta.o _⟩
     |true=>
      cases neg with
      |false=>
       have h:some (V,true)=some (r1,r2):=H.o;obtain ⟨rfl,rfl⟩:=Prod.mk.inj (Option.some.inj h);clear h H
       go_wp2_with (go_at_call 54;(with_reducible refine (eP.calls A5.o).mono ?_);rintro e w' ⟨rfl,⟨nd,rfl⟩⟩)
       go_ret2;exact ⟨rfl,ak Ta.o _⟩
      |true=>
       have h:some (-V,true)=some (r1,r2):=H.o;obtain ⟨rfl,rfl⟩:=Prod.mk.inj (Option.some.inj h);clear h H
       go_wp2_with (go_at_call 54;(with_reducible refine (eP.calls A5.o).mono ?_);rintro e w' ⟨rfl,⟨nd,rfl⟩⟩)
       go_ret2;exact ⟨rfl,ak Ta.o _⟩
  skip
  have da1:decide ((1:Int)<(ws.size:Int))=true:=rM bG;have da2:decide (1<ws.size)=true:=rM bG;have q7:(0<ws.size)=True:=fO bG;have qi7:(0<(ws.size:Int))=True:=fO bG
  have hx7:∀h:0<ws.size,(((ws[0]'h).toNat:Int))=bt ws 0:=d9 ws 0
  have e7:(bt ws 0==48)=false:=beq_eq_false_iff_ne.mpr (fun e=>hz ⟨bG,e⟩);clear hz
  cases parted with
  |true=>
   rw[if_pos rfl] at h;obtain ⟨b2,h4,h⟩:=Option.bind_eq_some_iff.mp h;have A4:=jC h4;clear h4
   cases b2 with
   |false=>
    have h:some ((0:Int),false)=some (r1,r2):=h;obtain ⟨rfl,rfl⟩:=Prod.mk.inj (Option.some.inj h);clear h;go_enter Tryz.func67,Tryz.ntmps67
    go_wp2_with (first
     |(go_at_call 86;(with_reducible refine (strings_CutPrefix.calls A1.o).mono ?_);rintro e w' ⟨rfl,⟨nd,rfl⟩⟩)
     |(go_at_call 87;(with_reducible refine (strings_Cut.calls (oh HG.o (ak (Below.refl _ _) _)) A2.o).mono ?_);rintro e w1 ⟨rfl,hb⟩;replace HB:=jC (ae dn hb);clear hb)
     |(go_at_call 88;(with_reducible refine (eG.calls A3.o).mono ?_);rintro e w2 ⟨rfl,hb⟩;replace HB:=jC (ae dn hb);clear hb)
     |(go_at_call 88;(with_reducible refine (eG.calls A4.o).mono ?_);rintro e w3 ⟨rfl,hb⟩;replace HB:=jC (ae dn hb);clear hb))
    go_ret2;exact ⟨rfl,HB.o⟩
   |true=>
    rw[if_pos rfl] at h
    by_cases h3:p.size≤3
    rotate_left
    ·rw[if_neg h3] at h;have h:some ((0:Int),false)=some (r1,r2):=h;obtain ⟨rfl,rfl⟩:=Prod.mk.inj (Option.some.inj h);clear h;have db1:decide ((3:Int)<(p.size:Int))=true:=rM bG;have db2:decide (3<p.size)=true:=rM bG;clear h3;go_enter Tryz.func67,Tryz.ntmps67
     go_wp2_with (first
      |(go_at_call 86;(with_reducible refine (strings_CutPrefix.calls A1.o).mono ?_);rintro e w' ⟨rfl,⟨nd,rfl⟩⟩)
      |(go_at_call 87;(with_reducible refine (strings_Cut.calls (oh HG.o (ak (Below.refl _ _) _)) A2.o).mono ?_);rintro e w1 ⟨rfl,hb⟩;replace HB:=jC (ae dn hb);clear hb)
      |(go_at_call 88;(with_reducible refine (eG.calls A3.o).mono ?_);rintro e w2 ⟨rfl,hb⟩;replace HB:=jC (ae dn hb);clear hb)
      |(go_at_call 88;(with_reducible refine (eG.calls A4.o).mono ?_);rintro e w3 ⟨rfl,hb⟩;replace HB:=jC (ae dn hb);clear hb))
     go_ret2;exact ⟨rfl,HB.o⟩
    rw[if_pos h3] at h;have db1:decide ((3:Int)<(p.size:Int))=false:=M_ bG;have db2:decide (3<p.size)=false:=M_ bG;unfold ay.fin at h
    by_cases h10:ws.size≤10
    rotate_left
    ·rw[if_neg h10] at h;have h:some ((0:Int),false)=some (r1,r2):=h;obtain ⟨rfl,rfl⟩:=Prod.mk.inj (Option.some.inj h);clear h;have dc1:decide ((10:Int)<(ws.size:Int))=true:=rM bG;have dc2:decide (10<ws.size)=true:=rM bG;clear h10;go_enter Tryz.func67,Tryz.ntmps67
     go_wp2_with (first
      |(go_at_call 86;(with_reducible refine (strings_CutPrefix.calls A1.o).mono ?_);rintro e w' ⟨rfl,⟨nd,rfl⟩⟩)
      |(go_at_call 87;(with_reducible refine (strings_Cut.calls (oh HG.o (ak (Below.refl _ _) _)) A2.o).mono ?_);rintro e w1 ⟨rfl,hb⟩;replace HB:=jC (ae dn hb);clear hb)
      |(go_at_call 88;(with_reducible refine (eG.calls A3.o).mono ?_);rintro e w2 ⟨rfl,hb⟩;replace HB:=jC (ae dn hb);clear hb)
      |(go_at_call 88;(with_reducible refine (eG.calls A4.o).mono ?_);rintro e w3 ⟨rfl,hb⟩;replace HB:=jC (ae dn hb);clear hb))
     go_ret2;exact ⟨rfl,HB.o⟩
    rw[if_pos h10] at h;have dc1:decide ((10:Int)<(ws.size:Int))=false:=M_ bG;have dc2:decide (10<ws.size)=false:=M_ bG
    by_cases hp:p.size≤3∧(ay.all ws p).data.toList.all ay.dg=true
    rotate_left
    ·rw[if_neg hp] at h;cases h
    rw[if_pos hp] at h;obtain ⟨hp3,had⟩:=hp;obtain ⟨t,h5,h⟩:=Option.bind_eq_some_iff.mp h;have A5:=jC h5;have H:=jC h;clear h5 h;have HD:=jC had;clear had
    obtain ⟨z,hz0⟩:∃z:ByteArray,(⟨#[48,48,48]⟩:ByteArray).extract p.size 3=z:=⟨_,rfl⟩
    have hzs:z.size=3 - p.size:=by rw[←hz0,ByteArray.size_extract];show min 3 3 - p.size=_;omega
    obtain ⟨L,hL⟩:∃L:ByteArray,ay.all ws p=L:=⟨_,rfl⟩
    have hLs:L.size≤13:=by rw[←hL];unfold ay.all;rw[ByteArray.size_append,ByteArray.size_append,hz0];omega
    have hL2:ws++p++z=L:=by rw[←hL,←hz0];rfl
    rw[hL] at HD A5 H;clear hL;have s1:(9223372036854775807<ws.size+p.size)=False:=eq_false bG;have s2:(9223372036854775807<ws.size+p.size+z.size)=False:=eq_false bG;have k1:((0:Int)≤(p.size:Int))=True:=fO bG;have k2:((p.size:Int)≤3)=True:=fO bG;have k3:(p.size≤3)=True:=fO hp3;have HLS:=jC hLs;clear hLs hzs hp3 h10
    have kb:=fun W=>AX (P:=Tryz.prog) 9 22 5 Tryz.underlying9 Tryz.underlying22 Tryz.underlying5 L W
    obtain ⟨V,hV⟩:∃V:Int,ay.val L.data.toList=V:=⟨_,rfl⟩
    rw[hV] at A5 H;have hb0:=ay.Cg L.data.toList.length L.data.toList rfl HD.o
    have hb1:(10:Int) ^ L.data.toList.length≤10000000000000:=by
     have q:(10:Nat) ^ L.data.toList.length≤10 ^ 13:=Nat.pow_le_pow_right bG Uh
     have q:(10:Int) ^ L.data.toList.length≤(10:Int) ^ 13:=by exact_mod_cast q
     exact q
    have hV0:0≤V:=by omega
    have hV1:V≤10000000000000:=by omega
    have HVV:=jC hV;clear hV hb0 hb1;go_enter Tryz.func67,Tryz.ntmps67
    go_wp2_with (first
     |(go_at_call 86;(with_reducible refine (strings_CutPrefix.calls A1.o).mono ?_);rintro e w' ⟨rfl,⟨nd,rfl⟩⟩)
     |(go_at_call 87;(with_reducible refine (strings_Cut.calls (oh HG.o (ak (Below.refl _ _) _)) A2.o).mono ?_);rintro e w1 ⟨rfl,hb⟩;replace HB:=jC (ae dn hb);clear hb)
     |(go_at_call 88;(with_reducible refine (eG.calls A3.o).mono ?_);rintro e w2 ⟨rfl,hb⟩;replace HB:=jC (ae dn hb);clear hb)
     |(go_at_call 88;(with_reducible refine (eG.calls A4.o).mono ?_);rintro e w3 ⟨rfl,hb⟩;replace HB:=jC (ae dn hb);clear hb))
    go_loop [9,63] (fun n i=>∃k:Nat,k≤L.size∧i=.int .i64 k∧n=.int .i64 (ay.val (L.data.toList.take k))) (fun _ i=>L.size - (intOf i).toNat)
    case atStart=>exact ⟨0,Nat.zero_le _,rfl,rfl⟩
    case round=>
     obtain ⟨k,hk,rfl,hn⟩:=hrel
     by_cases hlt:k<L.size
     ·obtain ⟨c,hc1,hc2,hc3,hv0,hv1,hv2⟩:=ay.at L k ajx HD.o Uh;subst hn;have hcell:=Lib.bytesWorld_cell w3 5 L k hlt;rw[hc1] at hcell;have HV:=jC hv2;clear hv2 hc1
      have ar0:k<13:=by have:=HLS.o;omega
      go_wp2
      go_round
      case rel=>exact ⟨k+1,bG,by go_num,by rw[HV.o]⟩
      case measure=>simp [intOf];omega
     have hkk:k=L.size:=by omega
     rw[List.take_of_length_le ajy,HVV.o] at hn;subst hn;clear hkk hk;have Ta:=jC (AY HB.o (Nat.le_trans HB.o.size (Nat.le_refl _)) 5 L)
     cases t with
     |false=>
      have h:some ((0:Int),false)=some (r1,r2):=H.o;obtain ⟨rfl,rfl⟩:=Prod.mk.inj (Option.some.inj h);clear h H
      go_wp2_with (go_at_call 54;(with_reducible refine (eP.calls A5.o).mono ?_);rintro e w' ⟨rfl,⟨nd,rfl⟩⟩)
      go_ret2;exact ⟨rfl,ak Ta.o _⟩
     |true=>
      cases neg with
      |false=>
       have h:some (V,true)=some (r1,r2):=H.o;obtain ⟨rfl,rfl⟩:=Prod.mk.inj (Option.some.inj h);clear h H
       go_wp2_with (go_at_call 54;(with_reducible refine (eP.calls A5.o).mono ?_);rintro e w' ⟨rfl,⟨nd,rfl⟩⟩)
       go_ret2;exact ⟨rfl,ak Ta.o _⟩
      |true=>
       have h:some (-V,true)=some (r1,r2):=H.o;obtain ⟨rfl,rfl⟩:=Prod.mk.inj (Option.some.inj h);clear h H
       go_wp2_with (go_at_call 54;(with_reducible refine (eP.calls A5.o).mono ?_);rintro e w' ⟨rfl,⟨nd,rfl⟩⟩)
       go_ret2;exact ⟨rfl,ak Ta.o _⟩
  |false=>
   rw[if_neg Bool.false_ne_true] at h;unfold ay.fin at h
   by_cases h10:ws.size≤10
   rotate_left
   ·rw[if_neg h10] at h;have h:some ((0:Int),false)=some (r1,r2):=h;obtain ⟨rfl,rfl⟩:=Prod.mk.inj (Option.some.inj h);clear h;have dc1:decide ((10:Int)<(ws.size:Int))=true:=rM bG;have dc2:decide (10<ws.size)=true:=rM bG;clear h10;go_enter Tryz.func67,Tryz.ntmps67
    go_wp2_with (first
     |(go_at_call 86;(with_reducible refine (strings_CutPrefix.calls A1.o).mono ?_);rintro e w' ⟨rfl,⟨nd,rfl⟩⟩)
     |(go_at_call 87;(with_reducible refine (strings_Cut.calls (oh HG.o (ak (Below.refl _ _) _)) A2.o).mono ?_);rintro e w1 ⟨rfl,hb⟩;replace HB:=jC (ae dn hb);clear hb)
     |(go_at_call 88;(with_reducible refine (eG.calls A3.o).mono ?_);rintro e w2 ⟨rfl,hb⟩;replace HB:=jC (ae dn hb);clear hb))
    go_ret2;exact ⟨rfl,HB.o⟩
   rw[if_pos h10] at h;have dc1:decide ((10:Int)<(ws.size:Int))=false:=M_ bG;have dc2:decide (10<ws.size)=false:=M_ bG
   by_cases hp:p.size≤3∧(ay.all ws p).data.toList.all ay.dg=true
   rotate_left
   ·rw[if_neg hp] at h;cases h
   rw[if_pos hp] at h;obtain ⟨hp3,had⟩:=hp;obtain ⟨t,h5,h⟩:=Option.bind_eq_some_iff.mp h;have A5:=jC h5;have H:=jC h;clear h5 h;have HD:=jC had;clear had
   obtain ⟨z,hz0⟩:∃z:ByteArray,(⟨#[48,48,48]⟩:ByteArray).extract p.size 3=z:=⟨_,rfl⟩
   have hzs:z.size=3 - p.size:=by rw[←hz0,ByteArray.size_extract];show min 3 3 - p.size=_;omega
   obtain ⟨L,hL⟩:∃L:ByteArray,ay.all ws p=L:=⟨_,rfl⟩
   have hLs:L.size≤13:=by rw[←hL];unfold ay.all;rw[ByteArray.size_append,ByteArray.size_append,hz0];omega
   have hL2:ws++p++z=L:=by rw[←hL,←hz0];rfl
   rw[hL] at HD A5 H;clear hL;have s1:(9223372036854775807<ws.size+p.size)=False:=eq_false bG;have s2:(9223372036854775807<ws.size+p.size+z.size)=False:=eq_false bG;have k1:((0:Int)≤(p.size:Int))=True:=fO bG;have k2:((p.size:Int)≤3)=True:=fO bG;have k3:(p.size≤3)=True:=fO hp3;have HLS:=jC hLs;clear hLs hzs hp3 h10
   have kb:=fun W=>AX (P:=Tryz.prog) 9 22 5 Tryz.underlying9 Tryz.underlying22 Tryz.underlying5 L W
   obtain ⟨V,hV⟩:∃V:Int,ay.val L.data.toList=V:=⟨_,rfl⟩
   rw[hV] at A5 H;have hb0:=ay.Cg L.data.toList.length L.data.toList rfl HD.o
   have hb1:(10:Int) ^ L.data.toList.length≤10000000000000:=by
    have q:(10:Nat) ^ L.data.toList.length≤10 ^ 13:=Nat.pow_le_pow_right bG Uh
    have q:(10:Int) ^ L.data.toList.length≤(10:Int) ^ 13:=by exact_mod_cast q
    exact q
   have hV0:0≤V:=by omega
   have hV1:V≤10000000000000:=by omega
   have HVV:=jC hV;clear hV hb0 hb1;go_enter Tryz.func67,Tryz.ntmps67
   go_wp2_with (first
    |(go_at_call 86;(with_reducible refine (strings_CutPrefix.calls A1.o).mono ?_);rintro e w' ⟨rfl,⟨nd,rfl⟩⟩)
    |(go_at_call 87;(with_reducible refine (strings_Cut.calls (oh HG.o (ak (Below.refl _ _) _)) A2.o).mono ?_);rintro e w1 ⟨rfl,hb⟩;replace HB:=jC (ae dn hb);clear hb)
    |(go_at_call 88;(with_reducible refine (eG.calls A3.o).mono ?_);rintro e w2 ⟨rfl,hb⟩;replace HB:=jC (ae dn hb);clear hb))
   go_loop [9,63] (fun n i=>∃k:Nat,k≤L.size∧i=.int .i64 k∧n=.int .i64 (ay.val (L.data.toList.take k))) (fun _ i=>L.size - (intOf i).toNat)
   case atStart=>exact ⟨0,Nat.zero_le _,rfl,rfl⟩
   case round=>
    obtain ⟨k,hk,rfl,hn⟩:=hrel
    by_cases hlt:k<L.size
    ·obtain ⟨c,hc1,hc2,hc3,hv0,hv1,hv2⟩:=ay.at L k ajx HD.o Uh;subst hn;have hcell:=Lib.bytesWorld_cell w2 5 L k hlt;rw[hc1] at hcell;have HV:=jC hv2;clear hv2 hc1
     have ar0:k<13:=by have:=HLS.o;omega
     go_wp2
     go_round
     case rel=>exact ⟨k+1,bG,by go_num,by rw[HV.o]⟩
     case measure=>simp [intOf];omega
    have hkk:k=L.size:=by omega
    rw[List.take_of_length_le ajy,HVV.o] at hn;subst hn;clear hkk hk;have Ta:=jC (AY HB.o (Nat.le_trans HB.o.size (Nat.le_refl _)) 5 L)
    cases t with
    |false=>
     have h:some ((0:Int),false)=some (r1,r2):=H.o;obtain ⟨rfl,rfl⟩:=Prod.mk.inj (Option.some.inj h);clear h H
     go_wp2_with (go_at_call 54;(with_reducible refine (eP.calls A5.o).mono ?_);rintro e w' ⟨rfl,⟨nd,rfl⟩⟩)
     go_ret2;exact ⟨rfl,ak Ta.o _⟩
    |true=>
     cases neg with
     |false=>
      have h:some (V,true)=some (r1,r2):=H.o;obtain ⟨rfl,rfl⟩:=Prod.mk.inj (Option.some.inj h);clear h H
      go_wp2_with (go_at_call 54;(with_reducible refine (eP.calls A5.o).mono ?_);rintro e w' ⟨rfl,⟨nd,rfl⟩⟩)
      go_ret2;exact ⟨rfl,ak Ta.o _⟩
     |true=>
      have h:some (-V,true)=some (r1,r2):=H.o;obtain ⟨rfl,rfl⟩:=Prod.mk.inj (Option.some.inj h);clear h H
      go_wp2_with (go_at_call 54;(with_reducible refine (eP.calls A5.o).mono ?_);rintro e w' ⟨rfl,⟨nd,rfl⟩⟩)
      go_ret2;exact ⟨rfl,ak Ta.o _⟩
mutual
def fB.l0:Nat→Int→List (List Int)→List (List ByteArray)→Int→Int→Option ((List (List Int)) × Int × Int × Int)
 |0,_,_,_,_,_=>none
 |k+1,x1,x6,XB,Ow,Tc=>if Tc<Ow then (if 0≤Tc then (if Tc<(XB.length:Int) then (if ((aN XB Tc).length:Int)=x1 then (fB.l1 k x1 x6 Tc (([]:List Int)) XB Ow Tc (aN XB Tc) ((aN XB Tc).length:Int) 0) else (some (([]:List (List Int)),4,wrap64 (Tc+1),0))) else (none)) else (none)) else (some (x6,0,0,0))
def fB.l1:Nat→Int→List (List Int)→Int→List Int→List (List ByteArray)→Int→Int→List ByteArray→Int→Int→Option ((List (List Int)) × Int × Int × Int)
 |0,_,_,_,_,_,_,_,_,_,_=>none
 |k+1,x1,x6,x7,x9,XB,Ow,Tc,x31,x32,x33=>if x33<x32 then (if 0≤x33 then (if x33<(x31.length:Int) then ((ay.f (jg ByteArray.empty x31 x33)).bind fun anU=>(if anU.2=true then (if x9.length<17592186044416 then (fB.l1 k x1 x6 x7 (x9++ [anU.1]) XB Ow Tc x31 x32 (wrap64 (x33+1))) else (none)) else (some (([]:List (List Int)),9,wrap64 (x7+1),x33)))) else (none)) else (none)) else (if x6.length<5864062014805 then (fB.l0 k x1 (x6++ [x9]) XB Ow (wrap64 (Tc+1))) else (none))
end
def fB.f (k:Nat) (l0:List (List ByteArray)) (a1:Int):Option ((List (List Int)) × Int × Int × Int):=if 1≤(l0.length:Int) then ((some (l0.drop 1:List (List ByteArray))).bind fun FV=>(fB.l0 k a1 (([]:List (List Int))) FV (FV.length:Int) 0)) else (none)
theorem fB.calls {k:Nat} {A0:Option Addr} {c0:Nat} {l0:List (List ByteArray)} {a1:Int} {r1:List (List Int)} {r2:Int} {r3:Int} {r4:Int} {w:World} (hr0:Kd.C (Kd.slice 9 Kd.string) w A0 l0.length l0) (hc0:l0.length≤c0) (hG:GT w) (h:fB.f k l0 a1=some (r1,r2,r3,r4)):
  Calls Tryz.prog 31 #[.slice A0 l0.length c0,.int .i64 a1] w fun e w'=>∃Ee:Value,e=.returned (.tuple #[Ee,.agg #[.int .i64 r2,.int .i64 r3,.int .i64 r4]])∧Kd.S (Kd.slice 3 (Kd.int .i64)) 26 w' w.heap.size (fun _=>True) Ee r1∧Below w.heap.size w w':=by
 have HG:=jC hG;clear hG;have Xy:=Tryz.underlying33;have t_:=jC hr0;have BI:=jC hc0;clear hr0 hc0;have HB:=jC (Below.refl w.heap.size w);have H:=h;clear h;unfold fB.f at H;generalize hyy:(([]:List (List Int)))=aPM at H;have anV:=jC hyy.symm;clear hyy;obtain ⟨c3,H⟩:=nD H;have rG:=fO c3;have Av:=rM c3;clear c3;obtain ⟨FV,anW,H⟩:=yB H;have H':=jC H;clear H;go_enter Tryz.func31,Tryz.ntmps31
 go_wp2_with (first|((with_reducible refine aG (N:=5) rfl ?_);refine bE 5 #[.int .i64 0,.int .i64 0,.int .i64 0] 33 (h:=?_);intro Qg hg w4 hbox hb;have n_:=jA (ae dn hb) (jA (hbox) (jC ((H6:w.heap.size≤Qg))));clear HB;obtain ⟨HB,rR,ayO⟩:=n_;clear hb hbox hg)|((with_reducible refine aG (N:=14) rfl ?_);refine Kd.Zu (Kd.slice 3 (Kd.int .i64)) _ 26 ?hg (N:=14) ?hd (xs:=([]:List (List Int))) (inner:=[]) (ok:=fun _=>True) (okp:=fun _=>True) ?hr ?hp rE trivial (Below.refl _ _) (Nat.le_refl _) gQ ?_;(case hd=>rfl);(case hg=>rfl);(case hr=>exact kz);(case hp=>exact xk);intro a1Q w5 ho6 hb hg_ hnew_;clear hg_ hnew_;(first|rw[←anV.o] at ho6|(simp only[Int.reduceToNat] at ho6;rw[←anV.o] at ho6));have n_:=jA (Kd.sZ ho6 (ah FT)) (jA (dE rR hb) (jC (ae FT hb)));clear rR HB;obtain ⟨aBY,rR,HB⟩:=n_;clear hb ho6;have q7:(1:Int)≤((l0.length:Int):Int):=oT bL;obtain ⟨i07,aBZ,_,aB0,_⟩:=info_parts JK;have XC:l0.length≤c0:=BI.o;have hC7:Kd.C (Kd.slice 9 Kd.string) _ A0 l0.length l0:=t_.o;have aB1:=ae4 (P:=Tryz.prog) 42 24 .i64 Tryz.underlying42 aBZ 1 aB0 A0 l0.length c0 1 bG q7;have hr7:=Kd.ar1 (m:=(1:Int).toNat) (c:=c0) hC7 bG XC;obtain ⟨A7,hA7⟩:∃A1,A1=(if c0=(1:Int).toNat then A0 else (A0:Option Addr).map (·.add ((1:Int).toNat * 1))):=⟨_,rfl⟩;obtain ⟨c7,hc7⟩:∃c1,c1=c0 - (1:Int).toNat:=⟨_,rfl⟩;have hy7:FV.length=l0.length - (1:Int).toNat:=(by rw[anW.o,List.length_drop]<;>omega);rw[show (l0).drop (1:Int).toNat=FV from anW.o.symm] at hr7;replace hr7:Kd.C (Kd.slice 9 Kd.string) _ A7 FV.length FV:=(by rw[hA7];exact hr7);rw[←hy7,←hA7,←hc7] at aB1;have anX:=jC hr7;have aW3:=jC (show FV.length≤c7 from by rw[hy7,hc7];exact Nat.sub_le_sub_right XC _);clear hr7 hC7 XC aBZ aB0 hc7;have KY7:=jC hy7;have KA7:=jC hA7;clear hy7 hA7;replace q7:=fO q7))
 go_loopg [6,18] k (fun kq v6 v18 w'=>∃(og:List (List Int)) (AZ:Int) (JR:Int) (JS:Int) (JU:Int),v18=.int .i64 AZ∧aa (fB.l0 kq a1 og FV (FV.length:Int) AZ=some (r1,r2,r3,r4))∧aa (kq≤k)∧aa (Kd.S (Kd.slice 3 (Kd.int .i64)) 26 w' w.heap.size (fun _=>True) v6 og)∧aa (w'.heap[Qg]?=some (.cells #[.int .i64 JR,.int .i64 JS,.int .i64 JU] 33 (0,0)))∧aa (Below w.heap.size w w'))
 case atStart=>exact ⟨(aPM),(0),(0),(0),(0),bT,H',⟨Nat.le_refl _⟩,⟨by refine pS ?_;exact aBY.o⟩,⟨ajw⟩,⟨FT⟩⟩
 case round=>
  clear H';obtain ⟨og,AZ,JR,JS,JU,rfl,HA,rF,iy,rR,HB⟩:=hrel
  cases gk with
  |zero=>exact absurd HA.o (by simp [fB.l0])
  |succ k1=>
   have H:=HA.o;clear HA;simp only[fB.l0] at H
   replace H:=iD H;obtain ⟨vV,-,H⟩|⟨vV,-,H⟩:=H
   ·simp only[Option.some.injEq,Prod.mk.injEq] at H;obtain ⟨rfl,rfl,rfl,rfl⟩:=H;obtain ⟨_,_,_,_,_,_⟩:=cells3 rR.o
    go_wp2
    refine bodyPost_ret (nR rfl _ _ Qg 33 #[.int .i64 0,.int .i64 0,.int .i64 0] (0,0) _ rfl aqS Tryz.underlying33 rfl bD) rfl ?_;exact ⟨_,fT,by refine pS ?_;exact Kd.gu (hS3 iy.o rR.o) o8,FT⟩
   obtain ⟨G6,-,H⟩:=l5 H;obtain ⟨vC,-,H⟩:=l5 H
   replace H:=iE H;obtain ⟨yA,Qa,c11,H⟩|⟨yA,Qa,-,H⟩:=H
   ·simp only[Option.some.injEq,Prod.mk.injEq] at H;obtain ⟨rfl,rfl,rfl,rfl⟩:=H;obtain ⟨aPO,aPP,aB3,ar2,ar3,ar4,A_,ake,Rp⟩:=S9 anX.o AZ
    cases ar4
    replace A_:=(HB.o.cell (World.block_lt_of_cell? w _ A_)).trans A_;obtain ⟨_,_,_,_,_,_⟩:=cells3 rR.o
    go_wp2
    refine bodyPost_ret (nR rfl _ _ Qg 33 #[.int .i64 4,.int .i64 (wrap64 (AZ+1)),.int .i64 0] (0,0) _ rfl aqS Tryz.underlying33 rfl bD) rfl ?_;exact ⟨_,fT,Bu,FT⟩
   generalize hyy:(([]:List Int))=aPQ at H;have anY:=jC hyy.symm;clear hyy;have H':=jC H;clear H;obtain ⟨aPO,aPP,aB3,ar2,ar3,ar4,A_,ake,Rp⟩:=S9 anX.o AZ
   cases ar4
   replace A_:=(HB.o.cell (World.block_lt_of_cell? w _ A_)).trans A_
   go_wp2_with (first|((with_reducible refine aG (N:=30) rfl ?_);refine Kd.sQ (Kd.int .i64) _ 3 ?hg (N:=30) ?hd (xs:=([]:List Int)) (inner:=[]) (ok:=fun _=>True) (okp:=fun _=>True) ?hr ?hp rE trivial (Below.refl _ _) (Nat.le_refl _) gQ ?_;(case hd=>rfl);(case hg=>rfl);(case hr=>exact kz);(case hp=>exact xk);intro a1R Q9 vF hb hg_ hnew_;clear hg_ hnew_;(first|rw[←anY.o] at vF|(simp only[Int.reduceToNat] at vF;rw[←anY.o] at vF));have n_:=jA (Kd.tK ayq (Kd.dJ vF) hb) (jA (Kd.dC vF (ah FT)) (jA (dE rR hb) (jC (ae FT hb))));clear iy rR HB;obtain ⟨iy,aB4,rR,HB⟩:=n_;clear hb vF))
   go_loopg [9,33] k1 (fun kq v9 v33 w'=>∃(Rq:List Int) (Iq:Int) (Fq:Int) (Fs:Int) (Fu:Int),v33=.int .i64 Iq∧aa (fB.l1 kq a1 og AZ Rq FV (FV.length:Int) AZ (aN FV AZ) ((aN FV AZ).length:Int) Iq=some (r1,r2,r3,r4))∧aa (kq≤k1)∧aa (Kd.S (Kd.slice 3 (Kd.int .i64)) 26 w' w.heap.size (fun k_=>some k_≠(v9:Value).ownBlock) u6 og)∧aa (Kd.R (Kd.int .i64) 3 w' w.heap.size (fun _=>True) v9 Rq)∧aa (w'.heap[Qg]?=some (.cells #[.int .i64 Fq,.int .i64 Fs,.int .i64 Fu] 33 (0,0)))∧aa (Below w.heap.size w w'))
   case atStart=>exact ⟨(aPQ),(0),(JR),(JS),(JU),bT,H',⟨Nat.le_refl _⟩,⟨ax4⟩,⟨by refine pR ?_;exact aB4.o⟩,⟨ajw⟩,⟨FT⟩⟩
   case round=>
    clear H'
    try clear hx6
    try clear A_
    obtain ⟨Rq,Iq,Fq,Fs,Fu,rfl,HA,vD,iy,O0,rR,HB⟩:=hrel
    cases gk with
    |zero=>exact absurd HA.o (by simp [fB.l1])
    |succ k2=>
     have H:=HA.o;clear HA;simp only[fB.l1] at H
     replace H:=iD H;obtain ⟨Gf,-,H⟩|⟨Gf,-,H⟩:=H
     ·obtain ⟨c24,H⟩:=nD H;have UZ:=jC c24;clear c24;generalize hyy:(og++ [Rq])=aPR at H;have aB5:=jC hyy.symm;clear hyy;have H':=jC H;clear H;obtain ⟨aB6,aB7,aPS⟩:=Kd.bR O0.o;subst aPS
      go_wp2_with (first|((with_reducible refine bJ (b:=.append) (xs:=#[.tmp 54,.tmp 56]) rfl ?_);at_builtin;refine Kd.Ce (Kd.slice 3 (Kd.int .i64)) (w0:=w) w.heap.size rfl (.tmp 54) (.tmp 56) 25 26 (.slice none 0 0) 24 rfl Tryz.underlying25 Bv rfl au bG u6 og Rq [.slice aB6 Rq.length aB7] (fun _=>True) (fun k_=>some k_=(.slice aB6 Rq.length aB7:Value).ownBlock) rfl rfl ?aP (fun k_ hk_=>((Kd.aD (ok':=fun k_=>((fun _=>True)) k_∧some k_≠(u6:Value).ownBlock) (Kd.ji (O0.o) (Kd.kI iy.o) au) (fun k_ hk=>⟨trivial,hk.2⟩))).1 k_ hk_.symm) ?aF ?aO ?aB ?aS ?aL ?_;(case aP=>exact Kd.DF (Kd.aD (Kd.yc rfl (Kd.aD (ok':=fun k_=>((fun _=>True)) k_∧some k_≠(u6:Value).ownBlock) (Kd.ji (O0.o) (Kd.kI iy.o) au) (fun k_ hk=>⟨trivial,hk.2⟩))) rE));(case aB=>exact axf);(case aF=>exact o8);(case aO=>exact (by refine pS ?_;exact Kd.gu iy.o (fun k_ hk=>⟨trivial,fun e_=>hk e_⟩)));(case aS=>exact axd);(case aL=>have:=UZ.o;omega);intro a1S V9 ho hb hg hat;rw[←aB5.o] at ho;have n_:=jA (kQ rR hg (Kd.Ex iy.o rR.o au)) (jA (hb) (jC (ho)));clear rR HB iy O0;obtain ⟨rR,HB,aB8⟩:=n_;clear ho hb hg hat))
      go_roundg k2
      case measure=>have:=rF.o;have:=vD.o;omega
      case rel=>exact ⟨(aPR),(wrap64 (AZ+1)),(Fq),(Fs),(Fu),bT,H',⟨Ca⟩,⟨by refine pS ?_;exact aB8.o⟩,⟨ajw⟩,⟨FT⟩⟩
     obtain ⟨zx,-,H⟩:=l5 H;obtain ⟨Gg,-,H⟩:=l5 H;obtain ⟨⟨ar5,a1T⟩,O6,H⟩:=bd H
     try dsimp only at H
     replace H:=iB H;obtain ⟨rfl,G⟩|⟨rfl,G⟩:=H
     ·have H:=G;clear G;simp only[Option.some.injEq,Prod.mk.injEq] at H;obtain ⟨rfl,rfl,rfl,rfl⟩:=H;obtain ⟨aPT,aPU,aB9,ar6,Dc⟩:=gS Rp.o Iq
      cases ar6
      replace Dc:=(HB.o.cell (World.block_lt_of_cell? w _ Dc)).trans Dc
      go_wp2_with (first|(refine gR 40 Tryz.func67 #[.string (jg ByteArray.empty (aN FV AZ) Iq)] (ay.calls ?ai O6.o) (h:=?_);(case ai=>exact aw8);intro wC hb;have n_:=jA (dE rR hb) (jC (ae FT hb));clear iy O0 rR HB;obtain ⟨rR,HB⟩:=n_;obtain ⟨_,_,_,_,_,_⟩:=cells3 rR.o))
      refine bodyPost_ret (nR rfl _ _ Qg 33 #[.int .i64 9,.int .i64 (wrap64 (AZ+1)),.int .i64 Iq] (0,0) _ rfl aqS Tryz.underlying33 rfl bD) rfl ?_;exact ⟨_,fT,Bu,FT⟩
     have H:=G;clear G;obtain ⟨c19,H⟩:=nD H;have YV:=jC c19;clear c19;generalize hyy:(Rq++ [ar5])=aPV at H;have aCa:=jC hyy.symm;clear hyy;have H':=jC H;clear H;obtain ⟨aPT,aPU,aB9,ar6,Dc⟩:=gS Rp.o Iq
     cases ar6
     replace Dc:=(HB.o.cell (World.block_lt_of_cell? w _ Dc)).trans Dc
     go_wp2_with (first|(refine gR 40 Tryz.func67 #[.string (jg ByteArray.empty (aN FV AZ) Iq)] (ay.calls ?ai O6.o) (h:=?_);(case ai=>exact aw8);intro w20 hb;have n_:=jA (Kd.nY ayq hb) (jA (Kd.bX ayr hb) (jA (dE rR hb) (jC (ae FT hb))));clear iy O0 rR HB;obtain ⟨iy,O0,rR,HB⟩:=n_)|((with_reducible refine bJ (b:=.append) (xs:=#[.tmp 49,.tmp 51]) rfl ?_);at_builtin;refine Kd.gH (Kd.int .i64) (w0:=w) w.heap.size rfl (.tmp 49) (.tmp 51) 26 3 (.int .i64 0) 8 rfl Tryz.underlying26 info3 rfl au bG u9 Rq ar5 [.int .i64 ar5] (fun _=>True) (fun _=>False) rfl rfl ?aP (fun _ hk=>hk.elim) ?aF ?aO ?aB ?aS ?aL ?_;(case aP=>exact rfl);(case aB=>exact axf);(case aF=>exact o8);(case aO=>exact ayr);(case aS=>exact axd);(case aL=>exact Ns);intro a1U w21 ho hb hg hat;rw[←aCa.o] at ho;have n_:=jA (Kd.sW (ok:=(fun _=>True)) (by refine pS ?_;exact Kd.gu iy.o (fun _ hk=>⟨trivial,hk⟩)) hg hat) (jA (kQ rR hg (Kd.lJ O0.o rR.o au)) (jA (hb) (jC (ho))));clear iy rR HB O0;obtain ⟨iy,rR,HB,aCb⟩:=n_;clear ho hb hg hat))
     go_roundg k2
     case measure=>have:=rF.o;have:=vD.o;omega
     case rel=>exact ⟨(aPV),(wrap64 (Iq+1)),(Fq),(Fs),(Fu),bT,H',⟨Ca⟩,⟨ax4⟩,⟨by refine pR ?_;exact aCb.o⟩,⟨ajw⟩,⟨FT⟩⟩
def kM.f (l0:List Int):Option (List Int):=if l0.length * 8≤140737488355328 then some l0 else none
theorem kM.calls {A0:Option Addr} {c0:Nat} {l0:List Int} {r:List Int} {w:World} (hr0:Kd.C (Kd.int .i64) w A0 l0.length l0) (hc0:l0.length≤c0) (h:kM.f l0=some r):
  Calls Tryz.prog 32 #[.slice A0 l0.length c0] w fun e w'=>∃Ee:Value,e=.returned (Ee)∧Kd.R (Kd.int .i64) 3 w' w.heap.size (fun _=>True) Ee r∧Below w.heap.size w w':=by
 unfold kM.f at h
 by_cases hb:l0.length * 8≤140737488355328
 rotate_left
 ·rw[if_neg hb] at h;cases h
 rw[if_pos hb] at h;obtain rfl:=Option.some.inj h
 rcases Nat.eq_zero_or_pos l0.length with h0|h0
 ·obtain rfl:=List.length_eq_zero_iff.mp h0
  cases A0 with
  |none=>exact (Tryz.slices_Clone_int_nil _ _ w).mono fun e w' ⟨he,hw⟩=>⟨_,he,Kd.Np _ _ _ _ _,hw ▸ Below.refl _ _⟩
  |some a=>exact (Tryz.slices_Clone_int_zero a _ w).mono fun e w' ⟨v,he,ho,_,hb⟩=>⟨v,he,Kd.wV (enc:=Value.int .i64) ho o8,hb⟩
 obtain ⟨_,_,hc'⟩:=hr0;obtain ⟨⟨b,off,f⟩,rfl,hc⟩:=hc' h0;clear hc'
 have hk:∀j,j<l0.length→w.cell? (if j=0 then ⟨b,off,f⟩ else ⟨b,off+j,none⟩)=some (.int .i64 (l0.getD j 0)):=by
  intro j hj;obtain ⟨c,_,hcr,hcell⟩:=hc j _ (List.getElem?_eq_getElem hj);have hcr:c=[Value.int .i64 l0[j]]:=hcr
  have:=hcell 0 (.int .i64 l0[j]) (by rw[hcr];rfl)
  simpa [Kd.int,Kd.scalar,Addr.add,List.getD,List.getElem?_eq_getElem hj] using this
 obtain rfl:f=none:=by
  have:=hk 0 h0
  cases f with
  |none=>rfl
  |some _=>
   simp only[if_true,World.cell?,Option.isSome_some] at this
   split at this<;>simp at this
 have hk:∀j,j<l0.length→w.cell? ⟨b,off+j,none⟩=some (.int .i64 (l0.getD j 0)):=by
  intro j hj
  have:=hk j hj
  by_cases e:j=0
  rotate_left
  ·rwa [if_neg e] at this
  subst e;simpa using this
 exact (Tryz.slices_Clone_int b off _ _ l0 w (Nat.le_refl _) hb hk).mono fun e w' ⟨v,he,ho,_,hb⟩=>⟨v,he,Kd.wV (enc:=Value.int .i64) (by simpa [encs] using ho) o8,hb⟩
end Go.Proofs.YtkjbbnijhpldhaaGreatDoor.QFnTable
