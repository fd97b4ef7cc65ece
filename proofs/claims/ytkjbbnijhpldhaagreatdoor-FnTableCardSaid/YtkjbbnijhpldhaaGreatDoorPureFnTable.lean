/- a table is read as it was written; what is read is right; for all bytes. Conditions: none but the row's own.
-/
import Derived.Test.YtkjbbnijhpldhaaGreatDoorQFnTablex33
import Derived.Lib.Atoi
import Derived.Lib.AtoiAllCases
import Derived.Lib.IndexAny
import Derived.Lib.ItoaLen
import Derived.Lib.TrimByte
set_option linter.unusedVariables false
set_option linter.unusedSimpArgs false
namespace Go.Proofs.YtkjbbnijhpldhaaGreatDoor.Pure
open Go.RowKit Go.Proofs.YtkjbbnijhpldhaaGreatDoor.QFnTable Go.Proofs.YtkjbbnijhpldhaaGreatDoorW.PrintWords Go.Proofs.YtkjbbnijhpldhaaGreatDoorW.PrintLast Go.Proofs.YtkjbbnijhpldhaaGreatDoorW.PrintMore
theorem xg {x:Int} (h1:-9223372036854775808≤x) (h2:x≤9223372036854775807):wrap64 x=x:=by unfold wrap64;omega
theorem wO {x:Int} (h1:-9223372036854775808≤x:=by omega) (h2:x≤9223372036854775807:=by omega):wrap64 x=x:=xg h1 h2
theorem awi {xs:List Int} {i:Int} (h0:0≤i) (h:i<(xs.length:Int)):xs[i.toNat]?=some (rd xs i):=by
 unfold rd;rw[List.getD_eq_getElem?_getD,List.getElem?_eq_getElem (by omega)]
 rfl
theorem acO {xs:List Int} {i:Int} (h0:0≤i) (h:i<(xs.length:Int)):rd xs i ∈ xs:=List.mem_of_getElem? (awi h0 h)
theorem Ay {xs:List Int} {n:Nat} {v:Int} (h:xs[n]?=some v):rd xs (n:Int)=v:=by
 unfold rd;rw[List.getD_eq_getElem?_getD,Int.toNat_natCast,h]
 rfl
theorem wF {α:Type} {r:α} {p:Option α} (h:p=some r):Ev (fun _=>p) r:=⟨0,fun _ _=>h⟩
theorem Cu {α:Type} {g:Nat→Option α} {r:α} (h:∀k,g (k+1)=some r):Ev g r:=Ev.step (f:=fun _=>some r) h (Ev.now r)
theorem av {α:Type} {c:Prop} [Decidable c] {f g:Nat→Option α} {r:α} (hc:c) (h:Ev f r):Ev (fun k=>if c then f k else g k) r:=Ev.congr (fun _=>if_pos hc) h
theorem iU {α:Type} {c:Prop} [Decidable c] {f g:Nat→Option α} {r:α} (h:Ev f r) (hc:c:=by omega):Ev (fun k=>if c then f k else g k) r:=av hc h
theorem aZ {α:Type} {c:Prop} [Decidable c] {f g:Nat→Option α} {r:α} (hc:¬c) (h:Ev g r):Ev (fun k=>if c then f k else g k) r:=Ev.congr (fun _=>if_neg hc) h
theorem xY {α:Type} {c:Prop} [Decidable c] {f g:Nat→Option α} {r:α} (h:Ev g r) (hc:¬c:=by omega):Ev (fun k=>if c then f k else g k) r:=aZ hc h
noncomputable def dec (p:Prop):Bool:=@decide p (Classical.propDecidable p)
theorem gG {p:Prop} (h:p):dec p=true:=@decide_eq_true p (Classical.propDecidable p) h
theorem dS {p:Prop} (h:¬p):dec p=false:=@decide_eq_false p (Classical.propDecidable p) h
theorem jU {p q:Prop} (h:p↔q):dec p=dec q:=by rw[propext h]
theorem apP {p:Prop} [Decidable p]:dec p=decide p:=by
 by_cases h:p
 ·rw[gG h,decide_eq_true h]
 ·rw[dS h,decide_eq_false h]
theorem aI {α:Type} {g:Nat→Option α} {r:α} (h:Ev (fun k=>g (k+1)) r):Ev g r:=by
 obtain ⟨K,h⟩:=h;refine ⟨K+1,fun n hn=>?_⟩
 obtain ⟨m,rfl⟩:∃m,n=m+1:=⟨n - 1,by omega⟩
 exact h m (by omega)
theorem fu {α:Type} {g:Nat→Option α} {r r':α} (h:Ev g r) (e:r=r'):Ev g r':=e ▸ h
theorem amw {α:Type} (z:α) {xs:List α} {i:Int} (h0:0≤i) (h:i<(xs.length:Int)):xs[i.toNat]?=some (xs.getD i.toNat z):=by
 rw[List.getD_eq_getElem?_getD,List.getElem?_eq_getElem (by omega)]
 rfl
theorem acP (F:Nat→Int→Option Bool) (L:Nat) (p:Nat→Prop) (hend:Ev (fun k=>F k (L:Int)) true)
  (hyes:∀(n:Nat) (r:Bool),n<L→p n→Ev (fun k=>F k ((n+1:Nat):Int)) r→Ev (fun k=>F k (n:Int)) r)
  (hno:∀n:Nat,n<L→¬p n→Ev (fun k=>F k (n:Int)) false):
  ∀(d n:Nat),n+d=L→Ev (fun k=>F k (n:Int)) (dec (∀j,n≤j→j<L→p j)):=by
 intro d
 induction d with
 |zero=>
  intro n hn
  obtain rfl:n=L:=by omega
  exact fu hend (gG (fun j h1 h2=>by omega)).symm
 |succ d ih=>
  intro n hn
  by_cases h:p n
  ·refine hyes n _ (by omega) h (fu (ih (n+1) (by omega)) (jU ⟨fun g j h1 h2=>?_,fun g j h1 h2=>g j (by omega) h2⟩))
   by_cases e:j=n
   ·exact e ▸ h
   ·exact g j (by omega) h2
  ·exact fu (hno n (by omega) h) (dS (fun g=>h (g n (Nat.le_refl _) (by omega)))).symm
theorem Jt {σ ρ:Type} (F:Nat→σ→Int→Option ρ) (L:Nat) (S:Nat→σ) (r:ρ) (hend:Ev (fun k=>F k (S L) (L:Int)) r)
  (hstep:∀n:Nat,n<L→Ev (fun k=>F k (S (n+1)) ((n+1:Nat):Int)) r→Ev (fun k=>F k (S n) (n:Int)) r):
  ∀(d n:Nat),n+d=L→Ev (fun k=>F k (S n) (n:Int)) r:=by
 intro d
 induction d with
 |zero=>
  intro n hn
  obtain rfl:n=L:=by omega
  exact hend
 |succ d ih=>
  intro n hn;exact hstep n (by omega) (ih (n+1) (by omega))
theorem Ju (F:Nat→Int→Option Bool) (L:Nat) (p:Nat→Prop) (E:Prop) (hend:Ev (fun k=>F k (L:Int)) (dec E))
  (hyes:∀(n:Nat) (r:Bool),n<L→p n→Ev (fun k=>F k ((n+1:Nat):Int)) r→Ev (fun k=>F k (n:Int)) r)
  (hno:∀n:Nat,n<L→¬p n→Ev (fun k=>F k (n:Int)) false):
  ∀(d n:Nat),n+d=L→Ev (fun k=>F k (n:Int)) (dec ((∀j,n≤j→j<L→p j)∧E)):=by
 intro d
 induction d with
 |zero=>
  intro n hn
  obtain rfl:n=L:=by omega
  exact fu hend (jU ⟨fun h=>⟨fun j h1 h2=>by omega,h⟩,fun h=>h.2⟩)
 |succ d ih=>
  intro n hn
  by_cases h:p n
  ·refine hyes n _ (by omega) h (fu (ih (n+1) (by omega)) (jU ⟨fun g=>⟨fun j h1 h2=>?_,g.2⟩,fun g=>⟨fun j h1 h2=>g.1 j (by omega) h2,g.2⟩⟩))
   by_cases e:j=n
   ·exact e ▸ h
   ·exact g.1 j (by omega) h2
  ·exact fu (hno n (by omega) h) (dS (fun g=>h (g.1 n (Nat.le_refl _) (by omega)))).symm
theorem ait (l:List Int):laws_big.f l=some (decide ((l.length:Int)>1048576)):=rfl
theorem acQ (x:Int):0≤Go.bits .and .i64 x 255∧Go.bits .and .i64 x 255≤255:=by
 simp only[Go.bits]
 have h:(BitVec.ofInt IntKind.i64.bits x &&& BitVec.ofInt IntKind.i64.bits 255).toNat≤255:=by
  rw[BitVec.toNat_and];exact Nat.le_trans Nat.and_le_right (by decide)
 rw[IntKind.wrap_i64]
 omega
theorem acR (l:List Int) (hl:l.length≤35184372088832):∀(d n:Nat) (x:Int),n+d=l.length→∃h,Ev (fun k=>kN.l0 k l x (n:Int)) (l,0,h):=by
 intro d
 induction d with
 |zero=>
  intro n x hn;refine ⟨x,Cu fun k=>?_⟩;simp only[kN.l0];rw[if_neg (by omega)]
 |succ d ih=>
  intro n x hn
  by_cases h4:(n:Int)<4000
  ·obtain ⟨h,e⟩:=ih (n+1) (Go.bits .and .i64 (wrap64 ((wrap64 ((wrap64 (x * 131))+(wrap64 (rd l n))))+7)) 1073741823) (by omega);refine ⟨h,Ev.step (fun k=>?_) e⟩;simp only[kN.l0];rw[if_pos (by omega),if_pos h4,if_pos (by omega),xg (x:=(n:Int)+1) (by omega) (by omega)]
   rfl
  ·refine ⟨x,Cu fun k=>?_⟩;simp only[kN.l0];rw[if_pos (by omega),if_neg h4]
theorem amx (l:List Int) (hl:l.length≤35184372088832):∃h,Ev (fun k=>kN.f k l) (l,0,h):=acR l hl l.length 0 _ (by omega)
def Ao (l:List Int) (i:Int):Prop:=0≤i∧i≤l.length∧l.length≤35184372088832
theorem awj (l:List Int) (hl:l.length≤35184372088832):Ao l 0:=⟨by omega,by omega,hl⟩
theorem Jv {l:List Int} {i:Int} (h:Int) (hc:Ao l i):∃r i' h',kL.f l i h=some (r,i',h')∧Ao l i'∧0≤r∧r≤255:=by
 unfold Ao at *;unfold kL.f
 by_cases h1:i<(l.length:Int)
 ·rw[if_pos h1,if_pos hc.1,xg (x:=i+1) (by omega) (by omega)];exact ⟨_,_,_,rfl,by omega,acQ _⟩
 ·rw[if_neg h1];exact ⟨_,_,_,rfl,by omega,acQ _⟩
theorem kW {l:List Int} {i:Int} (h:Int) (n:Int) (hc:Ao l i):∃r i' h',bf.f l i h n=some (r,i',h')∧Ao l i'∧0≤r∧(0<n→r<n)∧(n≤0→r=0):=by
 unfold bf.f
 by_cases h1:n≤0
 ·rw[if_pos h1];exact ⟨0,_,_,rfl,hc,by omega,by omega,fun _=>rfl⟩
 rw[if_neg h1]
 by_cases h2:n≤256
 ·rw[if_pos h2];obtain ⟨r,i',h',e,hc',h3,h4⟩:=Jv h hc;rw[e];simp only[Option.bind_some];rw[if_neg (by omega)];refine ⟨_,_,_,rfl,hc',?_,?_,by omega⟩
  ·rw[Int.tmod_eq_emod_of_nonneg h3];exact Int.emod_nonneg _ (by omega)
  ·intro _;rw[Int.tmod_eq_emod_of_nonneg h3];exact Int.emod_lt_of_pos _ (by omega)
 ·rw[if_neg h2];obtain ⟨x,i1,h1,e1,hc1,x1,x2⟩:=Jv h hc;obtain ⟨y,i2,h2,e2,hc2,y1,y2⟩:=Jv h1 hc1;obtain ⟨z,i3,h3,e3,hc3,z1,z2⟩:=Jv h2 hc2;obtain ⟨w,i4,h4,e4,hc4,w1,w2⟩:=Jv h3 hc3;simp only[e1,e2,e3,e4,Option.bind_some];rw[if_neg (by omega),xg (x:=x * 16777216) (by omega) (by omega),xg (x:=y * 65536) (by omega) (by omega),xg (x:=x * 16777216+y * 65536) (by omega) (by omega),xg (x:=z * 256) (by omega) (by omega),xg (x:=x * 16777216+y * 65536+z * 256) (by omega) (by omega),xg (x:=x * 16777216+y * 65536+z * 256+w) (by omega) (by omega)]
  have h5:0≤x * 16777216+y * 65536+z * 256+w:=by omega
  refine ⟨_,_,_,rfl,hc4,?_,?_,by omega⟩
  ·rw[Int.tmod_eq_emod_of_nonneg h5];exact Int.emod_nonneg _ (by omega)
  ·intro _;rw[Int.tmod_eq_emod_of_nonneg h5];exact Int.emod_lt_of_pos _ (by omega)
theorem zS {l:List Int} {i:Int} (h:Int) (n:Int) (hc:Ao l i):∃r i' h',iN.f l i h n=some (r,i',h')∧Ao l i':=by
 unfold iN.f;obtain ⟨a,i1,h1,e1,c1,_⟩:=kW h n hc;rw[e1];exact ⟨_,_,_,rfl,c1⟩
theorem E5 {l:List Int} {i:Int} (h:Int) (xs:List Int) (hc:Ao l i) (hx:0<xs.length):∃r i' h',lG.f l i h xs=some (r,i',h')∧Ao l i'∧r ∈ xs:=by
 unfold lG.f;obtain ⟨r,i',h',e,hc',h1,h2,_⟩:=kW h (xs.length:Int) hc;rw[e];simp only[Option.bind_some];have h3:=h2 (by omega);rw[if_pos h1,if_pos h3];exact ⟨_,_,_,rfl,hc',acO h1 h3⟩
def I64 (a:Int):Prop:=-9223372036854775808≤a∧a≤9223372036854775807
theorem pW (x:Int):I64 (wrap64 x):=by unfold I64 wrap64;omega
theorem Wh {l:List Int}:∀(d n:Nat) (x i h:Int),n+d=8→I64 x→Ao l i→∃r i' h',Ev (fun k=>kH.l0 k x (n:Int) l i h) (r,i',h')∧Ao l i'∧I64 r:=by
 intro d
 induction d with
 |zero=>
  intro n x i h hn hx hc;refine ⟨x,i,h,Cu fun k=>?_,hc,hx⟩;simp only[kH.l0];rw[if_neg (by omega)]
 |succ d ih=>
  intro n x i h hn hx hc;obtain ⟨b,i1,h1,e1,hc1,_⟩:=Jv h hc;obtain ⟨r,i2,h2,e2,hc2,hr⟩:=ih (n+1) (wrap64 ((wrap64 (x * 256))+b)) i1 h1 (by omega) (pW _) hc1;refine ⟨r,i2,h2,Ev.step (fun k=>?_) e2,hc2,hr⟩;simp only[kH.l0,e1,Option.bind_some];rw[if_pos (by omega),xg (x:=(n:Int)+1) (by omega) (by omega)]
  rfl
theorem aiu {l:List Int} {i:Int} (h:Int) (hc:Ao l i):∃r i' h',Ev (fun k=>kH.f k l i h) (r,i',h')∧Ao l i'∧I64 r:=by
 unfold kH.f;obtain ⟨a,i1,h1,e1,hc1,a1,a2,_⟩:=kW h 4 hc;rw[e1];simp only[Option.bind_some]
 by_cases c0:a=0
 ·obtain ⟨r,i2,h2,e2,hc2,hr⟩:=E5 h1 ([0,1,(-1),9,10,999,1000,2147483647,(-2147483648),3037000499,3037000500,9223372036854775807,(-9223372036854775807),(-9223372036854775808)]:List Int) hc1 (by simp);refine ⟨r,i2,h2,av c0 ?_,hc2,?_⟩
  ·rw[e2];exact Ev.now _
  ·simp only[List.mem_cons,List.not_mem_nil,or_false] at hr;unfold I64;omega
 by_cases c1:a=1
 ·obtain ⟨r,i2,h2,e2,hc2,hr⟩:=Wh 8 0 0 i1 h1 (by omega) ⟨by decide,by decide⟩ hc1;exact ⟨r,i2,h2,aZ c0 (av c1 e2),hc2,hr⟩
 by_cases c2:a=2
 ·obtain ⟨r,i2,h2,e2,hc2,_⟩:=kW h1 1000000 hc1;refine ⟨wrap64 (r - 500000),i2,h2,aZ c0 (aZ c1 (av c2 ?_)),hc2,pW _⟩;rw[e2];exact Ev.now _
 ·obtain ⟨r,i2,h2,e2,hc2,_⟩:=kW h1 41 hc1;refine ⟨wrap64 (r - 20),i2,h2,aZ c0 (aZ c1 (aZ c2 ?_)),hc2,pW _⟩;rw[e2];exact Ev.now _
def MH (l:List Int):Prop:=∀x ∈ l,I64 x
theorem MH.snoc {l:List Int} (h:MH l) {x:Int} (hx:I64 x):MH (l++ [x]):=by
 intro y hy
 rcases List.mem_append.1 hy with hy|hy
 ·exact h y hy
 ·simp only[List.mem_singleton] at hy;subst hy;exact hx
theorem QC {l:List Int} {i:Int} (h:Int) (xs:List ByteArray) (hc:Ao l i) (hx:0<xs.length):∃r i' h',lH.f l i h xs=some (r,i',h')∧Ao l i'∧r ∈ xs:=by
 unfold lH.f;obtain ⟨r,i',h',e,hc',h1,h2,_⟩:=kW h (xs.length:Int) hc;rw[e];simp only[Option.bind_some];have h3:=h2 (by omega);rw[if_pos h1,if_pos h3];refine ⟨_,_,_,rfl,hc',?_⟩;exact List.mem_of_getElem? (amw ByteArray.empty h1 h3)
theorem YB {l:List Int} {i:Int} (h:Int) (hc:Ao l i):∃r i' h',lh.f l i h=some (r,i',h')∧Ao l i'∧I64 r:=by
 unfold lh.f;obtain ⟨a,i1,h1,e1,c1⟩:=zS h 20 hc;rw[e1];simp only[Option.bind_some]
 by_cases g:a=true
 ·obtain ⟨r,i2,h2,e2,c2,hr⟩:=E5 h1 ([2147483647,(-2147483647),1,(-1),1000000000]:List Int) c1 (by simp);rw[if_pos g,e2];refine ⟨_,_,_,rfl,c2,?_⟩;simp only[List.mem_cons,List.not_mem_nil,or_false] at hr;unfold I64;dsimp only;omega
 ·rw[if_neg g];obtain ⟨b,i2,h2,e2,c2⟩:=zS h1 2 c1;rw[e2];simp only[Option.bind_some]
  by_cases g2:b=true
  ·obtain ⟨r,i3,h3,e3,c3,_⟩:=kW h2 9 c2;rw[if_pos g2,e3];exact ⟨_,_,_,rfl,c3,pW _⟩
  ·obtain ⟨r,i3,h3,e3,c3,_⟩:=kW h2 41 c2;rw[if_neg g2,e3];exact ⟨_,_,_,rfl,c3,pW _⟩
def xx (n:Nat) (R:List (List Int)):Prop:=∀r ∈ R,r.length=n∧MH r
theorem xx.snoc {n:Nat} {R:List (List Int)} (h:xx n R) {r:List Int} (hl:r.length=n) (hr:MH r):xx n (R++ [r]):=by
 intro y hy
 rcases List.mem_append.1 hy with hy|hy
 ·exact h y hy
 ·obtain rfl:=List.mem_singleton.1 hy;exact ⟨hl,hr⟩
theorem Wi {l:List Int} (N M:Nat) (hN:N≤4) (hN0:0<N) (far:Bool) (names:List ByteArray) (t:ByteArray) (m:Nat) (hm:m<M) (hM:M≤40) (R:List (List Int)) (Y:List Int) (hR:xx N R) (hRl:R.length=m) (hY:MH Y) (hYl:Y.length=m)
  (next:∀(R':List (List Int)) (Y':List Int) (i h:Int),xx N R'→R'.length=m+1→MH Y'→Y'.length=m+1→Ao l i→∃R2 Y2 i' h',Ev (fun k=>aM.l0 k (N:Int) (M:Int) far ((m+1:Nat):Int) l i h names t R' Y') (names,t,R2,Y2,i',h')∧Ao l i'∧xx N R2∧R2.length=M∧MH Y2∧Y2.length=M):
  ∀(d n:Nat) (xs:List Int) (i h:Int),n+d=N→xs.length=n→MH xs→Ao l i→
  ∃R2 Y2 i' h',Ev (fun k=>aM.l1 k (N:Int) (M:Int) far (m:Int) xs (n:Int) l i h names t R Y) (names,t,R2,Y2,i',h')∧Ao l i'∧xx N R2∧R2.length=M∧MH Y2∧Y2.length=M:=by
 intro d
 induction d with
 |zero=>
  intro n xs i h hn hl hx hc;obtain ⟨y,i1,h1,e1,c1,hy⟩:=YB h hc;have hw:wrap64 ((m:Int)+1)=((m+1:Nat):Int):=wO;have hRs:xx N (R++ [xs]):=hR.snoc (by omega) hx
  by_cases g:far=true
  ·obtain ⟨R2,Y2,i2,h2,e2,r⟩:=next (R++ [xs]) (Y++ [y]) i1 h1 hRs (by simp [hRl]) (hY.snoc hy) (by simp [hYl]) c1
   refine ⟨R2,Y2,i2,h2,aI ?_,r⟩;simp only[aM.l1,e1,Option.bind_some,hw];exact xY (iU (av g (iU e2)))
  ·obtain ⟨b,i2,h2,e2,c2⟩:=zS h1 4 c1
   by_cases g2:b=true
   ·obtain ⟨R2,Y2,i3,h3,e3,r⟩:=next (R++ [xs]) (Y++ [y]) i2 h2 hRs (by simp [hRl]) (hY.snoc hy) (by simp [hYl]) c2
    refine ⟨R2,Y2,i3,h3,aI ?_,r⟩;simp only[aM.l1,e1,e2,Option.bind_some,hw];exact xY (iU (aZ g (av g2 (iU e3))))
   ·obtain ⟨z,i3,h3,e3,c3,_⟩:=kW h2 5 c2
    obtain ⟨R2,Y2,i4,h4,e4,r⟩:=next (R++ [xs]) (Y++ [wrap64 ((wrap64 ((rd xs 0) * 2))+(wrap64 (100 * z)))]) i3 h3 hRs (by simp [hRl]) (hY.snoc (pW _)) (by simp [hYl]) c3
    refine ⟨R2,Y2,i4,h4,aI ?_,r⟩;simp only[aM.l1,e1,e2,e3,Option.bind_some,hw];exact xY (iU (aZ g (aZ g2 (iU (iU e4)))))
 |succ d ih=>
  intro n xs i h hn hl hx hc;obtain ⟨y,i1,h1,e1,c1,hy⟩:=YB h hc;have hw:wrap64 ((n:Int)+1)=((n+1:Nat):Int):=wO
  by_cases g:far=true
  ·obtain ⟨R2,Y2,i2,h2,e2,r⟩:=ih (n+1) (xs++ [y]) i1 h1 (by omega) (by simp [hl]) (hx.snoc hy) c1;refine ⟨R2,Y2,i2,h2,aI ?_,r⟩;simp only[aM.l1,e1,Option.bind_some,hw];exact iU (av g (iU e2))
  ·obtain ⟨z,i2,h2,e2,c2,_⟩:=kW h1 7 c1;obtain ⟨R2,Y2,i3,h3,e3,r⟩:=ih (n+1) (xs++ [wrap64 (500 * (wrap64 (z - 3)))]) i2 h2 (by omega) (by simp [hl]) (hx.snoc (pW _)) c2;refine ⟨R2,Y2,i3,h3,aI ?_,r⟩;simp only[aM.l1,e1,e2,Option.bind_some,hw];exact iU (aZ g (iU e3))
theorem Wj {l:List Int} (N M:Nat) (hN:N≤4) (hN0:0<N) (hM:M≤40) (far:Bool) (names:List ByteArray) (t:ByteArray):∀(d m:Nat) (R:List (List Int)) (Y:List Int) (i h:Int),m+d=M→xx N R→R.length=m→MH Y→Y.length=m→Ao l i→
  ∃R2 Y2 i' h',Ev (fun k=>aM.l0 k (N:Int) (M:Int) far (m:Int) l i h names t R Y) (names,t,R2,Y2,i',h')∧Ao l i'∧xx N R2∧R2.length=M∧MH Y2∧Y2.length=M:=by
 intro d
 induction d with
 |zero=>
  intro m R Y i h hm hR hRl hY hYl hc;refine ⟨R,Y,i,h,aI ?_,hc,hR,by omega,hY,by omega⟩;simp only[aM.l0];exact xY (Ev.now _)
 |succ d ih=>
  intro m R Y i h hm hR hRl hY hYl hc;obtain ⟨R2,Y2,i2,h2,e2,r⟩:=Wi (l:=l) N M hN hN0 far names t m (by omega) hM R Y hR hRl hY hYl (fun R' Y' i h a b c d e=>ih (m+1) R' Y' i h (by omega) a b c d e) N 0 [] i h (by omega) rfl (fun x hx=>by simp at hx) hc;refine ⟨R2,Y2,i2,h2,aI ?_,r⟩;simp only[aM.l0];exact iU e2
def Pq (L:List ByteArray) (t:ByteArray) (R:List (List Int)) (Y:List Int):Prop:=
 L.length≤4∧(∀x ∈ L,x.size≤13)∧t.size≤13∧R.length≤42∧(∀r ∈ R,r.length≤5∧MH r)∧Y.length≤42∧MH Y
theorem aiv {l:List Int} {i:Int} (h:Int) (hc:Ao l i):∃L t R Y i' h',Ev (fun k=>aM.f k l i h) (L,t,R,Y,i',h')∧Ao l i'∧
  (0<L.length∧L.length≤3)∧(∀x ∈ L,x.size≤2)∧t.size≤2∧(0<R.length∧R.length≤40)∧xx L.length R∧Y.length=R.length∧MH Y:=by
 unfold aM.f;obtain ⟨a,i1,h1,e1,c1,a1,a2,_⟩:=kW h 3 hc;have a3:=a2 (by omega)
 have hw:wrap64 (1+a)=((1+a.toNat:Nat):Int):=by rw[wO];omega
 obtain ⟨b,i2,h2,e2,c2,b1,b2,_⟩:=kW h1 9 c1;have b3:=b2 (by omega)
 have hb:wrap64 (1+b)=((1+b.toNat:Nat):Int):=by rw[wO];omega
 obtain ⟨o,i3,h3,e3,c3⟩:=zS h2 10 c2;simp only[e1,e2,e3,Option.bind_some,hw,Int.toNat_natCast,List.nil_append];generalize hL:(([(⟨#[97]⟩:ByteArray),(⟨#[98]⟩:ByteArray),(⟨#[99,50]⟩:ByteArray),(⟨#[100]⟩:ByteArray)]:List ByteArray).take (1+a.toNat))=L
 have lL:L.length=1+a.toNat:=by rw[←hL,List.length_take];simp only[List.length_cons,List.length_nil];omega
 have sL:∀x ∈ L,x.size≤2:=by
  intro x hx;rw[←hL] at hx
  have:=List.mem_of_mem_take hx
  simp only[List.mem_cons,List.not_mem_nil,or_false] at this
  rcases this with rfl|rfl|rfl|rfl<;>decide
 have main:∀(M:Nat) (i h:Int),0<M→M≤40→Ao l i→∃R Y i' h',Ev (fun k=>aM.j0 k ((1+a.toNat:Nat):Int) (M:Int) l i h L (⟨#[121]⟩:ByteArray)) (L,(⟨#[121]⟩:ByteArray),R,Y,i',h')∧Ao l i'∧xx (1+a.toNat) R∧R.length=M∧MH Y∧Y.length=M:=by
  intro M i h hM0 hM hc;obtain ⟨far,i1,h1,e1,c1⟩:=zS h 12 hc;obtain ⟨R,Y,i2,h2,e2,r⟩:=Wj (l:=l) (1+a.toNat) M (by omega) (by omega) hM far L (⟨#[121]⟩:ByteArray) M 0 [] [] i1 h1 (by omega) (fun r hr=>by simp at hr) rfl (fun x hx=>by simp at hx) rfl c1;refine ⟨R,Y,i2,h2,aI ?_,r⟩;simp only[aM.j0,e1,Option.bind_some];exact e2
 by_cases g:o=true
 ·obtain ⟨c,i4,h4,e4,c4,d1,d2,_⟩:=kW h3 40 c3;have d3:=d2 (by omega)
  have hcw:wrap64 (1+c)=((1+c.toNat:Nat):Int):=by rw[wO];omega
  obtain ⟨R,Y,i5,h5,e5,c5,r1,r2,r3,r4⟩:=main (1+c.toNat) i4 h4 (by omega) (by omega) c4;refine ⟨L,(⟨#[121]⟩:ByteArray),R,Y,i5,h5,?_,c5,by omega,sL,by decide,by omega,by rw[lL];exact r1,by omega,r3⟩;simp only[e4,Option.bind_some,hcw];exact iU (av (by simp only[List.length_cons,List.length_nil];omega) (av (by simp only[List.length_nil];omega) (av g e5)))
 ·obtain ⟨R,Y,i5,h5,e5,c5,r1,r2,r3,r4⟩:=main (1+b.toNat) i3 h3 (by omega) (by omega) c3;refine ⟨L,(⟨#[121]⟩:ByteArray),R,Y,i5,h5,?_,c5,by omega,sL,by decide,by omega,by rw[lL];exact r1,by omega,r3⟩;simp only[hb];exact iU (av (by simp only[List.length_cons,List.length_nil];omega) (av (by simp only[List.length_nil];omega) (aZ g e5)))
def pX (x:Int):Prop:=-2147483647≤x∧x≤2147483647
def Letter (c:Int):Prop:=97≤c∧c≤122
def Bi (c:Int):Prop:=48≤c∧c≤57
def ll (s:ByteArray) (n:Nat):Prop:=∀j:Nat,n≤j→j<s.size→Letter (bt s (j:Int))∨Bi (bt s (j:Int))
def rz (s:ByteArray):Prop:=1≤s.size∧s.size≤12∧Letter (bt s 0)∧ll s 0
theorem ll.step {s:ByteArray} {n:Nat} (h:n<s.size):ll s n↔(Letter (bt s (n:Int))∨Bi (bt s (n:Int)))∧ll s (n+1):=by
 constructor
 ·exact fun g=>⟨g n (Nat.le_refl _) h,fun j hj=>g j (by omega)⟩
 ·intro ⟨g0,g⟩ j hj hlt
  by_cases e:j=n
  ·subst e;exact g0
  ·exact g j (by omega) hlt
theorem ll.stop {s:ByteArray}:ll s s.size:=fun j h1 h2=>by omega
def Gy (l:List Int):Prop:=∀x ∈ l,pX x
theorem Gy.snoc {l:List Int} (h:Gy l) {x:Int} (hx:pX x):Gy (l++ [x]):=by
 intro y hy
 rcases List.mem_append.1 hy with hy|hy
 ·exact h y hy
 ·simp only[List.mem_singleton] at hy;subst hy;exact hx
theorem Td {l:List Int} {i:Int} (h:Int) (hc:Ao l i):∃r i' h',lh.f l i h=some (r,i',h')∧Ao l i'∧pX r:=by
 unfold lh.f;obtain ⟨a,i1,h1,e1,c1⟩:=zS h 20 hc;rw[e1];simp only[Option.bind_some]
 by_cases g:a=true
 ·obtain ⟨r,i2,h2,e2,c2,hr⟩:=E5 h1 ([2147483647,(-2147483647),1,(-1),1000000000]:List Int) c1 (by simp);rw[if_pos g,e2];refine ⟨_,_,_,rfl,c2,?_⟩;simp only[List.mem_cons,List.not_mem_nil,or_false] at hr;unfold pX;dsimp only;omega
 ·rw[if_neg g];obtain ⟨b,i2,h2,e2,c2⟩:=zS h1 2 c1;rw[e2];simp only[Option.bind_some]
  by_cases g2:b=true
  ·obtain ⟨r,i3,h3,e3,c3,r1,r2,_⟩:=kW h2 9 c2;have r3:=r2 (by omega);rw[if_pos g2,e3];refine ⟨_,_,_,rfl,c3,?_⟩;unfold pX
   dsimp only
   rw[xg (x:=r - 4) (by omega) (by omega),wO]
   omega
  ·obtain ⟨r,i3,h3,e3,c3,r1,r2,_⟩:=kW h2 41 c2;have r3:=r2 (by omega);rw[if_neg g2,e3];refine ⟨_,_,_,rfl,c3,?_⟩;unfold pX
   dsimp only
   rw[xg (x:=r - 20) (by omega) (by omega),wO]
   omega
def BJ (n:Nat) (R:List (List Int)):Prop:=∀r ∈ R,r.length=n∧Gy r
theorem BJ.snoc {n:Nat} {R:List (List Int)} (h:BJ n R) {r:List Int} (hl:r.length=n) (hr:Gy r):BJ n (R++ [r]):=by
 intro y hy
 rcases List.mem_append.1 hy with hy|hy
 ·exact h y hy
 ·obtain rfl:=List.mem_singleton.1 hy;exact ⟨hl,hr⟩
theorem Te {l:List Int} (N M:Nat) (hN:N≤4) (hN0:0<N) (far:Bool) (names:List ByteArray) (t:ByteArray) (m:Nat) (hm:m<M) (hM:M≤40) (R:List (List Int)) (Y:List Int) (hR:BJ N R) (hRl:R.length=m) (hY:Gy Y) (hYl:Y.length=m)
  (next:∀(R':List (List Int)) (Y':List Int) (i h:Int),BJ N R'→R'.length=m+1→Gy Y'→Y'.length=m+1→Ao l i→∃R2 Y2 i' h',Ev (fun k=>aM.l0 k (N:Int) (M:Int) far ((m+1:Nat):Int) l i h names t R' Y') (names,t,R2,Y2,i',h')∧Ao l i'∧BJ N R2∧R2.length=M∧Gy Y2∧Y2.length=M):
  ∀(d n:Nat) (xs:List Int) (i h:Int),n+d=N→xs.length=n→Gy xs→(far=true∨∀x ∈ xs,-1500≤x∧x≤1500)→Ao l i→
  ∃R2 Y2 i' h',Ev (fun k=>aM.l1 k (N:Int) (M:Int) far (m:Int) xs (n:Int) l i h names t R Y) (names,t,R2,Y2,i',h')∧Ao l i'∧BJ N R2∧R2.length=M∧Gy Y2∧Y2.length=M:=by
 intro d
 induction d with
 |zero=>
  intro n xs i h hn hl hx hf hc;obtain ⟨y,i1,h1,e1,c1,hy⟩:=Td h hc;have hw:wrap64 ((m:Int)+1)=((m+1:Nat):Int):=wO;have hRs:BJ N (R++ [xs]):=hR.snoc (by omega) hx
  by_cases g:far=true
  ·obtain ⟨R2,Y2,i2,h2,e2,r⟩:=next (R++ [xs]) (Y++ [y]) i1 h1 hRs (by simp [hRl]) (hY.snoc hy) (by simp [hYl]) c1
   refine ⟨R2,Y2,i2,h2,aI ?_,r⟩;simp only[aM.l1,e1,Option.bind_some,hw];exact xY (iU (av g (iU e2)))
  ·obtain ⟨b,i2,h2,e2,c2⟩:=zS h1 4 c1
   by_cases g2:b=true
   ·obtain ⟨R2,Y2,i3,h3,e3,r⟩:=next (R++ [xs]) (Y++ [y]) i2 h2 hRs (by simp [hRl]) (hY.snoc hy) (by simp [hYl]) c2
    refine ⟨R2,Y2,i3,h3,aI ?_,r⟩;simp only[aM.l1,e1,e2,Option.bind_some,hw];exact xY (iU (aZ g (av g2 (iU e3))))
   ·obtain ⟨z,i3,h3,e3,c3,z1,z2,_⟩:=kW h2 5 c2;have z3:=z2 (by omega);have x0:=hf.resolve_left g _ (List.getElem_mem (by omega:0<xs.length));have er:rd xs 0=xs[0]'(by omega):=Ay (n:=0) (List.getElem?_eq_getElem (by omega))
    have dz:pX (wrap64 ((wrap64 ((rd xs 0) * 2))+(wrap64 (100 * z)))):=by
     rw[er,xg (x:=xs[0]'(by omega) * 2) (by omega) (by omega),xg (x:=100 * z) (by omega) (by omega),wO];unfold pX
     omega
    obtain ⟨R2,Y2,i4,h4,e4,r⟩:=next (R++ [xs]) (Y++ [wrap64 ((wrap64 ((rd xs 0) * 2))+(wrap64 (100 * z)))]) i3 h3 hRs (by simp [hRl]) (hY.snoc dz) (by simp [hYl]) c3
    refine ⟨R2,Y2,i4,h4,aI ?_,r⟩;simp only[aM.l1,e1,e2,e3,Option.bind_some,hw];exact xY (iU (aZ g (aZ g2 (iU (iU e4)))))
 |succ d ih=>
  intro n xs i h hn hl hx hf hc;obtain ⟨y,i1,h1,e1,c1,hy⟩:=Td h hc;have hw:wrap64 ((n:Int)+1)=((n+1:Nat):Int):=wO
  by_cases g:far=true
  ·obtain ⟨R2,Y2,i2,h2,e2,r⟩:=ih (n+1) (xs++ [y]) i1 h1 (by omega) (by simp [hl]) (hx.snoc hy) (.inl g) c1;refine ⟨R2,Y2,i2,h2,aI ?_,r⟩;simp only[aM.l1,e1,Option.bind_some,hw];exact iU (av g (iU e2))
  ·have hs:=hf.resolve_left g;obtain ⟨z,i2,h2,e2,c2,z1,z2,_⟩:=kW h1 7 c1;have z3:=z2 (by omega)
   have sz:-1500≤wrap64 (500 * (wrap64 (z - 3)))∧wrap64 (500 * (wrap64 (z - 3)))≤1500:=by rw[xg (x:=z - 3) (by omega) (by omega),wO];omega
   have dz:pX (wrap64 (500 * (wrap64 (z - 3)))):=by unfold pX;omega
   obtain ⟨R2,Y2,i3,h3,e3,r⟩:=ih (n+1) (xs++ [wrap64 (500 * (wrap64 (z - 3)))]) i2 h2 (by omega) (by simp [hl]) (hx.snoc dz) (.inr fun x hx=>(List.mem_append.1 hx).elim (hs x) (fun h=>by rw[List.mem_singleton.1 h];exact sz)) c2;refine ⟨R2,Y2,i3,h3,aI ?_,r⟩;simp only[aM.l1,e1,e2,Option.bind_some,hw];exact iU (aZ g (iU e3))
theorem Tf {l:List Int} (N M:Nat) (hN:N≤4) (hN0:0<N) (hM:M≤40) (far:Bool) (names:List ByteArray) (t:ByteArray):∀(d m:Nat) (R:List (List Int)) (Y:List Int) (i h:Int),m+d=M→BJ N R→R.length=m→Gy Y→Y.length=m→Ao l i→
  ∃R2 Y2 i' h',Ev (fun k=>aM.l0 k (N:Int) (M:Int) far (m:Int) l i h names t R Y) (names,t,R2,Y2,i',h')∧Ao l i'∧BJ N R2∧R2.length=M∧Gy Y2∧Y2.length=M:=by
 intro d
 induction d with
 |zero=>
  intro m R Y i h hm hR hRl hY hYl hc;refine ⟨R,Y,i,h,aI ?_,hc,hR,by omega,hY,by omega⟩;simp only[aM.l0];exact xY (Ev.now _)
 |succ d ih=>
  intro m R Y i h hm hR hRl hY hYl hc;obtain ⟨R2,Y2,i2,h2,e2,r⟩:=Te (l:=l) N M hN hN0 far names t m (by omega) hM R Y hR hRl hY hYl (fun R' Y' i h a b c d e=>ih (m+1) R' Y' i h (by omega) a b c d e) N 0 [] i h (by omega) rfl (fun x hx=>by simp at hx) (.inr fun x hx=>by simp at hx) hc;refine ⟨R2,Y2,i2,h2,aI ?_,r⟩;simp only[aM.l0];exact iU e2
abbrev ol:List ByteArray:=[(⟨#[97]⟩:ByteArray),(⟨#[98]⟩:ByteArray),(⟨#[99,50]⟩:ByteArray),(⟨#[100]⟩:ByteArray)]
theorem acS {l:List Int} {i:Int} (h:Int) (hc:Ao l i):∃L t R Y i' h',Ev (fun k=>aM.f k l i h) (L,t,R,Y,i',h')∧Ao l i'∧
  (∃n,0<n∧n≤3∧L=ol.take n)∧t=(⟨#[121]⟩:ByteArray)∧(0<R.length∧R.length≤40)∧BJ L.length R∧Y.length=R.length∧Gy Y:=by
 unfold aM.f;obtain ⟨a,i1,h1,e1,c1,a1,a2,_⟩:=kW h 3 hc;have a3:=a2 (by omega)
 have hw:wrap64 (1+a)=((1+a.toNat:Nat):Int):=by rw[wO];omega
 obtain ⟨b,i2,h2,e2,c2,b1,b2,_⟩:=kW h1 9 c1;have b3:=b2 (by omega)
 have hb:wrap64 (1+b)=((1+b.toNat:Nat):Int):=by rw[wO];omega
 obtain ⟨o,i3,h3,e3,c3⟩:=zS h2 10 c2;simp only[e1,e2,e3,Option.bind_some,hw,Int.toNat_natCast,List.nil_append];generalize hL:(([(⟨#[97]⟩:ByteArray),(⟨#[98]⟩:ByteArray),(⟨#[99,50]⟩:ByteArray),(⟨#[100]⟩:ByteArray)]:List ByteArray).take (1+a.toNat))=L
 have lL:L.length=1+a.toNat:=by rw[←hL,List.length_take];simp only[List.length_cons,List.length_nil];omega
 have main:∀(M:Nat) (i h:Int),0<M→M≤40→Ao l i→∃R Y i' h',Ev (fun k=>aM.j0 k ((1+a.toNat:Nat):Int) (M:Int) l i h L (⟨#[121]⟩:ByteArray)) (L,(⟨#[121]⟩:ByteArray),R,Y,i',h')∧Ao l i'∧BJ (1+a.toNat) R∧R.length=M∧Gy Y∧Y.length=M:=by
  intro M i h hM0 hM hc;obtain ⟨far,i1,h1,e1,c1⟩:=zS h 12 hc;obtain ⟨R,Y,i2,h2,e2,r⟩:=Tf (l:=l) (1+a.toNat) M (by omega) (by omega) hM far L (⟨#[121]⟩:ByteArray) M 0 [] [] i1 h1 (by omega) (fun r hr=>by simp at hr) rfl (fun x hx=>by simp at hx) rfl c1;refine ⟨R,Y,i2,h2,aI ?_,r⟩;simp only[aM.j0,e1,Option.bind_some];exact e2
 by_cases g:o=true
 ·obtain ⟨c,i4,h4,e4,c4,d1,d2,_⟩:=kW h3 40 c3;have d3:=d2 (by omega)
  have hcw:wrap64 (1+c)=((1+c.toNat:Nat):Int):=by rw[wO];omega
  obtain ⟨R,Y,i5,h5,e5,c5,r1,r2,r3,r4⟩:=main (1+c.toNat) i4 h4 (by omega) (by omega) c4;refine ⟨L,(⟨#[121]⟩:ByteArray),R,Y,i5,h5,?_,c5,⟨1+a.toNat,by omega,by omega,hL.symm⟩,rfl,by omega,by rw[lL];exact r1,by omega,r3⟩;simp only[e4,Option.bind_some,hcw];exact iU (av (by simp only[List.length_cons,List.length_nil];omega) (av (by simp only[List.length_nil];omega) (av g e5)))
 ·obtain ⟨R,Y,i5,h5,e5,c5,r1,r2,r3,r4⟩:=main (1+b.toNat) i3 h3 (by omega) (by omega) c3;refine ⟨L,(⟨#[121]⟩:ByteArray),R,Y,i5,h5,?_,c5,⟨1+a.toNat,by omega,by omega,hL.symm⟩,rfl,by omega,by rw[lL];exact r1,by omega,r3⟩;simp only[hb];exact iU (av (by simp only[List.length_cons,List.length_nil];omega) (av (by simp only[List.length_nil];omega) (aZ g e5)))
theorem awk:∀x ∈ ol,rz x:=by
 have one:∀b:UInt8,97≤(b.toNat:Int)∧(b.toNat:Int)≤122→rz (⟨#[b]⟩:ByteArray):=by
  intro b hb;have e:bt (⟨#[b]⟩:ByteArray) 0=(b.toNat:Int):=rfl;refine ⟨(by decide:1≤1),(by decide:1≤12),by rw[e];exact hb,fun j _ hj=>?_⟩;have hj:j<1:=hj
  obtain rfl:j=0:=by omega
  exact .inl (by rw[show ((0:Nat):Int)=0 from rfl,e];exact hb)
 intro x hx;simp only[List.mem_cons,List.not_mem_nil,or_false] at hx
 rcases hx with rfl|rfl|rfl|rfl
 ·exact one 97 (by decide)
 ·exact one 98 (by decide)
 ·refine ⟨(by decide:1≤2),(by decide:2≤12),(by decide:(97:Int)≤99∧(99:Int)≤122),fun j _ hj=>?_⟩;have hj:j<2:=hj
  rcases (show j=0∨j=1 by omega) with rfl|rfl
  ·exact .inl (by decide:(97:Int)≤99∧(99:Int)≤122)
  ·exact .inr (by decide:(48:Int)≤50∧(50:Int)≤57)
 ·exact one 100 (by decide)
theorem awl:rz (⟨#[121]⟩:ByteArray):=by
 refine ⟨(by decide:1≤1),(by decide:1≤12),(by decide:(97:Int)≤121∧(121:Int)≤122),fun j _ hj=>?_⟩;have hj:j<1:=hj
 obtain rfl:j=0:=by omega
 exact .inl (by decide:(97:Int)≤121∧(121:Int)≤122)
def bs (l:List UInt8):ByteArray:=⟨l.toArray⟩
theorem oK (l:List UInt8):(bs l).data.toList=l:=rfl
theorem Ha (s:ByteArray):bs s.data.toList=s:=by
 obtain ⟨⟨l⟩⟩:=s
 rfl
theorem iw (l:List UInt8):(bs l).size=l.length:=by
 unfold bs ByteArray.size
 simp
theorem Jw {a b:ByteArray} (h:a.data.toList=b.data.toList):a=b:=by rw[←Ha a,h,Ha]
theorem aa0 (a b:ByteArray):(a++b).data.toList=a.data.toList++b.data.toList:=by
 rw[ByteArray.data_append,Array.toList_append]
theorem pF (a b:List UInt8):bs a++bs b=bs (a++b):=Jw (by rw[aa0];rfl)
theorem Hd (xs:List Int):strOfNums xs=bs (xs.map fun n=>UInt8.ofNat n.toNat):=rfl
def nm (l:List UInt8):List Int:=l.map fun b=>(b.toNat:Int)
theorem MI (s:ByteArray):bytesOf s=nm s.data.toList:=rfl
theorem uL (a b:List UInt8):nm (a++b)=nm a++nm b:=List.map_append
theorem nN (a:List UInt8):(nm a).length=a.length:=List.length_map ..
theorem mY (l:List UInt8):strOfNums (nm l)=bs l:=by
 rw[Hd]
 congr 1
 unfold nm;rw[List.map_map]
 conv=>rhs;rw[←List.map_id l]
 refine List.map_congr_left fun b _=>?_
 simp
theorem aiw (s:ByteArray) (n:Nat):bt s (n:Int)=((s.data.toList.getD n 0).toNat:Int):=by
 unfold bt;rw[List.getD_eq_getElem?_getD]
 by_cases h:n<s.size
 ·rw[dif_pos (by rw[Int.toNat_natCast];exact h)]
  have h':n<s.data.toList.length:=by rw[iA];exact h
  rw[List.getElem?_eq_getElem h']
  simp
  rfl
 ·rw[dif_neg (by rw[Int.toNat_natCast];exact h)]
  have h':s.data.toList.length≤n:=by rw[iA];omega
  rw[List.getElem?_eq_none h']
  rfl
theorem Gz {s:ByteArray} {n:Nat} {b:UInt8} (h:s.data.toList[n]?=some b):bt s (n:Int)=(b.toNat:Int):=by
 rw[aiw,List.getD_eq_getElem?_getD,h]
 rfl
theorem vw {b:UInt8} {n:Nat} (h:n<256):((b.toNat:Int)=(n:Int))↔b=UInt8.ofNat n:=by
 constructor
 ·intro e;apply UInt8.toNat_inj.1;rw[UInt8.toNat_ofNat']
  omega
 ·rintro rfl;rw[UInt8.toNat_ofNat']
  omega
def wG (b:UInt8):Bool:=b==44||b==34||b==10||b==13
def yZ:List UInt8→Option (List UInt8 × List UInt8)
 |[]=>none
 |b::r=>if b=34 then (match r with
   |[]=>some ([],[])
   |c::r'=>if c=34 then (yZ r').map (fun p=>(34::p.1,p.2)) else some ([],c::r'))
  else (yZ r).map (fun p=>(b::p.1,p.2))
def gU (l:List UInt8):List UInt8 × List UInt8:=(l.takeWhile (fun b=> !wG b),l.dropWhile (fun b=> !wG b))
def lX:List UInt8→Option (List UInt8 × List UInt8)
 |[]=>some ([],[])
 |b::r=>if b=34 then yZ r else some (gU (b::r))
def kU:List UInt8→Option (Bool × List UInt8)
 |[]=>some (true,[])
 |b::r=>if b=44 then some (false,r) else if b=10 then some (true,r) else if b=13 then (match r with
   |[]=>none
   |c::r'=>if c=10 then some (true,r') else none)
  else none
def pu:Nat→List UInt8→List (List ByteArray)→List ByteArray→List (List ByteArray) × Int × Int × Int
 |0,_,rows,_=>(rows,0,0,0)
 |k+1,l,rows,row=>if l=[]∧row=[] then (rows,0,0,0) else
  match lX l with
  |none=>([],2,rows.length,row.length)
  |some (f,l1)=>match kU l1 with
   |none=>([],2,rows.length,row.length)
   |some (false,l2)=>pu k l2 rows (row++ [⟨f.toArray⟩])
   |some (true,l2)=>pu k l2 (rows++ [row++ [⟨f.toArray⟩]]) []
noncomputable def mh (s:ByteArray):List (List ByteArray) × Int × Int × Int:=if s.size>4000 then ([],1,0,0) else pu (2 * s.size+2) s.data.toList [] []
theorem Tg:∀(n:Nat) (l f r:List UInt8),l.length≤n→yZ l=some (f,r)→f.length+r.length<l.length:=by
 intro n
 induction n with
 |zero=>
  intro l f r hl h;obtain rfl:=List.length_eq_zero_iff.mp (Nat.le_zero.mp hl)
  cases h
 |succ n ih=>
  intro l f r hl h
  cases l with
  |nil=>cases h
  |cons b l=>
   rw[List.length_cons] at hl;unfold yZ at h
   by_cases hb:b=34
   ·rw[if_pos hb] at h
    cases l with
    |nil=>
     obtain ⟨rfl,rfl⟩:=Prod.mk.inj (Option.some.inj h)
     simp
    |cons c l=>
     rw[List.length_cons] at hl;simp only at h
     by_cases hc:c=34
     ·rw[if_pos hc] at h
      cases e:yZ l with
      |none=>rw[e] at h;cases h
      |some p=>
       rw[e] at h;obtain ⟨rfl,rfl⟩:=Prod.mk.inj (Option.some.inj h)
       have:=ih l p.1 p.2 (by omega) (by rw[e])
       simp only[List.length_cons]
       omega
     ·rw[if_neg hc] at h;obtain ⟨rfl,rfl⟩:=Prod.mk.inj (Option.some.inj h);simp only[List.length_cons,List.length_nil]
      omega
   ·rw[if_neg hb] at h
    cases e:yZ l with
    |none=>rw[e] at h;cases h
    |some p=>
     rw[e] at h;obtain ⟨rfl,rfl⟩:=Prod.mk.inj (Option.some.inj h)
     have:=ih l p.1 p.2 (by omega) (by rw[e])
     simp only[List.length_cons]
     omega
theorem Dx (l:List UInt8):(gU l).1.length+(gU l).2.length=l.length:=by
 unfold gU;rw[←List.length_append,List.takeWhile_append_dropWhile]
theorem y5 {l f r:List UInt8} (h:lX l=some (f,r)):f.length+r.length≤l.length:=by
 cases l with
 |nil=>
  obtain ⟨rfl,rfl⟩:=Prod.mk.inj (Option.some.inj h)
  simp
 |cons b l=>
  unfold lX at h;simp only at h
  by_cases hb:b=34
  ·rw[if_pos hb] at h
   have:=Tg l.length l f r (Nat.le_refl _) h
   rw[List.length_cons]
   omega
  ·rw[if_neg hb] at h;have e:=Dx (b::l);rw[Option.some.inj h] at e;exact Nat.le_of_eq e
theorem y7 {l r:List UInt8} {z:Bool} (h:kU l=some (z,r)):r.length≤l.length∧(l≠ []→r.length<l.length)∧(z=false→r.length<l.length):=by
 cases l with
 |nil=>
  obtain ⟨rfl,rfl⟩:=Prod.mk.inj (Option.some.inj h)
  simp
 |cons b l=>
  unfold kU at h;simp only at h
  have key:r.length<(b::l).length:=by
   by_cases h1:b=44
   ·rw[if_pos h1] at h;obtain ⟨rfl,rfl⟩:=Prod.mk.inj (Option.some.inj h)
    simp
   rw[if_neg h1] at h
   by_cases h2:b=10
   ·rw[if_pos h2] at h;obtain ⟨rfl,rfl⟩:=Prod.mk.inj (Option.some.inj h)
    simp
   rw[if_neg h2] at h
   by_cases h3:b=13
   ·rw[if_pos h3] at h
    cases l with
    |nil=>cases h
    |cons c l=>
     simp only at h
     by_cases h4:c=10
     ·rw[if_pos h4] at h;obtain ⟨rfl,rfl⟩:=Prod.mk.inj (Option.some.inj h);simp only[List.length_cons]
      omega
     ·rw[if_neg h4] at h;cases h
   ·rw[if_neg h3] at h;cases h
  exact ⟨Nat.le_of_lt key,fun _=>key,fun _=>key⟩
def rX (l:List UInt8) (row:List ByteArray):Nat:=2 * l.length+if row=[] then 0 else 1
theorem Cv {l f l1 l2:List UInt8} {row:List ByteArray} {x:ByteArray} (hf:lX l=some (f,l1)) (ha:kU l1=some (false,l2)):rX l2 (row++ [x])<rX l row:=by
 have a:=y5 hf;have b:=(y7 ha).2.2 rfl;unfold rX;rw[if_neg (by simp)]
 split<;>omega
theorem Ef {l f l1 l2:List UInt8} {row:List ByteArray} (hr:¬(l=[]∧row=[])) (hf:lX l=some (f,l1)) (ha:kU l1=some (true,l2)):rX l2 []<rX l row:=by
 have a:=y5 hf;have b:=y7 ha;unfold rX;rw[if_pos rfl]
 by_cases hl:l=[]
 ·subst hl;rw[List.length_nil] at a
  have:l1=[]:=List.length_eq_zero_iff.mp (by omega)
  subst this;rw[if_neg (fun h=>hr ⟨rfl,h⟩)];have b1:=b.1;rw[List.length_nil] at b1 ⊢
  omega
 ·have h0:0<l.length:=List.length_pos_iff.mpr hl
  by_cases h1:l1=[]
  ·subst h1;have b1:=b.1;rw[List.length_nil] at b1
   split<;>omega
  ·have:=b.2.1 h1
   split<;>omega
def oU (s:ByteArray):Prop:=∀b ∈ s.data.toList,wG b=false∧b.toNat<128
theorem oU.at {s:ByteArray} (h:oU s) {n:Nat} {b:UInt8} (hb:s.data.toList[n]?=some b):b≠44∧b≠34∧b≠10∧b≠13∧b.toNat<128:=by
 obtain ⟨h1,h2⟩:=h b (List.mem_of_getElem? hb);unfold wG at h1;simp only[Bool.or_eq_false_iff,beq_eq_false_iff_ne] at h1;exact ⟨h1.1.1.1,h1.1.1.2,h1.1.2,h1.2,h2⟩
def qJ:Bool→List ByteArray→List UInt8
 |_,[]=> []
 |z,f::r=>(if z=true then [] else [44])++f.data.toList++qJ false r
def xZ (row:List ByteArray):List UInt8:=qJ true row++ [10]
def iV (rows:List (List ByteArray)):List UInt8:=(rows.map xZ).flatten
theorem om {n:Nat} (h:n<256):(UInt8.ofNat n).toNat=n:=by
 rw[UInt8.toNat_ofNat'];omega
theorem yw {d:Nat} (h:d<10):Lib.digitVal (UInt8.ofNat (48+d))=some d:=by
 unfold Lib.digitVal;rw[om (by omega),if_pos (by omega)]
 congr 1
 omega
theorem vz {b:UInt8} {d:Nat} (h:Lib.digitVal b=some d):b=UInt8.ofNat (48+d)∧d<10∧b.toNat=48+d:=by
 unfold Lib.digitVal at h
 split at h
 ·rename_i g
  have e:b.toNat - 48=d:=Option.some.inj h;refine ⟨?_,by omega,by omega⟩;apply UInt8.toNat_inj.1;rw[om (by omega)]
  omega
 ·cases h
theorem wH (b:List UInt8):∀(a:List UInt8) (acc:Nat),Lib.decFrom acc (a++b)=(Lib.decFrom acc a).bind fun n=>Lib.decFrom n b
 |[],acc=>rfl
 |x::a,acc=>by
  rw[List.cons_append];simp only[Lib.decFrom]
  cases Lib.digitVal x with
  |none=>rfl
  |some d=>exact wH b a _
theorem KD (acc d:Nat) (h:d<10):Lib.decFrom acc [UInt8.ofNat (48+d)]=some (acc * 10+d):=by
 simp only[Lib.decFrom,yw h]
theorem rA {u:Nat} (h:¬u<10):Lib.decDigits u=Lib.decDigits (u / 10)++ [UInt8.ofNat (48+u % 10)]:=by
 rw[Lib.decDigits,dif_neg h]
theorem lm (u:Nat):Lib.decFrom 0 (Lib.decDigits u)=some u:=by
 induction u using Nat.strongRecOn with
 |_ u ih=>
  by_cases h:u<10
  ·rw[Lib.decDigits_one h,KD 0 u h]
   congr 1
   omega
  ·rw[rA h,wH,ih (u / 10) (by omega)]
   show Lib.decFrom (u / 10) _=_
   rw[KD _ _ (by omega)]
   congr 1
   omega
theorem zy (u:Nat):Lib.decDigits u≠ []:=by
 intro h
 have:=Lib.decDigits_length u
 have:=Lib.nDigits_pos u
 rw[h] at *;simp only[List.length_nil] at *
 omega
theorem Cw:∀(l:List UInt8) (acc n:Nat),Lib.decFrom acc l=some n→acc≤n
 |[],acc,n,h=>by
  have:=Option.some.inj h
  omega
 |b::l,acc,n,h=>by
  simp only[Lib.decFrom] at h
  cases e:Lib.digitVal b with
  |none=>rw[e] at h;cases h
  |some d=>
   rw[e] at h
   have:=Cw l _ n h
   omega
theorem QD:∀(k:Nat) (l:List UInt8) (u:Nat),l.length=k→Lib.decFrom 0 l=some u→l≠ []→(2≤l.length→l.head?≠some 48)→Lib.decDigits u=l:=by
 intro k
 induction k with
 |zero=>intro l u hk _ hne _;exact absurd (List.length_eq_zero_iff.mp hk) hne
 |succ k ih=>
  intro l u hk h hne h0
  obtain ⟨a,c,rfl⟩:∃a c,l=a++ [c]:=⟨l.dropLast,l.getLast hne,(List.dropLast_concat_getLast hne).symm⟩
  rw[List.length_append,List.length_singleton] at hk;rw[wH] at h
  cases e:Lib.decFrom 0 a with
  |none=>rw[e] at h;cases h
  |some v=>
   rw[e] at h;have h:Lib.decFrom v [c]=some u:=h;simp only[Lib.decFrom] at h
   cases ec:Lib.digitVal c with
   |none=>rw[ec] at h;cases h
   |some d=>
    rw[ec] at h;have hu:v * 10+d=u:=Option.some.inj h;obtain ⟨hc,hd,_⟩:=vz ec
    by_cases ha:a=[]
    ·subst ha;have hv:0=v:=Option.some.inj e;rw[List.nil_append,hc,Lib.decDigits_one (by omega)]
     congr 2
     omega
    ·have hlen:1≤a.length:=List.length_pos_iff.mpr ha
     have hh:(a++ [c]).head?=a.head?:=by cases a with
      |nil=>exact absurd rfl ha
      |cons _ _=>rfl
     rw[hh,List.length_append,List.length_singleton] at h0;have h0:=h0 (by omega);have ea:=ih a v (by omega) e ha (fun _=>h0)
     have hv:1≤v:=by
      cases a with
      |nil=>exact absurd rfl ha
      |cons x a=>
       simp only[Lib.decFrom] at e
       cases ex:Lib.digitVal x with
       |none=>rw[ex] at e;cases e
       |some y=>
        rw[ex] at e;have m:=Cw a _ v e;obtain ⟨hx,_,_⟩:=vz ex
        by_cases y0:y=0
        ·subst y0;exact absurd (by rw[hx];rfl) h0
        ·omega
     rw[rA (by omega),hc]
     have e1:u / 10=v:=by omega
     have e2:u % 10=d:=by omega
     rw[e1,e2,ea]
theorem MJ (u:Nat) (h:10≤u):(Lib.decDigits u).head?≠some 48:=by
 induction u using Nat.strongRecOn with
 |_ u ih=>
  rw[rA (by omega)]
  by_cases h1:u / 10<10
  ·rw[Lib.decDigits_one h1];intro e;have e:UInt8.ofNat (48+u / 10)=48:=Option.some.inj e;have e:=congrArg UInt8.toNat e;rw[om (by omega)] at e;have e:48+u / 10=48:=e
   omega
  ·have:=ih (u / 10) (by omega) (by omega)
   cases hd:Lib.decDigits (u / 10) with
   |nil=>exact absurd hd (zy _)
   |cons x y=>rw[hd] at this;exact this
theorem qF {u:Nat} {b:UInt8} (h:b ∈ Lib.decDigits u):48≤b.toNat∧b.toNat≤57:=by
 obtain ⟨k,hk⟩:=List.mem_iff_getElem?.mp h;obtain ⟨d,hd⟩:=Lib.digit_of_decFrom _ _ _ (lm u) k b hk
 have:=vz hd
 omega
theorem zT (u:Nat):Lib.itoa (u:Int)=Lib.decDigits u:=by
 unfold Lib.itoa;rw[if_neg (by omega),Int.toNat_natCast]
theorem Ti {a b:Int} (h:Lib.itoa a=Lib.itoa b):a=b:=by
 have d45:∀u,∀r,Lib.decDigits u≠45::r:=fun u r e=>by
  have:=qF (u:=u) (b:=45) (by rw[e];exact List.mem_cons_self ..)
  have:(45:UInt8).toNat=45:=rfl
  omega
 unfold Lib.itoa at h
 by_cases ha:a<0
 ·rw[if_pos ha] at h
  by_cases hb:b<0
  ·rw[if_pos hb] at h;have e:=congrArg (Lib.decFrom 0) (List.cons.inj h).2;rw[lm,lm] at e
   have:=Option.some.inj e
   omega
  ·rw[if_neg hb] at h;exact absurd h.symm (d45 _ _)
 ·rw[if_neg ha] at h
  by_cases hb:b<0
  ·rw[if_pos hb] at h;exact absurd h (d45 _ _)
  ·rw[if_neg hb] at h;have e:=congrArg (Lib.decFrom 0) h;rw[lm,lm] at e
   have:=Option.some.inj e
   omega
def three (r:Nat):List UInt8:=[UInt8.ofNat (48+r / 100),UInt8.ofNat (48+r / 10 % 10),UInt8.ofNat (48+r % 10)]
def wy (n:Int):List UInt8:=(if n<0 then [45] else [])++Lib.decDigits (n.natAbs / 1000)++(if n.natAbs % 1000=0 then [] else 46::Lib.trimRightB (three (n.natAbs % 1000)) 48)
theorem E8 (a:List UInt8) (c:UInt8):Lib.trimRightB (a++ [c]) 48=if c=48 then Lib.trimRightB a 48 else a++ [c]:=by
 unfold Lib.trimRightB;rw[List.reverse_append,List.reverse_singleton,List.singleton_append]
 by_cases h:c=48
 ·rw[if_pos h,List.dropWhile_cons_of_pos (by simp [h])]
 ·rw[if_neg h,List.dropWhile_cons_of_neg (by simp [h]),List.reverse_cons,List.reverse_reverse]
theorem He (a:List UInt8):(Lib.trimRightB a 48).length≤a.length:=by
 unfold Lib.trimRightB;rw[List.length_reverse]
 have:=(List.dropWhile_sublist (l:=a.reverse) (fun x=>x==48)).length_le
 rwa [List.length_reverse] at this
theorem Tj {n:Int} (h:pX n):(wy n).length≤40:=by
 unfold pX at h
 have h1:(if n<0 then ([45]:List UInt8) else []).length≤1:=by split<;>simp
 have h2:(Lib.decDigits (n.natAbs / 1000)).length≤20:=by rw[Lib.decDigits_length];exact Lib.nDigits_le20 _ (by omega)
 have h3:(if n.natAbs % 1000=0 then ([]:List UInt8) else 46::Lib.trimRightB (three (n.natAbs % 1000)) 48).length≤4:=by
  split
  ·simp
  ·have:=He (three (n.natAbs % 1000))
   have e:(three (n.natAbs % 1000)).length=3:=rfl;rw[List.length_cons]
   omega
 unfold wy;rw[List.length_append,List.length_append]
 omega
theorem MK {r:Nat} (h:r<1000):Lib.decDigits (1000+r)=49::three r:=by
 rw[rA (by omega),rA (by omega),rA (by omega),Lib.decDigits_one (by omega)];unfold three
 have e1:(1000+r) / 10 / 10 / 10=1:=by omega
 have e2:(1000+r) / 10 / 10 % 10=r / 100:=by omega
 have e3:(1000+r) / 10 % 10=r / 10 % 10:=by omega
 have e4:(1000+r) % 10=r % 10:=by omega
 rw[e1,e2,e3,e4]
 rfl
theorem y8 (a b c:Int):dw.f a b c=some (decide (b≤a∧a≤c)):=by
 unfold dw.f
 by_cases h:b≤a
 ·rw[if_pos h];simp [h]
 ·rw[if_neg h];simp [h]
def Ps {α:Type} (z:α) (R:α→α→Prop) (l m:List α):Prop:=l.length=m.length∧∀j:Nat,0≤j→j<l.length→R (l.getD j z) (m.getD j z)
theorem E9 {α:Type} (z:α) (R:α→α→Prop) (l m:List α) (h0:l.length=m.length) (F:Nat→Int→Option Bool) (hend:Ev (fun k=>F k (l.length:Int)) true)
  (hyes:∀(n:Nat) (r:Bool),n<l.length→R (l.getD n z) (m.getD n z)→Ev (fun k=>F k ((n+1:Nat):Int)) r→Ev (fun k=>F k (n:Int)) r)
  (hno:∀n:Nat,n<l.length→¬R (l.getD n z) (m.getD n z)→Ev (fun k=>F k (n:Int)) false):Ev (fun k=>F k 0) (dec (Ps z R l m)):=
 fu (acP F l.length (fun j=>R (l.getD j z) (m.getD j z)) hend hyes hno l.length 0 (by omega)) (jU ⟨fun h=>⟨h0,h⟩,fun h=>h.2⟩)
theorem rdn (xs:List Int) (n:Nat):rd xs (n:Int)=xs.getD n 0:=rfl
theorem BK {α:Type} (z:α) (xs:List α) (n:Nat):jg z xs (n:Int)=xs.getD n z:=rfl
def yx (l:List ByteArray) (j:Nat):ByteArray:=jg ByteArray.empty l (j:Int)
theorem BL {l:List ByteArray} {m:Nat} (h:∀x ∈ l,x.size≤m) (j:Nat):(yx l j).size≤m:=by
 unfold yx;rw[BK,List.getD_eq_getElem?_getD]
 by_cases hj:j<l.length
 ·rw[List.getElem?_eq_getElem hj];exact h _ (List.getElem_mem hj)
 ·rw[List.getElem?_eq_none (by omega)];exact Nat.zero_le _
theorem Hf (l:List ByteArray) {n j:Nat} (h:j<n):yx (l.take n) j=yx l j:=by
 unfold yx;rw[BK,BK,List.getD_eq_getElem?_getD,List.getD_eq_getElem?_getD,List.getElem?_take,if_pos h]
theorem vO (l:List ByteArray) (t:ByteArray) {j:Nat} (h:j<l.length):yx (l++ [t]) j=yx l j:=by
 unfold yx;rw[BK,BK,List.getD_eq_getElem?_getD,List.getD_eq_getElem?_getD,List.getElem?_append_left h]
theorem Cx (l:List ByteArray) (t:ByteArray):yx (l++ [t]) l.length=t:=by
 unfold yx;rw[BK,List.getD_eq_getElem?_getD,List.getElem?_append_right (Nat.le_refl _),Nat.sub_self]
 rfl
def Bj (l:List ByteArray) (n:Nat) (s:ByteArray):Prop:=∃j,j<n∧(yx l j).toList=s.toList
theorem xy (l:List ByteArray) {n:Nat} (h:n≤l.length) (s:ByteArray):Bj (l.take n) (l.take n).length s↔Bj l n s:=by
 have e:(l.take n).length=n:=by rw[List.length_take];omega
 unfold Bj;rw[e];exact ⟨fun ⟨j,a,b⟩=>⟨j,a,by rw[Hf l a] at b;exact b⟩,fun ⟨j,a,b⟩=>⟨j,a,by rw[Hf l a];exact b⟩⟩
theorem Wl (l:List ByteArray) (s:ByteArray) (hl:l.length≤1048576):∀(d n:Nat),n+d=l.length→Ev (fun k=>fw.l0 k l s (n:Int)) (dec (∃j,n≤j∧j<l.length∧(yx l j).toList=s.toList)):=by
 intro d
 induction d with
 |zero=>
  intro n hn;refine aI ?_;simp only[fw.l0];exact xY (fu (Ev.now _) (dS (fun ⟨j,a,b,_⟩=>by omega)).symm)
 |succ d ih=>
  intro n hn;refine aI ?_;simp only[fw.l0];refine iU (iU ?_)
  by_cases h:(yx l n).toList=s.toList
  ·exact av h (fu (Ev.now _) (gG ⟨n,Nat.le_refl _,by omega,h⟩).symm)
  ·refine aZ h ?_;rw[xg (x:=(n:Int)+1) (by omega) (by omega)];refine fu (ih (n+1) (by omega)) (jU ⟨fun ⟨j,a,b,c⟩=>⟨j,by omega,b,c⟩,fun ⟨j,a,b,c⟩=>⟨j,?_,b,c⟩⟩)
   by_cases e:j=n
   ·exact absurd (e ▸ c) h
   ·omega
theorem L6 (l:List ByteArray) (s:ByteArray) (hl:l.length≤1048576):Ev (fun k=>fw.f k l s) (dec (Bj l l.length s)):=by
 unfold fw.f;exact fu (Wl l s hl l.length 0 (by omega)) (jU ⟨fun ⟨j,_,b,c⟩=>⟨j,b,c⟩,fun ⟨j,b,c⟩=>⟨j,Nat.zero_le _,b,c⟩⟩)
def zU (l:List ByteArray) (j:Nat):Prop:=rz (yx l j)∧¬Bj l j (yx l j)
theorem rdL (xs:List (List Int)) (i:Int):gP xs i=xs.getD i.toNat []:=rfl
def wt (l:List (List Int)):Nat:=l.length+(l.map List.length).sum
theorem apQ {l:List (List Int)} {x:List Int} (h:x ∈ l):x.length≤wt l:=by
 unfold wt
 induction l with
 |nil=>simp at h
 |cons y l ih=>
  simp only[List.mem_cons] at h;simp only[List.map_cons,List.sum_cons,List.length_cons]
  rcases h with rfl|h
  ·omega
  ·have:=ih h;omega
theorem Ox (s:ByteArray) (hl:s.size≤140737488351232):∀(d n:Nat),n+d=s.size→Ev (fun k=>bH.l0 k s (n:Int)) (dec (ll s n)):=by
 intro d
 induction d with
 |zero=>
  intro n hn
  refine Cu fun k=>?_
  simp only[bH.l0]
  obtain rfl:n=s.size:=by omega
  rw[if_neg (by omega),gG ll.stop]
 |succ d ih=>
  intro n hn;have hs:=ll.step (s:=s) (n:=n) (by omega);have hb:=ML s (n:Int)
  by_cases h1:Letter (bt s (n:Int))
  ·have e:dec (ll s n)=dec (ll s (n+1)):=jU (by rw[hs];exact ⟨fun g=>g.2,fun g=>⟨.inl h1,g⟩⟩);rw[e];refine Ev.step (fun k=>?_) (ih (n+1) (by omega));simp only[bH.l0,y8,Option.bind_some];unfold Letter at h1;rw[if_pos (by omega),if_pos (by omega),xg (x:=bt s (n:Int)) (by omega) (by omega),if_pos (by simpa using h1),wO]
   rfl
  ·by_cases h2:Bi (bt s (n:Int))
   ·have e:dec (ll s n)=dec (ll s (n+1)):=jU (by rw[hs];exact ⟨fun g=>g.2,fun g=>⟨.inr h2,g⟩⟩);rw[e];refine Ev.step (fun k=>?_) (ih (n+1) (by omega));simp only[bH.l0,y8,Option.bind_some];unfold Letter at h1;unfold Bi at h2;rw[if_pos (by omega),if_pos (by omega),xg (x:=bt s (n:Int)) (by omega) (by omega),if_neg (by simpa using h1),if_pos (by simpa using h2),wO]
    rfl
   ·refine Cu fun k=>?_
    simp only[bH.l0,y8,Option.bind_some];have e:dec (ll s n)=false:=dS (by rw[hs];exact fun g=>g.1.elim h1 h2);unfold Letter at h1;unfold Bi at h2;rw[if_pos (by omega),if_pos (by omega),xg (x:=bt s (n:Int)) (by omega) (by omega),if_neg (by simpa using h1),if_neg (by simpa using h2),e]
theorem Cy (s:ByteArray) (hl:s.size≤140737488351232):Ev (fun k=>bH.f k s) (dec (rz s)):=by
 unfold bH.f;simp only[y8,Option.bind_some];have hb:=ML s 0
 by_cases h1:1≤s.size∧s.size≤12
 ·refine av (by simp;omega) (iU ?_)
  by_cases h2:bt s 0<97
  ·refine Cu fun k=>?_
   simp only[bH.j0];rw[if_pos (by simpa using h2),dS];intro g;have:=g.2.2.1;unfold Letter at this;omega
  ·have e:dec (rz s)=dec (ll s 0):=jU ⟨fun g=>g.2.2.2,fun g=>⟨h1.1,h1.2,(g 0 (by omega) (by omega)).elim (fun z=>z) (fun z=>by unfold Bi at z;simp only[Int.natCast_zero] at z;omega),g⟩⟩;rw[e];refine Ev.step (fun k=>?_) (Ox s hl s.size 0 (by omega));simp only[bH.j0];rw[if_neg (by simpa using h2)]
   rfl
 ·refine aZ (by simp;omega) (Cu fun k=>?_);simp only[bH.j0];rw[if_pos trivial,dS];intro g;exact h1 ⟨g.1,g.2.1⟩
theorem L8 (x:Int):f_.f x=some (decide (-2147483647≤x∧x≤2147483647)):=by
 unfold f_.f;rw[y8];rfl
theorem amz {x:Int} (h:pX x):decide (-2147483647≤x∧x≤2147483647)=true:=decide_eq_true h
theorem amA {x:Int} (h:¬pX x):decide (-2147483647≤x∧x≤2147483647)=false:=decide_eq_false h
def Tk (m:Nat) (R:List (List Int)) (Y:List Int) (j:Nat):Prop:=((R.getD j []).length:Int)=(m:Int)∧pX (rd Y (j:Int))∧∀i:Nat,0≤i→i<m→pX (rd (R.getD j []) (i:Int))
theorem acT (L:List ByteArray) (t:ByteArray) (R:List (List Int)) (Y:List Int) (m:Nat) (hm:m≤1048576) (hR:R.length≤1048576) (hY:Y.length=R.length):∀(d n:Nat),n+d=R.length→Ev (fun k=>bg.l1 k (m:Int) (n:Int) L t R Y) (dec (∀j,n≤j→j<R.length→Tk m R Y j)):=by
 intro d
 induction d with
 |zero=>
  intro n hn;refine aI ?_;simp only[bg.l1];exact xY (fu (Ev.now _) (gG (fun j h1 h2=>by omega)).symm)
 |succ d ih=>
  intro n hn;have go:=ih (n+1) (by omega)
  have st:(∀j,n≤j→j<R.length→Tk m R Y j)↔Tk m R Y n∧∀j,n+1≤j→j<R.length→Tk m R Y j:=by
   constructor
   ·exact fun h=>⟨h n (Nat.le_refl _) (by omega),fun j h1 h2=>h j (by omega) h2⟩
   ·intro ⟨h0,h⟩ j h1 h2
    by_cases e:j=n
    ·exact e ▸ h0
    ·exact h j (by omega) h2
  rw[jU st];refine aI ?_;simp only[bg.l1,rdL,Int.toNat_natCast,L8,Option.bind_some];refine iU (iU ?_)
  by_cases k1:((R.getD n []).length:Int)=(m:Int)
  case neg=>
   refine aZ k1 (aI ?_);simp only[bg.j3];exact av trivial (fu (Ev.now _) (dS (fun h=>k1 h.1.1)).symm)
  refine av k1 (iU (aI ?_));simp only[bg.j3]
  by_cases k2:pX (rd Y (n:Int))
  case neg=>
   refine av ?_ (fu (Ev.now _) (dS (fun h=>k2 h.1.2.1)).symm);rw[amA k2];rfl
  refine aZ (by rw[amz k2];decide) ?_;refine fu (Ju (fun k i=>bg.l2 k (m:Int) (n:Int) i L t R Y) m (fun i=>pX (rd (R.getD n []) (i:Int))) (∀j,n+1≤j→j<R.length→Tk m R Y j) ?_ ?_ ?_ m 0 (by omega)) (jU ⟨fun h=>⟨⟨k1,k2,h.1⟩,h.2⟩,fun h=>⟨h.1.2.2,h.2⟩⟩)
  ·refine aI ?_;simp only[bg.l2];refine xY ?_;rw[xg (x:=(n:Int)+1) (by omega) (by omega)];exact go
  ·intro i r hi hp h;refine aI ?_;simp only[bg.l2,rdL,Int.toNat_natCast,L8,Option.bind_some];refine iU (iU (iU (iU (iU (av (decide_eq_true hp) ?_)))));rw[xg (x:=(i:Int)+1) (by omega) (by omega)];exact h
  ·intro i hi hp;refine aI ?_;simp only[bg.l2,rdL,Int.toNat_natCast,L8,Option.bind_some];exact iU (iU (iU (iU (iU (aZ (by rw[amA hp];decide) (Ev.now _))))))
def MM (L:List ByteArray):Prop:=∀j,0≤j→j<L.length→zU L j
def amB (L:List ByteArray) (R:List (List Int)) (Y:List Int):Prop:=∀j,0≤j→j<R.length→Tk L.length R Y j
def vP (L:List ByteArray) (t:ByteArray) (R:List (List Int)) (Y:List Int):Prop:=
 (1≤(L.length:Int)∧(L.length:Int)≤4)∧rz t∧¬Bj L L.length t∧(1≤(R.length:Int)∧(R.length:Int)≤40)∧(Y.length:Int)=(R.length:Int)∧MM L∧amB L R Y
theorem KE (L:List ByteArray) (t:ByteArray) (R:List (List Int)) (Y:List Int) (hL:L.length≤1048576) (hs:∀x ∈ L,x.size≤1048576) (ht:t.size≤1048576) (hR:R.length≤1048576):Ev (fun k=>bg.f k L t R Y) (dec (vP L t R Y)):=by
 unfold bg.f;simp only[y8,Option.bind_some]
 have stop:∀r:Bool,r=false→Ev (fun k=>bg.j0 k (L.length:Int) true L t R Y) r:=by
  rintro _ rfl;refine aI ?_;simp only[bg.j0];exact av trivial (Ev.now _)
 unfold vP
 by_cases k1:1≤(L.length:Int)∧(L.length:Int)≤4
 case neg=>exact aZ (by rw[decide_eq_false k1];decide) (stop _ (dS (fun h=>k1 h.1)))
 refine av (decide_eq_true k1) (Ev.bind (Cy t (by omega)) ?_)
 by_cases k2:rz t
 case neg=>exact aZ (by rw[dS k2];decide) (stop _ (dS (fun h=>k2 h.2.1)))
 refine av (gG k2) (Ev.bind (L6 L t hL) ?_)
 by_cases k3:Bj L L.length t
 ·exact av (gG k3) (stop _ (dS (fun h=>h.2.2.1 k3)))
 refine aZ (by rw[dS k3];decide) ?_
 by_cases k4:1≤(R.length:Int)∧(R.length:Int)≤40
 case neg=>exact aZ (by rw[decide_eq_false k4];decide) (stop _ (dS (fun h=>k4 h.2.2.2.1)))
 refine av (decide_eq_true k4) ?_
 by_cases k5:(Y.length:Int)=(R.length:Int)
 case neg=>
  rw[bne_iff_ne.2 k5];exact stop _ (dS (fun h=>k5 h.2.2.2.2.1))
 rw[k5,bne_self_eq_false];refine aI ?_;simp only[bg.j0];refine aZ (by decide) ?_;refine fu (Ju (fun k i=>bg.l0 k (L.length:Int) i L t R Y) L.length (zU L) (amB L R Y) ?_ ?_ ?_ L.length 0 (by omega)) (jU ⟨fun h=>⟨k1,k2,k3,k4,trivial,h.1,h.2⟩,fun h=>⟨h.2.2.2.2.2.1,h.2.2.2.2.2.2⟩⟩)
 ·refine aI ?_;simp only[bg.l0];exact xY (acT L t R Y L.length hL hR (by omega) R.length 0 (by omega))
 ·intro n r hn hp h;have g:=BL hs n;refine aI ?_;simp only[bg.l0,Int.toNat_natCast];refine iU (iU (iU (Ev.bind (Cy (yx L n) (by omega)) (av (gG hp.1) (iU (Ev.bind (L6 (L.take n) (yx L n) (by rw[List.length_take];omega)) (aZ ?_ ?_)))))))
  ·rw[jU (xy L (by omega) _),dS hp.2];decide
  ·rw[xg (x:=(n:Int)+1) (by omega) (by omega)];exact h
 ·intro n hn hp;have g:=BL hs n;refine aI ?_;simp only[bg.l0,Int.toNat_natCast];refine iU (iU (iU (Ev.bind (Cy (yx L n) (by omega)) ?_)))
  by_cases a:rz (yx L n)
  ·refine av (gG a) (iU (Ev.bind (L6 (L.take n) (yx L n) (by rw[List.length_take];omega)) (av ?_ (Ev.now _))));rw[jU (xy L (by omega) _)];exact gG (Classical.byContradiction fun z=>hp ⟨a,z⟩)
  ·exact aZ (by rw[dS a];decide) (Ev.now _)
def Wm (R:List (List Int)) (Y:List Int) (i:Nat):List ByteArray:=(R.getD i []).map (fun n=>bs (wy n))++ [bs (wy (rd Y (i:Int)))]
def xn (R:List (List Int)) (Y:List Int) (n:Nat):List (List ByteArray):=(List.range n).map (Wm R Y)
def ja (L:List ByteArray) (t:ByteArray) (R:List (List Int)) (Y:List Int):List (List ByteArray):=(L++ [t])::xn R Y R.length
theorem MN (R:List (List Int)) (Y:List Int) (n:Nat):xn R Y (n+1)=xn R Y n++ [Wm R Y n]:=by
 unfold xn;rw[List.range_succ,List.map_append]
 rfl
theorem Wn {s:ByteArray} (h:rz s):oU s:=by
 intro b hb;obtain ⟨n,hn⟩:=List.mem_iff_getElem?.mp hb
 have hlt:n<s.size:=by
  rw[←iA];exact (List.getElem?_eq_some_iff.mp hn).1
 have e:=Gz hn;have hl:=h.2.2.2 n (Nat.zero_le _) hlt;unfold Letter Bi at hl
 have hr:(48≤b.toNat∧b.toNat≤57)∨(97≤b.toNat∧b.toNat≤122):=by omega
 refine ⟨?_,by omega⟩;unfold wG
 have ne:∀m:Nat,m<48→b≠UInt8.ofNat m:=by
  rintro m hm rfl;rw[UInt8.toNat_ofNat'] at hr
  omega
 have h1:=ne 44 (by omega);have h2:=ne 34 (by omega);have h3:=ne 10 (by omega);have h4:=ne 13 (by omega);have g1:(b==44)=false:=beq_eq_false_iff_ne.2 h1;have g2:(b==34)=false:=beq_eq_false_iff_ne.2 h2;have g3:(b==10)=false:=beq_eq_false_iff_ne.2 h3;have g4:(b==13)=false:=beq_eq_false_iff_ne.2 h4;rw[g1,g2,g3,g4]
 rfl
theorem aa1 {n:Int} {b:UInt8} (h:b ∈ wy n):b.toNat=45∨b.toNat=46∨(48≤b.toNat∧b.toNat≤57):=by
 unfold wy at h
 rcases List.mem_append.1 h with h|h
 ·rcases List.mem_append.1 h with h|h
  ·split at h
   ·rw[List.mem_singleton] at h;subst h;exact .inl rfl
   ·cases h
  ·exact .inr (.inr (qF h))
 ·split at h
  ·cases h
  ·rcases List.mem_cons.1 h with h|h
   ·subst h;exact .inr (.inl rfl)
   ·have h:b ∈ three (n.natAbs % 1000):=by
     unfold Lib.trimRightB at h;rw[List.mem_reverse] at h
     have:=(List.dropWhile_sublist (l:=(three (n.natAbs % 1000)).reverse) (fun x=>x==48)).subset h
     exact List.mem_reverse.1 this
    unfold three at h;simp only[List.mem_cons,List.not_mem_nil,or_false] at h
    rcases h with h|h|h
    ·rw[h,om (by omega)];omega
    ·rw[h,om (by omega)];omega
    ·rw[h,om (by omega)];omega
theorem aa2 (n:Int):oU (bs (wy n)):=by
 intro b hb;rw[oK] at hb;have hr:=aa1 hb;refine ⟨?_,by omega⟩;unfold wG
 have ne:∀m:Nat,m<45→b≠UInt8.ofNat m:=by
  rintro m hm rfl;rw[UInt8.toNat_ofNat'] at hr
  omega
 have g1:(b==44)=false:=beq_eq_false_iff_ne.2 (ne 44 (by omega));have g2:(b==34)=false:=beq_eq_false_iff_ne.2 (ne 34 (by omega));have g3:(b==10)=false:=beq_eq_false_iff_ne.2 (ne 10 (by omega));have g4:(b==13)=false:=beq_eq_false_iff_ne.2 (ne 13 (by omega));rw[g1,g2,g3,g4]
 rfl
theorem Hg (m:Nat):∀(row:List ByteArray) (z:Bool),(∀f ∈ row,f.size≤m)→(qJ z row).length≤row.length * (m+1)
 |[],z,_=>by unfold qJ;simp
 |f::r,z,h=>by
  unfold qJ
  have:=Hg m r false (fun g hg=>h g (List.mem_cons_of_mem _ hg))
  have h0:=h f (List.mem_cons_self ..);rw[←iA] at h0
  have h1:(if z=true then ([]:List UInt8) else [44]).length≤1:=by split<;>simp
  rw[List.length_append,List.length_append,List.length_cons,Nat.add_one_mul]
  omega
theorem wI (m c:Nat):∀(rows:List (List ByteArray)),(∀row ∈ rows,row.length≤c∧∀f ∈ row,f.size≤m)→(iV rows).length≤rows.length * (c * (m+1)+1)
 |[],_=>by unfold iV;simp
 |row::rows,h=>by
  have:=wI m c rows (fun g hg=>h g (List.mem_cons_of_mem _ hg))
  obtain ⟨h1,h2⟩:=h row (List.mem_cons_self ..);have h3:=Hg m row true h2;have h4:row.length * (m+1)≤c * (m+1):=Nat.mul_le_mul_right _ h1;unfold iV at this ⊢;rw[List.map_cons,List.flatten_cons,List.length_append,List.length_cons,Nat.add_one_mul];unfold xZ at *;rw[List.length_append,List.length_singleton]
  omega
theorem MO {L:List ByteArray} (h:MM L) {s:ByteArray} (hs:s ∈ L):rz s:=by
 obtain ⟨j,hj,rfl⟩:=List.getElem_of_mem hs
 have:=(h j (Nat.zero_le _) hj).1
 unfold yx at this;rw[BK,List.getD_eq_getElem?_getD,List.getElem?_eq_getElem hj] at this;exact this
theorem Eg {m:Nat} {R:List (List Int)} {Y:List Int} {j:Nat} (h:Tk m R Y j) {x:Int} (hx:x ∈ R.getD j []):pX x:=by
 obtain ⟨i,hi,rfl⟩:=List.getElem_of_mem hx;have h1:=h.1
 have:=h.2.2 i (Nat.zero_le _) (by omega)
 rw[Ay (List.getElem?_eq_getElem hi)] at this;exact this
theorem qK {L:List ByteArray} {t:ByteArray} {R:List (List Int)} {Y:List Int} (h:vP L t R Y):∀row ∈ ja L t R Y,row.length≤5∧∀f ∈ row,f.size≤40∧oU f:=by
 obtain ⟨hL,ht,_,hR,hY,hN,hT⟩:=h;intro row hrow
 have nm_:∀s,rz s→s.size≤40∧oU s:=fun s g=>⟨by have:=g.2.1;omega,Wn g⟩
 have fx_:∀n,pX n→(bs (wy n)).size≤40∧oU (bs (wy n)):=fun n g=>⟨by rw[iw];exact Tj g,aa2 n⟩
 unfold ja at hrow
 rcases List.mem_cons.1 hrow with rfl|hrow
 ·refine ⟨by rw[List.length_append,List.length_singleton];omega,fun f hf=>?_⟩
  rcases List.mem_append.1 hf with hf|hf
  ·exact nm_ f (MO hN hf)
  ·rw[List.mem_singleton.1 hf];exact nm_ t ht
 ·unfold xn at hrow;obtain ⟨i,hi,rfl⟩:=List.mem_map.1 hrow;have g:=hT i (Nat.zero_le _) (List.mem_range.1 hi);unfold Wm;refine ⟨by rw[List.length_append,List.length_map,List.length_singleton];have:=g.1;omega,fun f hf=>?_⟩
  rcases List.mem_append.1 hf with hf|hf
  ·obtain ⟨x,hx,rfl⟩:=List.mem_map.1 hf;exact fx_ x (Eg g hx)
  ·rw[List.mem_singleton.1 hf];exact fx_ _ g.2.1
theorem xz {L:List ByteArray} {t:ByteArray} {R:List (List Int)} {Y:List Int} (h:vP L t R Y):(ja L t R Y).length≤41∧(iV (ja L t R Y)).length≤10000:=by
 have h1:(ja L t R Y).length≤41:=by
  have:=h.2.2.2.1.2
  unfold ja xn;rw[List.length_cons,List.length_map,List.length_range]
  omega
 refine ⟨h1,?_⟩
 have:=wI 40 5 (ja L t R Y) (fun row hr=>⟨(qK h row hr).1,fun f hf=>((qK h row hr).2 f hf).1⟩)
 have:=Nat.mul_le_mul_right (5 * (40+1)+1) h1
 omega
noncomputable def tQ (L:List ByteArray) (t:ByteArray) (R:List (List Int)) (Y:List Int):List UInt8:=if dec (vP L t R Y)=true then iV (ja L t R Y) else []
def pz (s:ByteArray) (l:List UInt8):Int:=(s.size:Int) - (l.length:Int)
theorem oV (s:ByteArray):pz s []=(s.size:Int):=by simp [pz]
theorem Hl (s:ByteArray) (l:List UInt8):pz s l≤(s.size:Int):=by unfold pz;omega
theorem QE (s:ByteArray):pz s s.data.toList=0:=by unfold pz;rw[iA];omega
theorem yz {s:ByteArray} {l:List UInt8} (h:l<:+s.data.toList):l.length≤s.size:=by
 have:=h.length_le
 rwa [iA] at this
theorem pY {s:ByteArray} {l:List UInt8} (h:l<:+s.data.toList):0≤pz s l:=by
 have:=yz h
 unfold pz
 omega
theorem vX {s:ByteArray} {b:UInt8} {l:List UInt8}:pz s (b::l)<(s.size:Int):=by
 unfold pz;rw[List.length_cons]
 omega
theorem E_ {s:ByteArray} {b:UInt8} {l:List UInt8}:pz s (b::l)+1=pz s l:=by
 unfold pz;rw[List.length_cons]
 omega
theorem QF {s:ByteArray} {b:UInt8} {l:List UInt8} (hs:s.size≤4000) (h:b::l<:+s.data.toList):wrap64 (pz s (b::l)+1)=pz s l:=by
 have h1:=pY h;have h2:=Hl s (b::l);rw[wO,E_]
theorem acU {s:ByteArray} {b c:UInt8} {l:List UInt8} (hs:s.size≤4000) (h:b::c::l<:+s.data.toList):wrap64 (pz s (b::c::l)+2)=pz s l:=by
 have h1:=pY h;have h2:=Hl s (b::c::l);have h3:=@E_ s b (c::l);have h4:=@E_ s c l;rw[wO]
 omega
theorem rZ {s:ByteArray} {b:UInt8} {l:List UInt8} (h:b::l<:+s.data.toList):l<:+s.data.toList:=(List.suffix_cons b l).trans h
theorem Tm {s:ByteArray} {l:List UInt8} (h:l<:+s.data.toList):pz s l=((s.data.toList.length - l.length:Nat):Int):=by
 have:=h.length_le
 unfold pz;rw[←iA]
 omega
theorem Az {s:ByteArray} {b:UInt8} {l:List UInt8} (h:b::l<:+s.data.toList):bt s (pz s (b::l))=(b.toNat:Int):=by
 obtain ⟨t,e⟩:=h;rw[Tm ⟨t,e⟩];refine Gz ?_;rw[←e,List.length_append,Nat.add_sub_cancel,List.getElem?_append_right (Nat.le_refl _),Nat.sub_self]
 rfl
theorem MP {s:ByteArray} {l:List UInt8} (h:l<:+s.data.toList):s.data.toList.drop (pz s l).toNat=l:=by
 rw[Tm h,Int.toNat_natCast];exact (List.suffix_iff_eq_drop.mp h).symm
theorem acV {s:ByteArray} {l:List UInt8} (h:l<:+s.data.toList):s.extract (pz s l).toNat s.size=bs l:=by
 refine Jw ?_;rw[ByteArray.data_extract,Array.toList_extract,List.extract_eq_take_drop,oK,MP h];refine List.take_of_length_le ?_
 have:=yz h
 unfold pz
 omega
theorem aa3:∀(n:Nat) (l f r:List UInt8),l.length≤n→yZ l=some (f,r)→r<:+l:=by
 intro n
 induction n with
 |zero=>
  intro l f r hl h;obtain rfl:=List.length_eq_zero_iff.mp (Nat.le_zero.mp hl)
  cases h
 |succ n ih=>
  intro l f r hl h
  cases l with
  |nil=>cases h
  |cons b l=>
   rw[List.length_cons] at hl;unfold yZ at h
   by_cases hb:b=34
   ·rw[if_pos hb] at h
    cases l with
    |nil=>
     obtain ⟨rfl,rfl⟩:=Prod.mk.inj (Option.some.inj h);exact List.nil_suffix
    |cons c l=>
     rw[List.length_cons] at hl;simp only at h
     by_cases hc:c=34
     ·rw[if_pos hc] at h
      cases e:yZ l with
      |none=>rw[e] at h;cases h
      |some p=>
       rw[e] at h;obtain ⟨rfl,rfl⟩:=Prod.mk.inj (Option.some.inj h);exact (ih l p.1 p.2 (by omega) (by rw[e])).trans ((List.suffix_cons _ _).trans (List.suffix_cons _ _))
     ·rw[if_neg hc] at h;obtain ⟨rfl,rfl⟩:=Prod.mk.inj (Option.some.inj h);exact List.suffix_cons _ _
   ·rw[if_neg hb] at h
    cases e:yZ l with
    |none=>rw[e] at h;cases h
    |some p=>
     rw[e] at h;obtain ⟨rfl,rfl⟩:=Prod.mk.inj (Option.some.inj h);exact (ih l p.1 p.2 (by omega) (by rw[e])).trans (List.suffix_cons _ _)
theorem FY {l f r:List UInt8} (h:lX l=some (f,r)):r<:+l:=by
 cases l with
 |nil=>
  obtain ⟨rfl,rfl⟩:=Prod.mk.inj (Option.some.inj h);exact List.suffix_refl _
 |cons b l=>
  unfold lX at h;simp only at h
  by_cases hb:b=34
  ·rw[if_pos hb] at h;exact (aa3 _ _ _ _ (Nat.le_refl _) h).trans (List.suffix_cons _ _)
  ·rw[if_neg hb] at h;obtain ⟨rfl,rfl⟩:=Prod.mk.inj (Option.some.inj h);exact List.dropWhile_suffix _
theorem x_ {l r:List UInt8} {z:Bool} (h:kU l=some (z,r)):r<:+l:=by
 cases l with
 |nil=>
  obtain ⟨rfl,rfl⟩:=Prod.mk.inj (Option.some.inj h);exact List.suffix_refl _
 |cons b l=>
  unfold kU at h;simp only at h
  by_cases h1:b=44
  ·rw[if_pos h1] at h;obtain ⟨rfl,rfl⟩:=Prod.mk.inj (Option.some.inj h);exact List.suffix_cons _ _
  rw[if_neg h1] at h
  by_cases h2:b=10
  ·rw[if_pos h2] at h;obtain ⟨rfl,rfl⟩:=Prod.mk.inj (Option.some.inj h);exact List.suffix_cons _ _
  rw[if_neg h2] at h
  by_cases h3:b=13
  ·rw[if_pos h3] at h
   cases l with
   |nil=>cases h
   |cons c l=>
    simp only at h
    by_cases h4:c=10
    ·rw[if_pos h4] at h;obtain ⟨rfl,rfl⟩:=Prod.mk.inj (Option.some.inj h);exact (List.suffix_cons _ _).trans (List.suffix_cons _ _)
    ·rw[if_neg h4] at h;cases h
  ·rw[if_neg h3] at h;cases h
def Tn (u:Nat):List UInt8:=if u=0 then [] else Lib.decDigits u
theorem Pt {u:Nat} (h:u≠0):Tn u=Tn (u / 10)++ [UInt8.ofNat (48+u % 10)]:=by
 unfold Tn;rw[if_neg h]
 by_cases h1:u<10
 ·rw[if_pos (by omega),Lib.decDigits_one h1,Nat.mod_eq_of_lt h1]
  rfl
 ·rw[if_neg (by omega),rA h1]
theorem digit_num (u:Nat):strOfNums [wrap64 (48+((u % 10:Nat):Int)) % 256]=bs [UInt8.ofNat (48+u % 10)]:=by
 rw[Hd,wO]
 congr 2
 show UInt8.ofNat ((48+((u % 10:Nat):Int)) % 256).toNat::[]=_
 congr 2
 omega
theorem Oy (neg:Bool):∀(u:Nat) (n:Int) (t:List UInt8),n.natAbs=u→n≤9223372036854775807→-9223372036854775808≤n→t.length+(Tn u).length≤100→
  Ev (fun k=>iC.l0 k n neg (bs t)) (bs ((if neg=true then [45] else [])++(Tn u++t))):=by
 intro u
 induction u using Nat.strongRecOn with
 |_ u ih=>
  intro n t hu h1 h0 ht;refine aI ?_;simp only[iC.l0,Option.bind_some]
  by_cases hz:n=0
  ·subst hz;obtain rfl:(0:Nat)=u:=hu;refine av rfl ?_
   cases neg with
   |true=>
    refine av rfl (av (by rw[iw];omega) (fu (Ev.now _) ?_));exact pF [45] t
   |false=>exact aZ (by decide) (Ev.now _)
  ·have hr:n=-(u:Int)∨n=(u:Int):=by omega
   have hu0:u≠0:=by omega
   have et:wrap64 (Int.tdiv n 10)=Int.tdiv n 10:=by
    rcases hr with e|e<;>rw[e]
    ·rw[Int.neg_tdiv]
     show wrap64 (-Int.tdiv (u:Int) ((10:Nat):Int))=_
     rw[←Int.ofNat_tdiv];exact wO
    ·show wrap64 (Int.tdiv (u:Int) ((10:Nat):Int))=_
     rw[←Int.ofNat_tdiv];exact wO
   have en:(Int.tdiv n 10).natAbs=u / 10:=by
    rw[Int.natAbs_tdiv,hu];rfl
   have hl:=congrArg List.length (Pt hu0);rw[List.length_append,List.length_singleton] at hl
   have go:Ev (fun k=>iC.l0 k (wrap64 (Int.tdiv n 10)) neg (bs ([UInt8.ofNat (48+u % 10)]++t))) (bs ((if neg=true then [45] else [])++(Tn u++t))):=by
    rw[et];refine fu (ih (u / 10) (by omega) _ _ en ?_ ?_ ?_) (by rw[Pt hu0,List.append_assoc])
    ·omega
    ·omega
    ·rw[List.length_append,List.length_singleton]
     omega
   have hm:Int.tmod n 10=-((u % 10:Nat):Int)∨Int.tmod n 10=((u % 10:Nat):Int):=by
    rcases hr with e|e<;>rw[e]
    ·left
     rw[Int.neg_tmod]
     show -Int.tmod (u:Int) ((10:Nat):Int)=_
     rw[←Int.ofNat_tmod]
    ·right
     show Int.tmod (u:Int) ((10:Nat):Int)=_
     rw[←Int.ofNat_tmod]
   refine aZ hz ?_
   by_cases hb:Int.tmod n 10<0
   ·refine av hb ?_
    have e1:wrap64 (-(Int.tmod n 10))=((u % 10:Nat):Int):=by
     rw[wO];omega
    rw[e1,digit_num,pF];exact av (by rw[iw,iw,List.length_singleton];omega) go
   ·refine aZ hb ?_
    have e1:Int.tmod n 10=((u % 10:Nat):Int):=by omega
    rw[e1,digit_num,pF];exact av (by rw[iw,iw,List.length_singleton];omega) go
theorem GA (n:Int) (h0:-9223372036854775808≤n) (h1:n≤9223372036854775807):Ev (fun k=>iC.f k n) (bs (Lib.itoa n)):=by
 unfold iC.f
 by_cases hz:n=0
 ·subst hz;exact av rfl (fu (Ev.now _) (by rw[show Lib.itoa 0=Lib.decDigits 0 from zT 0,Lib.decDigits_one (by omega)];rfl))
 ·have hd:Tn n.natAbs=Lib.decDigits n.natAbs:=by unfold Tn;rw[if_neg (by omega)]
  refine aZ hz (fu (Oy _ n.natAbs n [] rfl h1 h0 (by have:=Lib.nDigits_le20 n.natAbs (by omega);rw[hd,Lib.decDigits_length,List.length_nil];omega)) ?_)
  congr 1
  rw[hd,List.append_nil];unfold Lib.itoa
  by_cases h:n<0
  ·rw[if_pos h,if_pos (decide_eq_true h)]
   rfl
  ·rw[if_neg h,if_neg (by simpa using h)]
   have:n.natAbs=n.toNat:=by omega
   rw[this]
   rfl
theorem aa4 (n:Int) (h0:-9223372036854775808≤n) (h1:n≤9223372036854775807):(bs (Lib.itoa n)).size≤21:=by
 rw[iw];exact Lib.itoa_length_le n h0 h1
noncomputable def mO (l:List UInt8):Int × Bool:=open Classical in if h:∃n:Int,-9223372036854775808≤n∧n≤9223372036854775807∧Lib.itoa n=l then (h.choose,true) else (0,false)
theorem QG {n:Int} (h0:-9223372036854775808≤n) (h1:n≤9223372036854775807):mO (Lib.itoa n)=(n,true):=by
 have h:∃m:Int,-9223372036854775808≤m∧m≤9223372036854775807∧Lib.itoa m=Lib.itoa n:=⟨n,h0,h1,rfl⟩
 unfold mO;rw[dif_pos h];exact congrArg (·,true) (Ti h.choose_spec.2.2)
theorem Hm {l:List UInt8} (h:∀n:Int,-9223372036854775808≤n→n≤9223372036854775807→Lib.itoa n≠l):mO l=(0,false):=by
 unfold mO;rw[dif_neg];rintro ⟨n,h0,h1,h2⟩;exact h n h0 h1 h2
theorem FZ (l:List UInt8):(∃n:Int,-9223372036854775808≤n∧n≤9223372036854775807∧Lib.itoa n=l∧mO l=(n,true))∨((∀n:Int,-9223372036854775808≤n→n≤9223372036854775807→Lib.itoa n≠l)∧mO l=(0,false)):=by
 by_cases h:∃n:Int,-9223372036854775808≤n∧n≤9223372036854775807∧Lib.itoa n=l
 ·obtain ⟨n,h0,h1,rfl⟩:=h;exact Or.inl ⟨n,h0,h1,rfl,QG h0 h1⟩
 ·have h':∀n:Int,-9223372036854775808≤n→n≤9223372036854775807→Lib.itoa n≠l:=fun n h0 h1 h2=>h ⟨n,h0,h1,h2⟩
  exact Or.inr ⟨h',Hm h'⟩
theorem itoa_neg {n:Int} (h:n<0):Lib.itoa n=45::Lib.decDigits n.natAbs:=by
 unfold Lib.itoa
 first|rw[if_pos h]|(simp [h])
theorem Eh {n:Int} (h:0≤n):Lib.itoa n=Lib.decDigits n.natAbs:=by
 obtain ⟨u,rfl⟩:=Int.eq_ofNat_of_zero_le h;exact zT u
theorem aa5 {n:Int} {r:List UInt8} (h:Lib.itoa n=45::r):n<0∧Lib.decDigits n.natAbs=r:=by
 by_cases hn:n<0
 ·rw[itoa_neg hn] at h;exact ⟨hn,(List.cons.inj h).2⟩
 ·rw[Eh (by omega)] at h
  have:=qF (u:=n.natAbs) (b:=45) (by rw[h];exact List.mem_cons_self ..)
  exact absurd this.1 (by decide)
theorem aa6 {n:Int} {l:List UInt8} (h:Lib.itoa n=l) (hl:l.head?≠some 45):0≤n∧Lib.decDigits n.natAbs=l:=by
 by_cases hn:n<0
 ·rw[itoa_neg hn] at h;subst h;exact absurd rfl hl
 ·rw[Eh (by omega)] at h;exact ⟨by omega,h⟩
theorem Cz {b:UInt8} (h0:48≤b.toNat) (h1:b.toNat≤57):Lib.digitVal b=some (b.toNat - 48):=by
 have:b=UInt8.ofNat (48+(b.toNat - 48)):=by
  apply UInt8.toNat_inj.1;rw[UInt8.toNat_ofNat']
  omega
 rw[this,yw (by omega),UInt8.toNat_ofNat']
 congr 1
 omega
theorem Jy {b:UInt8} (h:¬(48≤b.toNat∧b.toNat≤57)):Lib.digitVal b=none:=by
 cases e:Lib.digitVal b with
 |none=>rfl
 |some d=>
  have:=vz e
  omega
theorem o9 (acc:Nat) (b:UInt8) (l:List UInt8):Lib.decFrom acc (b::l)=(Lib.digitVal b).bind fun d=>Lib.decFrom (acc * 10+d) l:=by
 rw[Lib.decFrom]
 cases Lib.digitVal b<;>rfl
theorem zV:∀(k u:Nat),u<10 ^ (k+1)→Lib.nDigits u≤k+1
 |0,u,h=>by rw[Lib.nDigits_small (by simpa using h)];omega
 |k+1,u,h=>by
  by_cases hu:u<10
  ·rw[Lib.nDigits_small hu];omega
  ·rw[Lib.nDigits_big hu]
   have:=zV k (u / 10) (by rw[Nat.pow_succ] at h;omega)
   omega
theorem amC (b:UInt8):b.toNat<256:=UInt8.toNat_lt b
def tY (c:UInt8):List UInt8→List (List UInt8)
 |[]=> [[]]
 |b::l=>if b=c then []::tY c l else match tY c l with
  |[]=> [[b]]
  |p::r=>(b::p)::r
def AA (w:List UInt8):List (List UInt8)→List (List UInt8)
 |[]=> [w]
 |p::r=>(w++p)::r
theorem Jz (c:UInt8) (l:List UInt8):tY c l≠ []:=by
 cases l with
 |nil=>simp [tY]
 |cons b l=>
  unfold tY
  split
  ·simp
  ·split<;>simp
theorem KF {ps:List (List UInt8)} (h:ps≠ []):AA [] ps=ps:=by
 cases ps with
 |nil=>exact absurd rfl h
 |cons p r=>rfl
theorem Tp (c:UInt8) (w l:List UInt8):AA w (tY c (c::l))=w::tY c l:=by
 rw[tY,if_pos rfl]
 simp [AA]
theorem QH {c b:UInt8} (h:b≠c) (w l:List UInt8):AA w (tY c (b::l))=AA (w++ [b]) (tY c l):=by
 rw[tY,if_neg h]
 cases tY c l with
 |nil=>rfl
 |cons p r=>simp [AA]
theorem awm {s:ByteArray} {b:UInt8} {l:List UInt8} (hs:s.size≤1000000000) (h:b::l<:+s.data.toList):wrap64 (pz s (b::l)+1)=pz s l:=by
 have h1:=pY h;have h2:=Hl s (b::l);rw[wO,E_]
theorem YC {s:ByteArray} {w l:List UInt8} (h:w++l<:+s.data.toList):s.extract (pz s (w++l)).toNat (pz s l).toNat=bs w:=by
 refine Jw ?_;rw[ByteArray.data_extract,Array.toList_extract,List.extract_eq_take_drop,oK,MP h];have h0:=pY h;rw[show (pz s l).toNat - (pz s (w++l)).toNat=w.length from by unfold pz at h0 ⊢;rw[List.length_append] at h0 ⊢;omega];exact List.take_left
theorem QI (s:ByteArray) (c:UInt8) (hs:s.size≤1000000000):∀(l w:List UInt8) (out:List ByteArray),w++l<:+s.data.toList→out.length+l.length≤1000000000→
  Ev (fun k=>kP.l0 k s (c.toNat:Int) out (pz s (w++l)) (pz s l)) (out++(AA w (tY c l)).map bs):=by
 intro l
 induction l with
 |nil=>
  intro w out ht ho;have h0:=pY ht;have h1:=Hl s (w++ []);refine aI ?_;simp only[kP.l0];refine av (by rw[oV];exact Int.le_refl _) (av (oV s) (av h0 (av (by rw[oV];exact h1) (iU (aI ?_)))));simp only[kP.l0];refine aZ (by rw[oV,wO];omega) (fu (Ev.now _) ?_);rw[YC ht]
  simp [tY,AA]
 |cons b l ih=>
  intro w out ht ho;have hb:b::l<:+s.data.toList:=(List.suffix_append w _).trans ht;have h0:=pY ht;rw[List.length_cons] at ho;refine aI ?_;simp only[kP.l0];refine av (Hl _ _) (aZ (by have:=@vX s b l;omega) (av (pY hb) (av vX ?_)));simp only[Az hb,awm hs hb]
  by_cases h:b=c
  ·subst h;refine av rfl (av h0 (av (by unfold pz;rw[List.length_append];omega) (iU ?_)));rw[YC ht,Tp]
   have:=ih [] (out++ [bs w]) (rZ hb) (by rw[List.length_append,List.length_singleton];omega)
   rw[KF (Jz b l)] at this;refine fu this ?_
   simp
  ·refine aZ (fun e=>h (UInt8.toNat_inj.1 (by omega))) ?_;rw[QH h]
   have:=ih (w++ [b]) out (by rw[List.append_assoc];exact ht) (by omega)
   rwa [List.append_assoc] at this
theorem Tq (s:ByteArray) (c:UInt8) (hs:s.size≤1000000000):Ev (fun k=>kP.f k s (c.toNat:Int)) ((tY c s.data.toList).map bs):=by
 unfold kP.f;have hl:s.data.toList.length=s.size:=iA ..
 have:=QI s c hs s.data.toList [] [] (List.suffix_refl _) (by rw[hl,List.length_nil];omega)
 rw[List.nil_append,QE,KF (Jz _ _)] at this;exact this
def cutAt (c:UInt8) (l:List UInt8):List UInt8 × Option (List UInt8):=match l with
 |[]=>([],none)
 |b::r=>if b=c then ([],some r) else (b::(cutAt c r).1,(cutAt c r).2)
def Fa (c:UInt8):Option (List UInt8)→List (List UInt8)
 |none=> []
 |some p=>tY c p
def CB:Option (List UInt8)→Nat
 |none=>0
 |some p=>p.length+1
theorem GD (c:UInt8):∀l:List UInt8,tY c l=(cutAt c l).1::Fa c (cutAt c l).2
 |[]=>rfl
 |b::l=>by
  have ih:=GD c l;rw[tY,cutAt]
  by_cases h:b=c
  ·simp only[if_pos h]
   rfl
  ·simp only[if_neg h];rw[ih]
theorem CE {c:UInt8}:∀{l:List UInt8},(cutAt c l).2=none→c ∉ l∧(cutAt c l).1=l
 |[],_=>⟨by simp,rfl⟩
 |b::l,h=>by
  unfold cutAt at h ⊢
  by_cases hb:b=c
  ·rw[if_pos hb] at h;cases h
  ·rw[if_neg hb] at h ⊢;obtain ⟨h1,h2⟩:=CE (l:=l) h;exact ⟨by simp [h1];exact fun e=>hb e.symm,by simp [h2]⟩
theorem F3 {c:UInt8}:∀{l:List UInt8},c ∉ l→cutAt c l=(l,none)
 |[],_=>rfl
 |b::l,h=>by
  rw[List.mem_cons,not_or] at h;unfold cutAt;rw[if_neg (fun e=>h.1 e.symm),F3 h.2]
theorem aa7 {c:UInt8} {w p:List UInt8} (h:c ∉ w):cutAt c (w++c::p)=(w,some p):=by
 induction w with
 |nil=>simp [cutAt]
 |cons b w ih=>
  rw[List.mem_cons,not_or] at h;rw[List.cons_append,cutAt,if_neg (fun e=>h.1 e.symm),ih h.2]
theorem CF {c:UInt8}:∀{l p:List UInt8},(cutAt c l).2=some p→c ∉ (cutAt c l).1∧l=(cutAt c l).1++c::p
 |[],p,h=>by cases h
 |b::l,p,h=>by
  unfold cutAt at h ⊢
  by_cases hb:b=c
  ·rw[if_pos hb] at h ⊢
   cases h
   exact ⟨by simp,by simp [hb]⟩
  ·rw[if_neg hb] at h ⊢;obtain ⟨h1,h2⟩:=CF (l:=l) h;refine ⟨by simp [h1];exact fun e=>hb e.symm,?_⟩;simp only[List.cons_append];rw[←h2]
theorem CG (c:UInt8) (l:List UInt8):(cutAt c l).1.length+CB (cutAt c l).2=l.length:=by
 cases h:(cutAt c l).2 with
 |none=>simp [(CE h).2,CB]
 |some p=>
  have:=congrArg List.length (CF h).2
  rw[List.length_append,List.length_cons] at this;simp only[CB]
  omega
theorem KG (c:UInt8):∀l:List UInt8,Lib.index l [c]=if (cutAt c l).2=none then -1 else ((cutAt c l).1.length:Int)
 |[]=>rfl
 |b::l=>by
  have ih:=KG c l;unfold Lib.index cutAt;rw[ih]
  by_cases h:b=c
  ·subst h
   simp [List.isPrefixOf]
  ·have h1:([c].isPrefixOf (b::l))=false:=by simp [List.isPrefixOf];exact fun e=>h e.symm
   rw[h1,if_neg (by simp),if_neg h]
   by_cases hn:(cutAt c l).2=none
   ·simp [hn]
   ·simp only[if_neg hn];rw[if_neg (by simp),List.length_cons]
    push_cast
    rfl
theorem aa8 (c:UInt8) (l:List UInt8):Lib.cut l [c]=((cutAt c l).1,(cutAt c l).2.getD [],(cutAt c l).2.isSome):=by
 unfold Lib.cut;rw[KG]
 cases h:(cutAt c l).2 with
 |none=>
  rw[if_pos rfl,if_neg (by decide),(CE h).2]
  rfl
 |some p=>
  rw[if_neg (show ¬(some p=none) from fun e=>by cases e),if_pos (by omega),Int.toNat_natCast];have e:=(CF h).2;generalize (cutAt c l).1=w at e ⊢;subst e;rw[List.take_left,List.length_singleton,List.drop_append,List.drop_of_length_le (by omega)]
  simp
noncomputable def JA (w:List UInt8):Option Nat:=open Classical in if ∃u,Lib.decDigits u=w then Lib.decFrom 0 w else none
def GG:Option (List UInt8)→Option Nat
 |none=>some 0
 |some p=>if 1≤p.length∧p.length≤3 then Lib.decFrom 0 (p++List.replicate (3 - p.length) 48) else none
def vG (neg:Bool):Option Nat→Int × Bool
 |none=>(0,false)
 |some n=>if n≤2147483647 then (if neg=true then -(n:Int) else (n:Int),true) else (0,false)
noncomputable def MQ (w:List UInt8) (p:Option (List UInt8)):Option Nat:=(JA w).bind fun u=>(GG p).map fun v=>1000 * u+v
noncomputable def uM (neg:Bool) (l:List UInt8):Int × Bool:=vG neg (MQ (cutAt 46 l).1 (cutAt 46 l).2)
noncomputable def nJ:List UInt8→Int × Bool
 |[]=>uM false []
 |b::l=>if b=45 then uM true l else uM false (b::l)
theorem Ho (u:Nat):JA (Lib.decDigits u)=some u:=by
 unfold JA;rw[if_pos ⟨u,rfl⟩,lm]
theorem BM {w:List UInt8} {u:Nat} (h:JA w=some u):Lib.decDigits u=w:=by
 unfold JA at h
 split at h
 ·rename_i hex
  obtain ⟨v,rfl⟩:=hex;rw[lm] at h;rw[Option.some.inj h]
 ·cases h
theorem acW {p:List UInt8} {v:Nat} (h:GG (some p)=some v):1≤p.length∧p.length≤3:=by
 simp only[GG] at h
 by_cases hp:1≤p.length∧p.length≤3
 ·exact hp
 ·rw[if_neg hp] at h
  cases h
theorem Hq {neg:Bool} {l:List UInt8} (h:19<l.length):uM neg l=(0,false):=by
 unfold uM MQ
 cases hw:JA (cutAt 46 l).1 with
 |none=>rfl
 |some u=>
  cases hp:GG (cutAt 46 l).2 with
  |none=>rfl
  |some v=>
   show vG neg (some (1000 * u+v))=_
   unfold vG;simp only;rw[if_neg];intro hb;have h1:=congrArg List.length (BM hw);rw[Lib.decDigits_length] at h1;have h2:=zV 9 u (by omega);have h3:=CG 46 l
   cases hq:(cutAt 46 l).2 with
   |none=>rw[hq] at h3;simp only[CB] at h3;omega
   |some p=>
    rw[hq] at h3 hp
    have:=acW hp
    simp only[CB] at h3
    omega
theorem AB:∀{l:List UInt8} {acc n:Nat} {b:UInt8},Lib.decFrom acc l=some n→b ∈ l→48≤b.toNat∧b.toNat≤57
 |[],_,_,_,_,h=>by cases h
 |c::l,acc,n,b,e,h=>by
  rw[o9] at e;obtain ⟨d,hd,e⟩:=Option.bind_eq_some_iff.mp e
  rcases List.mem_cons.mp h with rfl|h
  ·have:=vz hd
   omega
  ·exact AB e h
theorem F4 (c:UInt8) (l:List UInt8):(bs (c::l)).extract 1 (bs (c::l)).size=bs l:=by
 apply Jw;rw[ByteArray.data_extract,Array.toList_extract,List.extract_eq_take_drop,oK,oK,iw]
 simp
theorem Tt (N:Nat):∀(K:Nat) (l:List UInt8) (rows:List (List ByteArray)) (row:List ByteArray),l.length≤N→(∀r ∈ rows,∀x ∈ r,x.size≤N)→(∀x ∈ row,x.size≤N)→∀r ∈ (pu K l rows row).1,∀x ∈ r,x.size≤N:=by
 intro K
 induction K with
 |zero=>intro l rows row _ hR _;exact hR
 |succ K ih=>
  intro l rows row hl hR hr;unfold pu
  by_cases h:l=[]∧row=[]
  ·rw[if_pos h];exact hR
  rw[if_neg h]
  cases e:lX l with
  |none=>intro r hr;cases hr
  |some p=>
   obtain ⟨f,l1⟩:=p;have hf:=y5 e;simp only
   cases e2:kU l1 with
   |none=>intro r hr;cases hr
   |some q=>
    obtain ⟨z,l2⟩:=q;have ha:=y7 e2
    have hrow:∀x ∈ row++ [(⟨f.toArray⟩:ByteArray)],x.size≤N:=by
     intro x hx
     rcases List.mem_append.mp hx with h|h
     ·exact hr x h
     ·rw[List.mem_singleton.mp h]
      show (bs f).size≤N
      rw[iw]
      omega
    cases z with
    |false=>exact ih l2 rows _ (by omega) hR hrow
    |true=>
     refine ih l2 _ [] (by omega) ?_ (fun x hx=>by cases hx);intro r hr2
     rcases List.mem_append.mp hr2 with h|h
     ·exact hR r h
     ·rw[List.mem_singleton.mp h];exact hrow
theorem F5 (s:ByteArray):∀r ∈ (mh s).1,∀x ∈ r,x.size≤4000:=by
 unfold mh
 by_cases h:s.size>4000
 ·rw[if_pos h];intro r hr
  cases hr
 ·rw[if_neg h];have hl:s.data.toList.length=s.size:=iA ..;exact Tt 4000 _ _ _ _ (by omega) (fun r hr=>by cases hr) (fun x hx=>by cases hx)
noncomputable def vQ:List ByteArray→Nat→List Int × Option Nat
 |[],_=>([],none)
 |x::r,k=>if (nJ x.data.toList).2=true then ((nJ x.data.toList).1::(vQ r (k+1)).1,(vQ r (k+1)).2) else ([],some k)
noncomputable def r9 (n:Nat):List (List ByteArray)→Nat→List (List Int)→List (List Int) × Int × Int × Int
 |[],_,acc=>(acc,0,0,0)
 |row::r,i,acc=>if row.length=n then (match (vQ row 0).2 with
   |none=>r9 n r (i+1) (acc++ [(vQ row 0).1])
   |some k=>([],9,i,k))
  else ([],4,i,0)
noncomputable def p_ (l:List ByteArray):Nat→Nat→Option (Int × Nat)
 |0,_=>none
 |d+1,j=>open Classical in if rz (yx l j) then (if Bj l j (yx l j) then some (6,j) else p_ l d (j+1)) else some (5,j)
abbrev Lj:=List ByteArray × ByteArray × List (List Int) × List Int × Int × Int × Int
def Ll (a b c:Int):Lj:=([],(⟨#[]⟩:ByteArray),[],[],a,b,c)
noncomputable def MR (names:List ByteArray) (r:List (List Int) × Int × Int × Int):Lj:=if r.2.1=0 then (names.take (names.length - 1),yx names (names.length - 1),r.1.map (fun x=>x.take (names.length - 1)),r.1.map (fun x=>rd x ((names.length - 1:Nat):Int)),0,0,0) else Ll r.2.1 r.2.2.1 r.2.2.2
noncomputable def Fb (names:List ByteArray) (rest:List (List ByteArray)):Lj:=
 if 2≤names.length∧names.length≤5 then (match p_ names names.length 0 with
  |some p=>Ll p.1 0 p.2
  |none=>if 1≤rest.length∧rest.length≤40 then MR names (r9 names.length rest 1 []) else Ll 8 0 0)
 else Ll 7 0 0
noncomputable def oL (s:ByteArray):Lj:=if (mh s).2.1=0 then (match (mh s).1 with
  |[]=>Ll 3 0 0
  |names::rest=>Fb names rest)
 else Ll (mh s).2.1 (mh s).2.2.1 (mh s).2.2.2
theorem Ei:∀(row:List ByteArray) (k:Nat),(vQ row k).2=none→(vQ row k).1.length=row.length
 |[],_,_=>rfl
 |x::r,k,h=>by
  unfold vQ at h ⊢
  by_cases hx:(nJ x.data.toList).2=true
  ·rw[if_pos hx] at h ⊢;rw[List.length_cons,List.length_cons,Ei r (k+1) h]
  ·rw[if_neg hx] at h;cases h
theorem KH (n:Nat):∀(rows:List (List ByteArray)) (i:Nat) (acc:List (List Int)),(r9 n rows i acc).2.1=0→(r9 n rows i acc).2=(0,0,0)
 |[],_,_,_=>rfl
 |row::r,i,acc,h=>by
  unfold r9 at h ⊢
  by_cases hn:row.length=n
  ·rw[if_pos hn] at h ⊢
   cases e:(vQ row 0).2 with
   |none=>rw[e] at h;exact KH n r (i+1) _ h
   |some k=>rw[e] at h;simp at h
  ·rw[if_neg hn] at h;simp at h
theorem Ej:∀(K:Nat) (l:List UInt8) (rows:List (List ByteArray)) (row:List ByteArray),(pu K l rows row).2.1=0→(pu K l rows row).2=(0,0,0)
 |0,_,_,_,_=>rfl
 |K+1,l,rows,row,h=>by
  unfold pu at h ⊢
  by_cases hh:l=[]∧row=[]
  ·rw[if_pos hh]
  rw[if_neg hh] at h ⊢
  cases e:lX l with
  |none=>rw[e] at h;simp at h
  |some p=>
   obtain ⟨f,l1⟩:=p;rw[e] at h;simp only at h ⊢
   cases e2:kU l1 with
   |none=>rw[e2] at h;simp at h
   |some q=>
    obtain ⟨z,l2⟩:=q;rw[e2] at h
    cases z with
    |false=>exact Ej K l2 rows _ h
    |true=>exact Ej K l2 _ [] h
theorem F6 {s:ByteArray} (h:(mh s).2.1=0):(mh s).2=(0,0,0):=by
 unfold mh at h ⊢
 by_cases hs:s.size>4000
 ·rw[if_pos hs] at h;simp at h
 ·rw[if_neg hs] at h ⊢;exact Ej _ _ _ _ h
theorem Bl {l:List ByteArray}:∀{d j:Nat} {p:Int × Nat},p_ l d j=some p→¬p.1=0
 |0,_,_,h=>by cases h
 |d+1,j,p,h=>by
  unfold p_ at h
  split at h
  ·split at h
   ·cases h;exact (by decide:¬(6:Int)=0)
   ·exact Bl h
  ·cases h;exact (by decide:¬(5:Int)=0)
theorem QJ (N:Nat):∀(K:Nat) (l:List UInt8) (rows:List (List ByteArray)) (row:List ByteArray),rows.length+row.length+rX l row≤N→(∀r ∈ rows,r.length≤N)→(pu K l rows row).1.length≤N∧∀r ∈ (pu K l rows row).1,r.length≤N:=by
 intro K
 induction K with
 |zero=>intro l rows row h hR;exact ⟨by show rows.length≤N;omega,hR⟩
 |succ K ih=>
  intro l rows row hl hR;unfold pu
  by_cases h:l=[]∧row=[]
  ·rw[if_pos h];exact ⟨by show rows.length≤N;omega,hR⟩
  rw[if_neg h]
  cases e:lX l with
  |none=>exact ⟨Nat.zero_le _,fun r hr=>by cases hr⟩
  |some p=>
   obtain ⟨f,l1⟩:=p;simp only
   cases e2:kU l1 with
   |none=>exact ⟨Nat.zero_le _,fun r hr=>by cases hr⟩
   |some q=>
    obtain ⟨z,l2⟩:=q
    cases z with
    |false=>
     have a:=Cv (row:=row) (x:=⟨f.toArray⟩) e e2;exact ih l2 rows _ (by rw[List.length_append,List.length_singleton];omega) hR
    |true=>
     have a:=Ef h e e2;refine ih l2 _ [] (by rw[List.length_append,List.length_singleton,List.length_nil];omega) ?_;intro r hr
     rcases List.mem_append.mp hr with hm|hm
     ·exact hR r hm
     ·rw[List.mem_singleton.mp hm,List.length_append,List.length_singleton]
      omega
theorem Em (s:ByteArray):(mh s).1.length≤9000∧∀r ∈ (mh s).1,r.length≤9000:=by
 unfold mh
 by_cases h:s.size>4000
 ·rw[if_pos h];exact ⟨Nat.zero_le _,fun r hr=>by cases hr⟩
 ·rw[if_neg h];have hl:s.data.toList.length=s.size:=iA ..;exact QJ 9000 _ _ _ _ (by unfold rX;rw[if_pos rfl];simp;omega) (fun r hr=>by cases hr)
theorem zW (n:Nat) (row:List ByteArray) (r:List (List ByteArray)) (i:Nat) (acc:List (List Int)):r9 n (row::r) i acc=if row.length=n then (match (vQ row 0).2 with
   |none=>r9 n r (i+1) (acc++ [(vQ row 0).1])
   |some k=>([],(9:Int),(i:Int),(k:Int)))
  else ([],(4:Int),(i:Int),(0:Int)):=rfl
theorem En {c:UInt8} {l:List UInt8} (hc:wG c=true) (h34:c≠34) (f:List UInt8) (hf:∀b ∈ f,wG b=false):lX (f++c::l)=some (f,c::l):=by
 have h1:∀f:List UInt8,(∀b ∈ f,wG b=false)→(f++c::l).takeWhile (fun b=> !wG b)=f:=by
  intro f
  induction f with
  |nil=>intro _;rw[List.nil_append,List.takeWhile_cons_of_neg (by simp [hc])]
  |cons b f ih=>
   intro h;have hb:=h b (List.mem_cons_self ..);rw[List.cons_append,List.takeWhile_cons_of_pos (by simp [hb]),ih fun x hx=>h x (List.mem_cons_of_mem _ hx)]
 have h2:∀f:List UInt8,(∀b ∈ f,wG b=false)→(f++c::l).dropWhile (fun b=> !wG b)=c::l:=by
  intro f
  induction f with
  |nil=>intro _;rw[List.nil_append,List.dropWhile_cons_of_neg (by simp [hc])]
  |cons b f ih=>
   intro h;have hb:=h b (List.mem_cons_self ..);rw[List.cons_append,List.dropWhile_cons_of_pos (by simp [hb]),ih fun x hx=>h x (List.mem_cons_of_mem _ hx)]
 have hp:gU (f++c::l)=(f,c::l):=by
  unfold gU;rw[h1 f hf,h2 f hf]
 cases f with
 |nil=>
  rw[List.nil_append] at hp ⊢;unfold lX;simp only;rw[if_neg h34,hp]
 |cons b f=>
  have hb:b≠34:=by
   rintro rfl
   have:=hf 34 (List.mem_cons_self ..)
   revert this
   decide
  rw[List.cons_append] at hp ⊢;unfold lX;simp only;rw[if_neg hb,hp]
theorem Pv:∀(fs:List ByteArray) (g:ByteArray) (K:Nat) (l:List UInt8) (rows:List (List ByteArray)) (row:List ByteArray),(∀f ∈ g::fs,oU f)→pu (K+(fs.length+1)) (qJ true (g::fs)++10::l) rows row=pu K l (rows++ [row++g::fs]) []
 |[],g,K,l,rows,row,h=>by
  have e:qJ true [g]++10::l=g.data.toList++10::l:=by simp [qJ]
  have e1:=En (c:=10) (l:=l) (by decide) (by decide) g.data.toList (fun b hb=>(h g (List.mem_cons_self ..) b hb).1)
  have e2:kU (10::l)=some (true,l):=by
   simp [kU]
  have e3:(⟨g.data.toList.toArray⟩:ByteArray)=g:=Ha g;rw[e]
  show pu (K+1) _ _ _=_
  rw[pu,if_neg (by simp),e1];simp only[e2,e3]
 |f::fs,g,K,l,rows,row,h=>by
  have e:qJ true (g::f::fs)++10::l=g.data.toList++44::(qJ true (f::fs)++10::l):=by simp [qJ]
  have e1:=En (c:=44) (l:=qJ true (f::fs)++10::l) (by decide) (by decide) g.data.toList (fun b hb=>(h g (List.mem_cons_self ..) b hb).1)
  have e2:∀x:List UInt8,kU (44::x)=some (false,x):=by
   intro x
   simp [kU]
  have e3:(⟨g.data.toList.toArray⟩:ByteArray)=g:=Ha g;rw[e]
  show pu (K+(fs.length+1)+1) _ _ _=_
  rw[pu,if_neg (by simp),e1];simp only[e2,e3];rw[Pv fs f K l rows (row++ [g]) (fun x hx=>h x (List.mem_cons_of_mem _ hx)),List.append_assoc]
  rfl
theorem KI:∀(row:List ByteArray),row.length≤(qJ false row).length
 |[]=>Nat.zero_le _
 |f::r=>by
  have:=KI r
  unfold qJ;simp only[List.length_append,List.length_cons,Bool.false_eq_true,if_false,List.length_nil]
  omega
theorem Hr (row:List ByteArray) (rows:List (List ByteArray)):iV (row::rows)=qJ true row++10::iV rows:=by
 unfold iV;rw[List.map_cons,List.flatten_cons];unfold xZ
 simp
theorem MS:∀(rows:List (List ByteArray)) (K:Nat) (acc:List (List ByteArray)),(∀row ∈ rows,row≠ []∧∀f ∈ row,oU f)→(iV rows).length≤K→pu K (iV rows) acc []=(acc++rows,0,0,0)
 |[],K,acc,_,_=>by
  rw[List.append_nil]
  cases K with
  |zero=>rfl
  |succ K=>
   unfold pu;exact if_pos ⟨rfl,rfl⟩
 |row::rows,K,acc,h,hK=>by
  obtain ⟨hne,hp⟩:=h row (List.mem_cons_self ..)
  cases row with
  |nil=>exact absurd rfl hne
  |cons g fs=>
   rw[Hr] at hK ⊢;have hl:=KI fs
   have hj:(qJ true (g::fs)).length=g.data.toList.length+(qJ false fs).length:=by
    simp [qJ]
   rw[List.length_append,List.length_cons] at hK
   obtain ⟨M,rfl⟩:∃M,K=M+(fs.length+1):=⟨K - (fs.length+1),by omega⟩
   rw[Pv fs g M _ acc [] hp,List.nil_append,MS rows M _ (fun x hx=>h x (List.mem_cons_of_mem _ hx)) (by omega),List.append_assoc]
   rfl
theorem Ht (rows:List (List ByteArray)) (h:∀row ∈ rows,row≠ []∧∀f ∈ row,oU f) (hl:(iV rows).length≤4000):mh (bs (iV rows))=(rows,0,0,0):=by
 unfold mh;rw[if_neg (by rw[iw];omega),oK,iw,MS rows _ [] h (by omega)]
 rfl
theorem Oz {r:Nat} (h:r<1000):Lib.decFrom 0 (three r)=some r:=by
 unfold three;simp only[Lib.decFrom];rw[yw (by omega)];simp only[];rw[yw (by omega)];simp only[];rw[yw (by omega)];simp only[]
 congr 1
 omega
theorem Hu {z:Nat} (h:z<10):UInt8.ofNat (48+z)=48↔z=0:=by
 constructor
 ·intro e;have e:=congrArg UInt8.toNat e;rw[om (by omega)] at e
  have:(48:UInt8).toNat=48:=rfl
  omega
 ·rintro rfl
  rfl
theorem Wo {r:Nat} (h0:0<r) (h:r<1000):Lib.trimRightB (three r) 48++List.replicate (3 - (Lib.trimRightB (three r) 48).length) 48=three r∧1≤(Lib.trimRightB (three r) 48).length:=by
 have e:three r=[UInt8.ofNat (48+r / 100),UInt8.ofNat (48+r / 10 % 10)]++ [UInt8.ofNat (48+r % 10)]:=rfl;have e2:[UInt8.ofNat (48+r / 100),UInt8.ofNat (48+r / 10 % 10)]=[UInt8.ofNat (48+r / 100)]++ [UInt8.ofNat (48+r / 10 % 10)]:=rfl;have e3:[UInt8.ofNat (48+r / 100)]=[]++ [UInt8.ofNat (48+r / 100)]:=rfl;rw[e,E8]
 by_cases z:r % 10=0
 ·rw[if_pos ((Hu (by omega)).2 z),e2,E8,z]
  by_cases y:r / 10 % 10=0
  ·rw[if_pos ((Hu (by omega)).2 y),e3,E8,if_neg (fun g=>by have:=(Hu (by omega)).1 g;omega),y];exact ⟨rfl,by simp⟩
  ·rw[if_neg (fun g=>y ((Hu (by omega)).1 g))];exact ⟨rfl,by simp⟩
 ·rw[if_neg (fun g=>z ((Hu (by omega)).1 g))];exact ⟨rfl,by simp⟩
theorem aa9 {r:Nat} (h0:0<r) (h:r<1000):GG (some (Lib.trimRightB (three r) 48))=some r:=by
 obtain ⟨e,l⟩:=Wo h0 h;have l3:=He (three r);have e3:(three r).length=3:=rfl;simp only[GG];rw[if_pos ⟨l,by omega⟩,e,Oz h]
theorem QK (neg:Bool) (n:Nat) (h:n≤2147483647):uM neg (Lib.decDigits (n / 1000)++(if n % 1000=0 then [] else 46::Lib.trimRightB (three (n % 1000)) 48))=(if neg=true then -(n:Int) else (n:Int),true):=by
 have hm:46 ∉ Lib.decDigits (n / 1000):=by
  intro hb
  have:=qF hb
  have e:(46:UInt8).toNat=46:=rfl
  omega
 have hs:∀m,m=n→vG neg (some m)=(if neg=true then -(n:Int) else (n:Int),true):=by
  rintro _ rfl;unfold vG;simp only;rw[if_pos h]
 unfold uM MQ
 by_cases z:n % 1000=0
 ·rw[if_pos z,List.append_nil,F3 hm]
  dsimp only
  rw[Ho];exact hs _ (show 1000 * (n / 1000)+0=n by omega)
 ·rw[if_neg z,aa7 hm]
  dsimp only
  rw[Ho,aa9 (by omega) (by omega)];exact hs _ (show 1000 * (n / 1000)+n % 1000=n by omega)
theorem QL {n:Int} (h:pX n):nJ (wy n)=(n,true):=by
 unfold pX at h
 have hb:=fun neg=>QK neg n.natAbs (by omega)
 unfold wy
 by_cases hn:n<0
 ·rw[if_pos hn]
  show nJ (45::(Lib.decDigits (n.natAbs / 1000)++_))=_
  unfold nJ;simp only;rw[if_pos trivial,hb true,if_pos rfl]
  congr 1
  omega
 ·rw[if_neg hn,List.nil_append];have hf:=hb false;rw[if_neg (show ¬(false=true) by decide)] at hf;rw[show (n.natAbs:Int)=n by omega] at hf
  cases hd:Lib.decDigits (n.natAbs / 1000) with
  |nil=>exact absurd hd (zy _)
  |cons b r=>
   have h45:b≠45:=by
    rintro rfl
    have:=qF (u:=n.natAbs / 1000) (b:=45) (by rw[hd];exact List.mem_cons_self ..)
    have e:(45:UInt8).toNat=45:=rfl
    omega
   rw[hd] at hf;rw[List.cons_append] at hf ⊢;unfold nJ;simp only;rw[if_neg h45];exact hf
theorem QM {l:List UInt8} (h:(nJ l).2=true):pX (nJ l).1:=by
 have hS:∀(neg:Bool) (o:Option Nat),(vG neg o).2=true→pX (vG neg o).1:=by
  intro neg o g;unfold vG at g ⊢
  split at g
  ·cases g
  ·split at g
   ·rename_i m hm
    rw[if_pos hm];unfold pX
    cases neg<;>simp<;>omega
   ·cases g
 unfold nJ at h ⊢
 split at h
 ·exact hS _ _ h
 ·split at h
  ·rename_i hb
   rw[if_pos hb];exact hS _ _ h
  ·rename_i hb
   rw[if_neg hb];exact hS _ _ h
theorem Pw:∀(xs:List Int) (k:Nat),(∀x ∈ xs,pX x)→vQ (xs.map fun n=>bs (wy n)) k=(xs,none)
 |[],_,_=>rfl
 |x::xs,k,h=>by
  rw[List.map_cons,vQ,oK,QL (h x (List.mem_cons_self ..)),if_pos rfl,Pw xs (k+1) fun y hy=>h y (List.mem_cons_of_mem _ hy)]
theorem MU (m:Nat):∀(vs:List (List Int)) (i:Nat) (acc:List (List Int)),(∀v ∈ vs,v.length=m∧∀x ∈ v,pX x)→r9 m (vs.map fun v=>v.map fun n=>bs (wy n)) i acc=(acc++vs,0,0,0)
 |[],_,acc,_=>by rw[List.append_nil];rfl
 |v::vs,i,acc,h=>by
  obtain ⟨h1,h2⟩:=h v (List.mem_cons_self ..);rw[List.map_cons,zW,if_pos (by rw[List.length_map];exact h1),Pw v 0 h2]
  dsimp only
  rw[MU m vs (i+1) _ fun y hy=>h y (List.mem_cons_of_mem _ hy),List.append_assoc]
  rfl
theorem Px:∀(row:List ByteArray) (k:Nat),∀x ∈ (vQ row k).1,pX x
 |[],_,x,h=>by cases h
 |y::r,k,x,h=>by
  unfold vQ at h
  by_cases g:(nJ y.data.toList).2=true
  ·rw[if_pos g] at h
   rcases List.mem_cons.1 h with rfl|h
   ·exact QM g
   ·exact Px r (k+1) x h
  ·rw[if_neg g] at h
   cases h
theorem MV (m:Nat):∀(rows:List (List ByteArray)) (i:Nat) (acc:List (List Int)),(∀v ∈ acc,v.length=m∧∀x ∈ v,pX x)→(r9 m rows i acc).2.1=0→(r9 m rows i acc).1.length=acc.length+rows.length∧∀v ∈ (r9 m rows i acc).1,v.length=m∧∀x ∈ v,pX x
 |[],_,acc,h,_=>⟨rfl,h⟩
 |row::r,i,acc,h,hz=>by
  rw[zW] at hz ⊢
  by_cases hn:row.length=m
  ·rw[if_pos hn] at hz ⊢
   cases e:(vQ row 0).2 with
   |none=>
    rw[e] at hz
    dsimp only at hz ⊢
    obtain ⟨h1,h2⟩:=MV m r (i+1) (acc++ [(vQ row 0).1]) (fun v hv=>by
     rcases List.mem_append.1 hv with hv|hv
     ·exact h v hv
     ·obtain rfl:=List.mem_singleton.1 hv
      exact ⟨(Ei row 0 e).trans hn,Px row 0⟩) hz
    refine ⟨?_,h2⟩;rw[h1,List.length_append,List.length_singleton,List.length_cons]
    omega
   |some k=>rw[e] at hz;cases hz
  ·rw[if_neg hn] at hz
   cases hz
theorem Eo {l:List ByteArray}:∀{d j:Nat},p_ l d j=none↔∀i,j≤i→i<j+d→zU l i
 |0,j=>⟨fun _ i h1 h2=>by omega,fun _=>rfl⟩
 |d+1,j=>by
  have ih:=@Eo l d (j+1);unfold p_
  by_cases h1:rz (yx l j)
  ·rw[if_pos h1]
   by_cases h2:Bj l j (yx l j)
   ·rw[if_pos h2];exact ⟨fun h=>(by cases h),fun h=>absurd h2 (h j (Nat.le_refl _) (by omega)).2⟩
   ·rw[if_neg h2,ih]
    constructor
    ·intro h i g1 g2
     by_cases e:i=j
     ·subst e;exact ⟨h1,h2⟩
     ·exact h i (by omega) (by omega)
    ·exact fun h i g1 g2=>h i (by omega) (by omega)
  ·rw[if_neg h1];exact ⟨fun h=>(by cases h),fun h=>absurd (h j (Nat.le_refl _) (by omega)).1 h1⟩
theorem Tu (L:List ByteArray) (t s:ByteArray) {n:Nat} (h:n≤L.length):Bj (L++ [t]) n s↔Bj L n s:=by
 unfold Bj;exact ⟨fun ⟨j,a,b⟩=>⟨j,a,by rw[vO L t (by omega)] at b;exact b⟩,fun ⟨j,a,b⟩=>⟨j,a,by rw[vO L t (by omega)];exact b⟩⟩
theorem Wp {α:Type} (z:α) (l:List α):(List.range l.length).map (fun i=>l.getD i z)=l:=by
 refine List.ext_getElem (by simp) fun n h1 h2=>?_
 rw[List.getElem_map,List.getElem_range,List.getD_eq_getElem?_getD,List.getElem?_eq_getElem h2]
 rfl
theorem acX (l:List Int):(List.range l.length).map (fun i:Nat=>rd l (i:Int))=l:=by
 refine List.ext_getElem (by simp) fun n h1 h2=>?_
 rw[List.getElem_map,List.getElem_range,Ay (List.getElem?_eq_getElem h2)]
theorem MW {L:List ByteArray} {t:ByteArray} {R:List (List Int)} {Y:List Int} (h:vP L t R Y) (hl:(iV (ja L t R Y)).length≤4000):oL (bs (iV (ja L t R Y)))=(L,t,R,Y,0,0,0):=by
 have hrow:=qK h;obtain ⟨⟨hL1,hL4⟩,ht,hnt,⟨hR1,aZ6⟩,hY,hN,hT⟩:=h
 have hYl:Y.length=R.length:=by omega
 have hread:=Ht (ja L t R Y) (fun row hr=>⟨fun e=>by
  subst e;unfold ja xn at hr
  rcases List.mem_cons.1 hr with e|hr
  ·simp at e
  ·obtain ⟨i,_,e⟩:=List.mem_map.1 hr;unfold Wm at e
   simp at e,fun f hf=>((hrow row hr).2 f hf).2⟩) hl
 have hv:xn R Y R.length=((List.range R.length).map fun i=>R.getD i []++ [rd Y (i:Int)]).map fun v=>v.map fun n=>bs (wy n):=by
  unfold xn;rw[List.map_map]
  refine List.map_congr_left fun i _=>?_
  unfold Wm
  simp
 have hgood:∀v ∈ (List.range R.length).map (fun i=>R.getD i []++ [rd Y (i:Int)]),v.length=L.length+1∧∀x ∈ v,pX x:=by
  intro v hv;obtain ⟨i,hi,rfl⟩:=List.mem_map.1 hv;have g:=hT i (Nat.zero_le _) (List.mem_range.1 hi);refine ⟨by rw[List.length_append,List.length_singleton];have:=g.1;omega,fun x hx=>?_⟩
  rcases List.mem_append.1 hx with hx|hx
  ·exact Eg g hx
  ·rw[List.mem_singleton.1 hx];exact g.2.1
 have hhead:p_ (L++ [t]) (L++ [t]).length 0=none:=by
  refine Eo.2 fun i _ hi=>?_
  rw[List.length_append,List.length_singleton] at hi
  by_cases e:i<L.length
  ·have:=hN i (Nat.zero_le _) e
   unfold zU at this ⊢;rw[vO L t e,Tu L t _ (by omega)];exact this
  ·obtain rfl:i=L.length:=by omega
   unfold zU;rw[Cx,Tu L t _ (Nat.le_refl _)];exact ⟨ht,hnt⟩
 unfold oL;rw[hread,if_pos rfl]
 show Fb (L++ [t]) (xn R Y R.length)=_
 unfold Fb
 have hlen:(L++ [t]).length=L.length+1:=by rw[List.length_append,List.length_singleton]
 have hrl:(xn R Y R.length).length=R.length:=by unfold xn;rw[List.length_map,List.length_range]
 rw[if_pos (by omega),hhead]
 dsimp only
 rw[if_pos (by omega),hv,hlen,MU (L.length+1) _ 1 [] hgood,List.nil_append];unfold MR;rw[if_pos rfl,hlen,Nat.add_sub_cancel,Cx,List.take_left,List.map_map,List.map_map]
 have e1:(List.range R.length).map ((fun x=>x.take L.length) ∘ fun i=>R.getD i []++ [rd Y (i:Int)])=R:=by
  refine Eq.trans (List.map_congr_left fun i hi=>?_) (Wp [] R);have g:=hT i (Nat.zero_le _) (List.mem_range.1 hi)
  have g1:(R.getD i []).length=L.length:=by have:=g.1;omega
  show (R.getD i []++ [rd Y (i:Int)]).take L.length=R.getD i []
  rw[←g1,List.take_left]
 have e2:(List.range R.length).map ((fun x=>rd x (L.length:Int)) ∘ fun i=>R.getD i []++ [rd Y (i:Int)])=Y:=by
  rw[←hYl];refine Eq.trans (List.map_congr_left fun i hi=>?_) (acX Y);rw[hYl] at hi;have g:=hT i (Nat.zero_le _) (List.mem_range.1 hi)
  have g1:(R.getD i []).length=L.length:=by have:=g.1;omega
  show rd (R.getD i []++ [rd Y (i:Int)]) (L.length:Int)=rd Y (i:Int)
  refine Ay ?_;rw[←g1,List.getElem?_append_right (Nat.le_refl _),Nat.sub_self]
  rfl
 rw[e1,e2]
theorem Lm (s:ByteArray) (h:(oL s).2.2.2.2.1=0):vP (oL s).1 (oL s).2.1 (oL s).2.2.1 (oL s).2.2.2.1:=by
 have bad:∀{a b c:Int},(Ll a b c).2.2.2.2.1=0→a=0:=fun h=>h
 unfold oL at h ⊢
 by_cases h0:(mh s).2.1=0
 ·rw[if_pos h0] at h ⊢
  cases hr:(mh s).1 with
  |nil=>rw[hr] at h;exact absurd (bad h) (by decide)
  |cons names rest=>
   rw[hr] at h
   dsimp only at h ⊢
   unfold Fb at h ⊢
   by_cases hn:2≤names.length∧names.length≤5
   ·rw[if_pos hn] at h ⊢
    cases hh:p_ names names.length 0 with
    |some p=>
     rw[hh] at h;exact absurd (bad h) (Bl hh)
    |none=>
     rw[hh] at h
     dsimp only at h ⊢
     by_cases hc:1≤rest.length∧rest.length≤40
     ·rw[if_pos hc] at h ⊢;unfold MR at h ⊢
      by_cases hz:(r9 names.length rest 1 []).2.1=0
      ·rw[if_pos hz];obtain ⟨g1,g2⟩:=MV names.length rest 1 [] (fun v hv=>by cases hv) hz;generalize (r9 names.length rest 1 []).1=V at g1 g2;have hname:=Eo.1 hh;rw[List.length_nil,Nat.zero_add] at g1
       have hat:∀j,j<names.length - 1→yx (names.take (names.length - 1)) j=yx names j:=fun j hj=>Hf names hj
       refine ⟨?_,(hname (names.length - 1) (Nat.zero_le _) (by omega)).1,?_,?_,?_,?_,?_⟩
       ·dsimp only
        rw[List.length_take]
        omega
       ·dsimp only
        rw[xy names (by omega)];exact (hname (names.length - 1) (Nat.zero_le _) (by omega)).2
       ·dsimp only
        rw[List.length_map]
        omega
       ·dsimp only
        rw[List.length_map,List.length_map]
       ·intro j _ hj
        dsimp only at hj ⊢
        rw[List.length_take] at hj
        have:=hname j (Nat.zero_le _) (by omega)
        unfold zU at this ⊢;rw[hat j (by omega)];refine ⟨this.1,fun ⟨q,a,b⟩=>this.2 ⟨q,a,?_⟩⟩;rw[hat q (by omega)] at b;exact b
       ·intro j _ hj
        dsimp only at hj ⊢
        rw[List.length_map] at hj;obtain ⟨l1,l2⟩:=g2 _ (List.getElem_mem hj)
        have e1:(V.map fun x=>x.take (names.length - 1)).getD j []=(V[j]).take (names.length - 1):=by
         rw[List.getD_eq_getElem?_getD,List.getElem?_map,List.getElem?_eq_getElem hj]
         rfl
        have e2:rd (V.map fun x=>rd x ((names.length - 1:Nat):Int)) (j:Int)=rd V[j] ((names.length - 1:Nat):Int):=by
         refine Ay ?_;rw[List.getElem?_map,List.getElem?_eq_getElem hj]
         rfl
        unfold Tk;rw[e1,e2,List.length_take,List.length_take]
        have hin:∀q,q<names.length→pX (rd V[j] (q:Int)):=fun q hq=>by
         rw[Ay (List.getElem?_eq_getElem (by omega:q<V[j].length))];exact l2 _ (List.getElem_mem _)
        refine ⟨by omega,hin _ (by omega),fun i _ hi=>?_⟩
        have e3:rd ((V[j]).take (names.length - 1)) (i:Int)=rd V[j] (i:Int):=by
         rw[Ay (List.getElem?_eq_getElem (by omega:i<V[j].length))];refine Ay ?_;rw[List.getElem?_take,if_pos (by omega),List.getElem?_eq_getElem (by omega:i<V[j].length)]
        rw[e3];exact hin _ (by omega)
      ·rw[if_neg hz] at h;exact absurd h hz
     ·rw[if_neg hc] at h;exact absurd (bad h) (by decide)
   ·rw[if_neg hn] at h;exact absurd (bad h) (by decide)
 ·rw[if_neg h0] at h;exact absurd h h0
theorem CJ {α β:Type} {f:Nat→Option α} {g:Nat→α→Option β} {a:α} {P:β→Prop} (h:Ev f a) (h2:∃b,Ev (fun k=>g k a) b∧P b):∃b,Ev (fun k=>(f k).bind (g k)) b∧P b:=by
 obtain ⟨b,e,p⟩:=h2;exact ⟨b,Ev.bind h e,p⟩
theorem jY {α:Type} {c:Prop} [Decidable c] {f g:Nat→Option α} {P:α→Prop} (hc:c) (h:∃b,Ev f b∧P b):∃b,Ev (fun k=>if c then f k else g k) b∧P b:=by
 obtain ⟨b,e,p⟩:=h;exact ⟨b,av hc e,p⟩
theorem wJ {α:Type} {c:Prop} [Decidable c] {f g:Nat→Option α} {P:α→Prop} (hc:¬c) (h:∃b,Ev g b∧P b):∃b,Ev (fun k=>if c then f k else g k) b∧P b:=by
 obtain ⟨b,e,p⟩:=h;exact ⟨b,aZ hc e,p⟩
theorem y9 {α:Type} {P:α→Prop} (b:α) (h:P b):∃b',Ev (fun _=>some b) b'∧P b':=⟨b,Ev.now b,h⟩
theorem L9 {α:Type} {g:Nat→Option α} {P:α→Prop} (h:∃b,Ev (fun k=>g (k+1)) b∧P b):∃b,Ev g b∧P b:=by
 obtain ⟨b,e,p⟩:=h;exact ⟨b,aI e,p⟩
theorem acY {L:List ByteArray} {t:ByteArray} {R:List (List Int)} {Y:List Int} (hL:L.length≤3) (hs:∀x ∈ L,x.size≤2) (ht:t.size≤2) (hR:R.length≤40) (hr:xx L.length R) (hYl:Y.length=R.length) (hY:MH Y):Pq L t R Y:=
 ⟨by omega,fun x hx=>by have:=hs x hx;omega,by omega,by omega,fun r h=>⟨by have:=(hr r h).1;omega,(hr r h).2⟩,by omega,hY⟩
theorem MH.set {l:List Int} (h:MH l) {x:Int} (hx:I64 x) (n:Nat):MH (l.set n x):=by
 intro y hy
 rcases List.mem_or_eq_of_mem_set hy with hy|hy
 ·exact h y hy
 ·subst hy;exact hx
theorem YD {R:List (List Int)} {i:Int} (h0:0≤i) (h:i<(R.length:Int)):R.getD i.toNat [] ∈ R:=List.mem_of_getElem? (amw [] h0 h)
def Tv (l:List Int) (b:List ByteArray × ByteArray × (List (List Int)) × List Int × Int × Int):Prop:=Ao l b.2.2.2.2.1∧Pq b.1 b.2.1 b.2.2.1 b.2.2.2.1
theorem aba {l:List Int} (L:List ByteArray) (t:ByteArray):∀(d:Nat) (R:List (List Int)) (Y:List Int) (i h:Int),R.length+d=41→0<R.length→Y.length=R.length→Pq L t R Y→Ao l i→∃b,Ev (fun k=>cB.l0 k l i h L t R Y) b∧Tv l b:=by
 intro d
 induction d with
 |zero=>
  intro R Y i h hR h0 hY D hc;obtain ⟨r,i1,h1,e1,c1,r1,r2,_⟩:=kW h 2 hc;have r3:=r2 (by omega);have hw:wrap64 (40+r)=40+r:=wO;refine L9 ?_;simp only[cB.l0,e1,Option.bind_some,hw];exact wJ (by omega) (y9 _ ⟨c1,D⟩)
 |succ d ih=>
  intro R Y i h hR h0 hY D hc;obtain ⟨r,i1,h1,e1,c1,r1,r2,_⟩:=kW h 2 hc;have r3:=r2 (by omega);have hw:wrap64 (40+r)=40+r:=wO;refine L9 ?_;simp only[cB.l0,e1,Option.bind_some,hw,rdL,List.nil_append,List.length_nil]
  by_cases g:(R.length:Int)<40+r
  ·obtain ⟨a1,a2,a3,a4,a5,a6,a7⟩:=D;have hm:=a5 _ (YD (i:=0) (by omega) (by omega:(0:Int)<(R.length:Int)));refine jY g (jY (by omega) (jY (by omega) (jY (by omega) (jY (by omega) (ih _ _ _ _ (by simp only[List.length_append,List.length_cons,List.length_nil];omega) (by simp only[List.length_append,List.length_cons,List.length_nil];omega) (by simp only[List.length_append,List.length_cons,List.length_nil];omega) ?_ c1)))));refine ⟨a1,a2,a3,by simp only[List.length_append,List.length_cons,List.length_nil];omega,?_,by simp only[List.length_append,List.length_cons,List.length_nil];omega,a7.snoc ⟨by decide,by decide⟩⟩;intro y hy
   rcases List.mem_append.1 hy with hy|hy
   ·exact a5 y hy
   ·obtain rfl:=List.mem_singleton.1 hy;exact hm
  ·exact wJ g (y9 _ ⟨c1,D⟩)
theorem apR {l:List Int} {i:Int} (h:Int) (hc:Ao l i):∃b,Ev (fun k=>cB.f k l i h) b∧Tv l b:=by
 unfold cB.f;obtain ⟨L,t,R,Y,i1,h1,e1,c1,⟨hL0,hL3⟩,hs,ht,⟨hR0,hR4⟩,hr,hYl,hY⟩:=aiv h hc;have D:Pq L t R Y:=acY hL3 hs ht hR4 hr hYl hY;have D':=D;obtain ⟨a1,a2,a3,a4,a5,a6,a7⟩:=D';obtain ⟨k,i2,h2,e2,c2,k1,k2,_⟩:=kW h1 (R.length:Int) c1;have k3:=k2 (by omega);obtain ⟨s,i3,h3,e3,c3,s1,s2,_⟩:=kW h2 14 c2;have hm:=YD k1 k3;have hml:=(hr _ hm).1
 have setR:∀r:List Int,r.length≤5∧MH r→Pq L t (R.set k.toNat r) Y:=by
  intro r h';refine ⟨a1,a2,a3,by rw[List.length_set];exact a4,?_,a6,a7⟩;intro y hy
  rcases List.mem_or_eq_of_mem_set hy with hy|hy
  ·exact a5 y hy
  ·subst hy;exact h'
 refine CJ e1 ?_;simp only[e2,e3,Option.bind_some]
 try (refine L9 ?_;simp only[cB.j0])
 simp only[rdL]
 by_cases g0:s=0
 ·obtain ⟨r,i4,h4,e4,c4,hr⟩:=QC h3 ([(⟨#[]⟩:ByteArray),(⟨#[65]⟩:ByteArray),(⟨#[49,97]⟩:ByteArray),(⟨#[121]⟩:ByteArray),(⟨#[97,98,99,100,101,102,103,104,105,106,107,108]⟩:ByteArray),(⟨#[97,98,99,100,101,102,103,104,105,106,107,108,109]⟩:ByteArray),(⟨#[98]⟩:ByteArray)]:List ByteArray) c3 (by simp);refine jY g0 ?_;simp only[e4,Option.bind_some];refine jY (by omega) (y9 _ ⟨c4,by rw[List.length_set];exact a1,?_,a3,a4,a5,a6,a7⟩);intro x hx
  rcases List.mem_or_eq_of_mem_set hx with hx|hx
  ·exact a2 x hx
  ·subst hx;simp only[List.mem_cons,List.not_mem_nil,or_false] at hr
   rcases hr with rfl|rfl|rfl|rfl|rfl|rfl|rfl<;>decide
 refine wJ g0 ?_
 by_cases g1:s=1
 ·obtain ⟨r,i4,h4,e4,c4,hr⟩:=QC h3 ([(⟨#[]⟩:ByteArray),(⟨#[97]⟩:ByteArray),(⟨#[121,45]⟩:ByteArray)]:List ByteArray) c3 (by simp);refine jY g1 ?_;simp only[e4,Option.bind_some];refine y9 _ ⟨c4,a1,a2,?_,a4,a5,a6,a7⟩;simp only[List.mem_cons,List.not_mem_nil,or_false] at hr
  show r.size≤13
  rcases hr with rfl|rfl|rfl<;>decide
 refine wJ g1 ?_
 by_cases g2:s=2
 ·exact jY g2 (jY k1 (jY k3 (jY (by omega) (y9 _ ⟨c3,setR _ ⟨by rw[List.length_append,hml];simp only[List.length_cons,List.length_nil];omega,(hr _ hm).2.snoc ⟨by decide,by decide⟩⟩⟩))))
 refine wJ g2 ?_
 by_cases g3:s=3
 ·obtain ⟨r,i4,h4,e4,c4,hv⟩:=E5 h3 ([2147483647,2147483648,(-2147483648)]:List Int) c3 (by simp);refine jY g3 (jY k1 (jY k3 ?_));simp only[e4,Option.bind_some];refine jY (by omega) (y9 _ ⟨c4,setR _ ⟨by rw[List.length_set];omega,(hr _ hm).2.set ?_ _⟩⟩);simp only[List.mem_cons,List.not_mem_nil,or_false] at hv;unfold I64;omega
 refine wJ g3 ?_
 by_cases g4:s=4
 ·obtain ⟨r,i4,h4,e4,c4,hv⟩:=aiu h3 c3;exact jY g4 (CJ e4 (jY k1 (jY (by omega) (y9 _ ⟨c4,a1,a2,a3,a4,a5,by rw[List.length_set];exact a6,a7.set hv _⟩))))
 refine wJ g4 ?_
 by_cases g5:s=5
 ·exact jY g5 (jY (by omega) (y9 _ ⟨c3,a1,a2,a3,a4,a5,by rw[List.length_append];simp only[List.length_cons,List.length_nil];omega,a7.snoc ⟨by decide,by decide⟩⟩))
 refine wJ g5 ?_
 by_cases g6:s=6
 ·exact jY g6 (jY k1 (jY k3 (y9 _ ⟨c3,setR _ ⟨by simp,fun x hx=>by simp at hx⟩⟩)))
 refine wJ g6 ?_
 by_cases g7:s=7
 ·exact jY g7 (aba L t (41 - R.length) R Y i3 h3 (by omega) hR0 hYl D c3)
 ·exact wJ g7 (y9 _ ⟨c3,D⟩)
abbrev acZ:List ByteArray:=([(⟨#[34]⟩:ByteArray),(⟨#[44]⟩:ByteArray),(⟨#[10]⟩:ByteArray),(⟨#[13]⟩:ByteArray),(⟨#[13,10]⟩:ByteArray),(⟨#[120]⟩:ByteArray),(⟨#[34,34]⟩:ByteArray),(⟨#[48]⟩:ByteArray),(⟨#[46]⟩:ByteArray)]:List ByteArray)
theorem Tw {l:List Int} {i:Int} (h:Int) (t:ByteArray) (ht:t.size≤100000000) (hc:Ao l i):∃(r:ByteArray) (i' h':Int),fF.f l i h t=some (r,i',h')∧Ao l i':=by
 unfold fF.f;rw[xg (x:=(t.size:Int)+1) (by omega) (by omega)];obtain ⟨x,i1,h1,e1,c1,x0,x1,_⟩:=kW h ((t.size:Int)+1) hc;have x2:=x1 (by omega);obtain ⟨y,i2,h2,e2,c2,_⟩:=kW h1 6 c1;simp only[e1,e2,Option.bind_some]
 by_cases k0:y=0
 ·obtain ⟨z,i3,h3,e3,c3,hz⟩:=QC h2 acZ c2 (by decide)
  have hz1:z.size≤3000:=by
   have:∀q ∈ acZ,q.size≤3000:=by decide
   exact this z hz
  refine ⟨t.extract 0 x.toNat++z++t.extract x.toNat t.size,i3,h3,?_,c3⟩;rw[if_pos k0,if_pos x0,if_pos (by omega)]
  show (lH.f l i2 h2 acZ).bind _=_
  rw[e3];simp only[Option.bind_some];rw[if_pos (by rw[ByteArray.size_extract];omega),if_pos (by rw[ByteArray.size_append,ByteArray.size_extract,ByteArray.size_extract];omega)]
 by_cases k1:y=1
 ·refine ⟨t.extract 0 x.toNat,i2,h2,?_,c2⟩;rw[if_neg k0,if_pos k1,if_pos x0,if_pos (by omega)]
 ·refine ⟨t,i2,h2,?_,c2⟩;rw[if_neg k0,if_neg k1]
theorem Wq (x:ByteArray) (hx:x.size≤1000):∀(k:Nat) (l:List UInt8),l.length=k→k≤1000→(∃b ∈ l,b≠48)→
  Ev (fun k=>gm.l0 k x (nm l)) (x++bs (46::Lib.trimRightB l 48)):=by
 intro k
 induction k with
 |zero=>
  intro l hl _ ⟨b,hb,_⟩;rw[List.length_eq_zero_iff.mp hl] at hb
  cases hb
 |succ k ih=>
  intro l hl hk hne
  obtain ⟨a,c,rfl⟩:∃a c,l=a++ [c]:=by
   have h:l≠ []:=by intro h;rw[h] at hl;cases hl
   exact ⟨l.dropLast,l.getLast h,(List.dropLast_concat_getLast h).symm⟩
  rw[List.length_append,List.length_singleton] at hl
  have en:(nm (a++ [c])).length=k+1:=by rw[nN,List.length_append,List.length_singleton];omega
  have ew:wrap64 (((nm (a++ [c])).length:Int) - 1)=(k:Int):=by rw[en,wO];omega
  have er:rd (nm (a++ [c])) (k:Int)=(c.toNat:Int):=by
   refine Ay ?_;rw[uL,List.getElem?_append_right (by rw[nN];omega),nN]
   have:k - a.length=0:=by omega
   rw[this]
   rfl
  refine aI ?_;simp only[gm.l0];rw[ew,er];rw[E8];refine iU (av (by rw[en];omega) ?_)
  by_cases h:c=48
  ·subst h;rw[if_pos rfl];refine av rfl (av (by rw[en];omega) ?_)
   have et:(nm (a++ [48])).take ((k:Int)).toNat=nm a:=by
    rw[Int.toNat_natCast,uL]
    have:k=(nm a).length:=by rw[nN];omega
    rw[this];exact List.take_left
   rw[et];refine ih a (by omega) (by omega) ?_;obtain ⟨b,hb,hn⟩:=hne
   rcases List.mem_append.1 hb with h|h
   ·exact ⟨b,h,hn⟩
   ·exact absurd (List.mem_singleton.1 h) hn
  ·rw[if_neg h];have s1:(⟨#[46]⟩:ByteArray)=bs [46]:=rfl
   have s2:(x++bs [46]).size=x.size+1:=by rw[ByteArray.size_append,iw];rfl
   refine aZ (fun e=>h ?_) (iU (av ?_ (fu (Ev.now _) ?_)))
   ·exact (vw (n:=48) (by omega)).1 e
   ·rw[s1,s2,mY,iw,List.length_append,List.length_singleton];omega
   ·rw[s1,mY,ByteArray.append_assoc,pF]
    rfl
theorem ac0 {u:Nat}:([(wrap64 (48+(wrap64 (Int.tdiv ((u % 1000:Nat):Int) 100)))) % 256,(wrap64 (48+(Int.tmod (wrap64 (Int.tdiv ((u % 1000:Nat):Int) 10)) 10))) % 256,(wrap64 (48+(Int.tmod ((u % 1000:Nat):Int) 10))) % 256]:List Int)=nm (three (u % 1000)):=by
 have a1:Int.tdiv ((u % 1000:Nat):Int) 100=((u % 1000 / 100:Nat):Int):=(Int.ofNat_tdiv _ 100).symm;have a2:Int.tdiv ((u % 1000:Nat):Int) 10=((u % 1000 / 10:Nat):Int):=(Int.ofNat_tdiv _ 10).symm;have a3:Int.tmod ((u % 1000 / 10:Nat):Int) 10=((u % 1000 / 10 % 10:Nat):Int):=(Int.ofNat_tmod _ 10).symm;have a4:Int.tmod ((u % 1000:Nat):Int) 10=((u % 1000 % 10:Nat):Int):=(Int.ofNat_tmod _ 10).symm;rw[a1,a2,xg (x:=((u % 1000 / 100:Nat):Int)) (by omega) (by omega),xg (x:=((u % 1000 / 10:Nat):Int)) (by omega) (by omega),a3,a4];rw[wO,wO,wO];unfold nm three;simp only[List.map_cons,List.map_nil];rw[om (by omega),om (by omega),om (by omega)]
 congr 1
 ·omega
 congr 1
 ·omega
 congr 1
 omega
theorem ac1 {u:Nat} (h:u % 1000≠0):∃b ∈ three (u % 1000),b≠48:=by
 have key:∀d:Nat,d<10→d≠0→UInt8.ofNat (48+d)≠48:=by
  intro d h1 h2 e;have e:=congrArg UInt8.toNat e;rw[om (by omega)] at e;have e:48+d=48:=e
  omega
 unfold three
 by_cases h1:u % 1000 / 100=0
 ·by_cases h2:u % 1000 / 10 % 10=0
  ·exact ⟨_,List.mem_cons_of_mem _ (List.mem_cons_of_mem _ (List.mem_cons_self ..)),key _ (by omega) (by omega)⟩
  ·exact ⟨_,List.mem_cons_of_mem _ (List.mem_cons_self ..),key _ (by omega) h2⟩
 ·exact ⟨_,List.mem_cons_self ..,key _ (by omega) h1⟩
theorem MX (u:Nat) (g:List UInt8) (hu:u≤2147483647) (hg:g.length≤1):Ev (fun k=>gm.j0 k (u:Int) (bs g)) (bs (g++Lib.decDigits (u / 1000)++(if u % 1000=0 then [] else 46::Lib.trimRightB (three (u % 1000)) 48))):=by
 refine aI ?_;simp only[gm.j0];have a1:Int.tdiv (u:Int) 1000=((u / 1000:Nat):Int):=(Int.ofNat_tdiv _ 1000).symm;have a2:Int.tmod (u:Int) 1000=((u % 1000:Nat):Int):=(Int.ofNat_tmod _ 1000).symm;rw[a1,a2,xg (x:=((u / 1000:Nat):Int)) (by omega) (by omega)];have d:=GA ((u / 1000:Nat):Int) (by omega) (by omega);have ds:=aa4 ((u / 1000:Nat):Int) (by omega) (by omega);rw[zT] at d ds;refine Ev.bind d (av (by rw[iw];omega) ?_)
 by_cases h:u % 1000=0
 ·rw[if_pos h,List.append_nil];exact iU (fu (Ev.now _) (pF _ _))
 ·rw[if_neg h,ac0];refine xY ?_;rw[←pF,←pF];refine Wq (bs g++bs (Lib.decDigits (u / 1000))) ?_ 3 _ rfl (by omega) (ac1 h);rw[ByteArray.size_append,iw]
  omega
theorem KJ (n:Int) (h:pX n):Ev (fun k=>gm.f k n) (bs (wy n)):=by
 unfold gm.f;simp only[L8,Option.bind_some];refine av (amz h) ?_;unfold pX at h;unfold wy
 by_cases hn:n<0
 ·rw[if_pos hn];refine av hn ?_
  have e:wrap64 (-n)=((n.natAbs:Nat):Int):=by rw[wO];omega
  rw[e];exact MX n.natAbs [45] (by omega) (by decide)
 ·rw[if_neg hn];refine aZ hn ?_
  have e:n=((n.natAbs:Nat):Int):=by omega
  conv=>rw[e]
  exact MX n.natAbs [] (by omega) (by decide)
theorem ac2 (xs:List (List ByteArray)) (i:Int):aN xs i=xs.getD i.toNat []:=rfl
theorem Lp (s:ByteArray) (hs:oU s) (hl:s.size≤1048576):∀(d n:Nat) (acc:List Int),n+d=s.size→acc.length=n+1→Ev (fun k=>fM.l0 k s false acc (n:Int)) s:=by
 intro d
 induction d with
 |zero=>
  intro n acc hn ha;refine aI ?_;simp only[fM.l0];exact xY (aZ (by decide) (Ev.now _))
 |succ d ih=>
  intro n acc hn ha;have hlen:s.data.toList.length=s.size:=iA s
  obtain ⟨b,hb⟩:∃b,s.data.toList[n]?=some b:=⟨_,List.getElem?_eq_getElem (by omega)⟩
  obtain ⟨h1,h2,h3,h4,_⟩:=hs.at hb;have eb:=Gz hb
  have ne:∀m:Nat,m<256→b≠UInt8.ofNat m→¬bt s (n:Int)=(m:Int):=fun m hm hn e=>hn ((vw hm).1 (eb ▸ e))
  refine aI ?_;simp only[fM.l0];have e13:(bt s (n:Int)==13)=false:=beq_eq_false_iff_ne.2 (ne 13 (by omega) h4);rw[e13,xg (x:=(n:Int)+1) (by omega) (by omega)];exact iU (aZ (by decide) (iU (aZ (ne 44 (by omega) h1) (aZ (ne 34 (by omega) h2) (aZ (ne 10 (by omega) h3) (iU (ih (n+1) _ (by omega) (by rw[List.length_append,List.length_singleton];omega))))))))
theorem QN (s:ByteArray) (hs:oU s) (hl:s.size≤1048576):Ev (fun k=>fM.f k s) s:=by
 unfold fM.f;exact Lp s hs hl s.size 0 _ (by omega) rfl
theorem Hw {rows:List (List ByteArray)} {n:Nat} (h:n<rows.length):iV (rows.drop n)=xZ rows[n]++iV (rows.drop (n+1)):=by
 unfold iV;rw[List.drop_eq_getElem_cons h,List.map_cons,List.flatten_cons]
theorem MZ {row:List ByteArray} {n:Nat} (z:Bool) (h:n<row.length):qJ z (row.drop n)=(if z=true then [] else [44])++row[n].data.toList++qJ false (row.drop (n+1)):=by
 rw[List.drop_eq_getElem_cons h,qJ]
theorem Ws (rows:List (List ByteArray)) (n:Nat) (hn:n<rows.length) (hrl:rows.length≤1048576) (hp:∀f ∈ rows[n],oU f) (r:ByteArray) (B:List UInt8) (hB:B.length≤1000000) (hcl:rows[n].length≤1048576)
  (next:Ev (fun k=>dM.l0 k rows (nm (B++ [10])) ((n+1:Nat):Int)) r):
  ∀(d i:Nat) (acc:List UInt8),i+d=rows[n].length→acc++qJ (i==0) (rows[n].drop i)=B→Ev (fun k=>dM.l1 k rows (nm acc) (n:Int) (i:Int)) r:=by
 have er:rows.getD n []=rows[n]:=by rw[List.getD_eq_getElem?_getD,List.getElem?_eq_getElem hn];rfl
 intro d
 induction d with
 |zero=>
  intro i acc hi ha;refine aI ?_;simp only[dM.l1,ac2,Int.toNat_natCast,er];rw[List.drop_of_length_le (by omega)] at ha
  have ha:acc=B:=by rw[←ha];unfold qJ;rw[List.append_nil]
  subst ha;rw[xg (x:=(n:Int)+1) (by omega) (by omega)];refine iU (iU (xY (av (by rw[nN];omega) ?_)))
  have e:nm acc++ [10]=nm (acc++ [10]):=by rw[uL];rfl
  rw[e]
  exact next
 |succ d ih=>
  intro i acc hi ha;have hx:rows[n][i]?=some rows[n][i]:=List.getElem?_eq_getElem (by omega);have hf:=hp _ (List.mem_of_getElem? hx);rw[MZ _ (by omega)] at ha;have hlen:=congrArg List.length ha;rw[List.length_append,List.length_append,List.length_append] at hlen;have hsz:rows[n][i].data.toList.length=rows[n][i].size:=iA _
  have go:∀a2:List UInt8,a2=acc++(if (i==0)=true then [] else [44])→Ev (fun k=>(fM.f k rows[n][i]).bind fun t=>if (nm a2).length+t.size<140737488355328 then dM.l1 k rows (nm a2++bytesOf t) (n:Int) (wrap64 ((i:Int)+1)) else none) r:=by
   intro a2 h2;have hl2:=congrArg List.length h2;rw[List.length_append] at hl2;refine Ev.bind (QN _ hf (by omega)) (av (by rw[nN];omega) ?_);rw[MI,←uL,xg (x:=(i:Int)+1) (by omega) (by omega)];refine ih (i+1) _ (by omega) ?_;rw[←ha,h2]
   have e:((i+1:Nat)==0)=false:=by simp
   rw[e,List.append_assoc,List.append_assoc,List.append_assoc]
  have ef:rows[n].getD i ByteArray.empty=rows[n][i]:=by rw[List.getD_eq_getElem?_getD,hx];rfl
  refine aI ?_;simp only[dM.l1,ac2,Int.toNat_natCast,er,jg,ef,Option.bind_some];refine iU (iU (iU ?_))
  by_cases h0:i=0
  ·subst h0;exact xY (iU (go acc (by simp)))
  ·refine iU (av (by rw[nN];omega) (iU ?_))
   have e:nm acc++ [44]=nm (acc++ [44]):=by rw[uL];rfl
   rw[e];exact go _ (by rw[if_neg (by simpa using h0)])
theorem Wt (rows:List (List ByteArray)) (hrl:rows.length≤1048576) (hp:∀row ∈ rows,row.length≤1048576∧∀f ∈ row,oU f) (ht:(iV rows).length≤1000000):∀(d n:Nat) (acc:List UInt8),n+d=rows.length→acc++iV (rows.drop n)=iV rows→
  Ev (fun k=>dM.l0 k rows (nm acc) (n:Int)) (bs (iV rows)):=by
 intro d
 induction d with
 |zero=>
  intro n acc hn ha;refine aI ?_;simp only[dM.l0];rw[List.drop_of_length_le (by omega)] at ha
  have ha:acc=iV rows:=by rw[←ha];unfold iV;simp
  exact xY (fu (Ev.now _) (by rw[mY,ha]))
 |succ d ih=>
  intro n acc hn ha
  have hx:n<rows.length:=by omega
  obtain ⟨hcl,hpf⟩:=hp _ (List.getElem_mem hx);rw[Hw hx] at ha;have hl:=congrArg List.length ha;rw[List.length_append,List.length_append] at hl
  have hr:(xZ rows[n]).length=(qJ true rows[n]).length+1:=by unfold xZ;rw[List.length_append];rfl
  refine aI ?_;simp only[dM.l0];refine iU ?_;refine Ws rows n hx hrl hpf _ (acc++qJ true rows[n]) (by rw[List.length_append];omega) hcl ?_ rows[n].length 0 acc (by omega) rfl;refine ih (n+1) _ (by omega) ?_;rw[←ha];unfold xZ;rw[List.append_assoc,List.append_assoc,List.append_assoc]
theorem KL (rows:List (List ByteArray)) (hrl:rows.length≤1048576) (hp:∀row ∈ rows,row.length≤1048576∧∀f ∈ row,oU f) (ht:(iV rows).length≤1000000):Ev (fun k=>dM.f k rows) (bs (iV rows)):=by
 unfold dM.f;exact Wt rows hrl hp ht rows.length 0 [] (by omega) rfl
theorem abb (L:List ByteArray) (t:ByteArray) (R:List (List Int)) (Y:List Int) (h:vP L t R Y) (n:Nat) (hn:n<R.length) (r:ByteArray) (acc:List (List ByteArray)) (hacc:acc.length≤1000)
  (next:Ev (fun k=>bY.l0 k (acc++ [Wm R Y n]) ((n+1:Nat):Int) L t R Y) r):
  ∀(d i:Nat),i+d=(R.getD n []).length→Ev (fun k=>bY.l1 k acc (n:Int) (((R.getD n []).take i).map (fun x=>bs (wy x))) (i:Int) L t R Y) r:=by
 have g:=h.2.2.2.2.2.2 n (Nat.zero_le _) hn;have hL:=h.1;have hR:=h.2.2.2.1;have hY:=h.2.2.2.2.1;have gl:=g.1;intro d
 induction d with
 |zero=>
  intro i hi;refine aI ?_;simp only[bY.l1,rdL,Int.toNat_natCast,Option.bind_some];rw[List.take_of_length_le (by omega)];refine iU (iU (xY (iU (Ev.bind (KJ _ g.2.1) (av ?_ (av ?_ ?_))))))
  ·rw[List.length_map,List.length_singleton];omega
  ·rw[List.length_singleton];omega
  ·rw[xg (x:=(n:Int)+1) (by omega) (by omega)]
   exact next
 |succ d ih=>
  intro i hi;have hx:(R.getD n [])[i]?=some (R.getD n [])[i]:=List.getElem?_eq_getElem (by omega);have er:rd (R.getD n []) (i:Int)=(R.getD n [])[i]:=Ay hx;refine aI ?_;simp only[bY.l1,rdL,Int.toNat_natCast,er,Option.bind_some];refine iU (iU (iU (iU (Ev.bind (KJ _ (Eg g (List.getElem_mem (by omega)))) (av ?_ ?_)))))
  ·rw[List.length_map,List.length_singleton,List.length_take];omega
  ·rw[xg (x:=(i:Int)+1) (by omega) (by omega)]
   have e:((R.getD n []).take i).map (fun x=>bs (wy x))++ [bs (wy (R.getD n [])[i])]=((R.getD n []).take (i+1)).map (fun x=>bs (wy x)):=by
    rw[List.take_succ_eq_append_getElem (by omega),List.map_append];rfl
   rw[e];exact ih (i+1) (by omega)
theorem F7 (L:List ByteArray) (t:ByteArray) (R:List (List Int)) (Y:List Int) (hL:L.length≤1048576) (hs:∀x ∈ L,x.size≤1048576) (ht:t.size≤1048576) (hR:R.length≤1048576):Ev (fun k=>bY.f k L t R Y) (bs (tQ L t R Y)):=by
 unfold bY.f tQ;simp only[Option.bind_some,List.nil_append];refine Ev.bind (KE L t R Y hL hs ht hR) ?_
 by_cases h:vP L t R Y
 case neg=>
  rw[dS h];exact aZ (by decide) (Ev.now _)
 rw[if_pos (gG h)];have hLl:=h.1;have hRl:=h.2.2.2.1;refine av (gG h) (av (by rw[List.length_nil];omega) (av (by rw[List.length_singleton];omega) ?_));refine Jt (fun k (S:List (List ByteArray)) i=>bY.l0 k S i L t R Y) R.length (fun n=>(L++ [t])::xn R Y n) _ ?_ ?_ R.length 0 (by omega)
 ·refine aI ?_;simp only[bY.l0];have k1:=xz h;exact xY (Ev.bind (KL (ja L t R Y) (by omega) (fun row hr=>⟨by have:=(qK h row hr).1;omega,fun f hf=>((qK h row hr).2 f hf).2⟩) (by omega)) (Ev.now _))
 ·intro n hn next
  refine aI ?_;simp only[bY.l0];refine iU ?_;refine abb L t R Y h n hn _ ((L++ [t])::xn R Y n) ?_ ?_ (R.getD n []).length 0 (by omega)
  ·unfold xn;rw[List.length_cons,List.length_map,List.length_range];omega
  ·rw[MN,←List.cons_append] at next
   exact next
theorem Hy (x:List UInt8) (b:UInt8):nm x++ [(b.toNat:Int)]=nm (x++ [b]):=(uL x [b]).symm
theorem QO (s:ByteArray) (hs:s.size≤4000):∀(m:Nat) (l x:List UInt8),l.length≤m→l<:+s.data.toList→x.length+l.length≤4000→
  Ev (fun k=>bu.l0 k s (pz s l) (nm x)) ((yZ l).elim ((⟨#[]⟩:ByteArray),(s.size:Int),false) (fun p=>(bs (x++p.1),pz s p.2,true))):=by
 intro m
 induction m with
 |zero=>
  intro l x hl ht hx;obtain rfl:=List.length_eq_zero_iff.mp (Nat.le_zero.mp hl);refine aI ?_;simp only[bu.l0];refine av (by rw[oV];exact Int.le_refl _) (fu (Ev.now _) ?_);rw[oV]
  rfl
 |succ m ih=>
  intro l x hl ht hx
  cases l with
  |nil=>
   refine aI ?_;simp only[bu.l0];refine av (by rw[oV];exact Int.le_refl _) (fu (Ev.now _) ?_);rw[oV]
   rfl
  |cons b l=>
   rw[List.length_cons] at hl hx;refine aI ?_;simp only[bu.l0];refine aZ (by have:=@vX s b l;omega) (av (pY ht) (av vX ?_));simp only[Az ht,QF hs ht];unfold yZ;have ht1:=rZ ht
   by_cases hb:b=34
   ·subst hb;refine av rfl ?_;rw[if_pos rfl]
    cases l with
    |nil=>
     refine aZ (by rw[oV];exact Int.lt_irrefl _) (fu (Ev.now _) ?_);rw[mY]
     simp
    |cons c l=>
     rw[List.length_cons] at hl hx;refine av vX (av (pY ht1) ?_);simp only[Az ht1,acU hs ht]
     by_cases hc:c=34
     ·subst hc;refine av rfl (av (by rw[nN];omega) ?_);rw[show nm x++ [34]=nm (x++ [34]) from Hy x 34];refine fu (ih l (x++ [34]) (by omega) (rZ ht1) (by rw[List.length_append,List.length_singleton];omega)) ?_;simp only[if_true]
      cases yZ l with
      |none=>rfl
      |some p=>simp
     ·refine aZ (fun e=>hc ((vw (n:=34) (by decide)).mp e)) (fu (Ev.now _) ?_);rw[if_neg hc,mY]
      simp
   ·refine aZ (fun e=>hb ((vw (n:=34) (by decide)).mp e)) (av (by rw[nN];omega) ?_);rw[Hy,if_neg hb];refine fu (ih l (x++ [b]) (by omega) ht1 (by rw[List.length_append,List.length_singleton];omega)) ?_
    cases yZ l with
    |none=>rfl
    |some p=>simp
theorem Hz (s:ByteArray) (hs:s.size≤4000):∀(m:Nat) (l x:List UInt8),l.length≤m→l<:+s.data.toList→x.length+l.length≤4000→
  Ev (fun k=>bu.l1 k s (pz s l) (nm x)) (if (gU l).2.head?=some 34 then ((⟨#[]⟩:ByteArray),pz s (gU l).2,false) else (bs (x++(gU l).1),pz s (gU l).2,true)):=by
 intro m
 induction m with
 |zero=>
  intro l x hl ht hx;obtain rfl:=List.length_eq_zero_iff.mp (Nat.le_zero.mp hl);refine aI ?_;simp only[bu.l1];refine aZ (by rw[oV];exact Int.lt_irrefl _) (aI ?_);simp only[bu.j3];refine aZ (by decide) (fu (Ev.now _) ?_);rw[mY]
  simp [gU]
 |succ m ih=>
  intro l x hl ht hx
  cases l with
  |nil=>
   refine aI ?_;simp only[bu.l1];refine aZ (by rw[oV];exact Int.lt_irrefl _) (aI ?_);simp only[bu.j3];refine aZ (by decide) (fu (Ev.now _) ?_);rw[mY]
   simp [gU]
  |cons b l=>
   rw[List.length_cons] at hl hx;have ht1:=rZ ht
   have stop:(b=44∨b=10∨b=13)→(if (gU (b::l)).2.head?=some 34 then ((⟨#[]⟩:ByteArray),pz s (gU (b::l)).2,false) else (bs (x++(gU (b::l)).1),pz s (gU (b::l)).2,true))=(strOfNums (nm x),pz s (b::l),true):=by
    intro h
    have hsp:wG b=true:=by rcases h with rfl|rfl|rfl<;>decide
    unfold gU;rw[List.takeWhile_cons_of_neg (by simp [hsp]),List.dropWhile_cons_of_neg (by simp [hsp]),mY,List.append_nil];rw[if_neg (by simp only[List.head?_cons,Option.some.injEq];rintro rfl;revert h;decide)]
   refine aI ?_;simp only[bu.l1];refine av vX (av (pY ht) ?_);simp only[Az ht]
   by_cases h1:b=44
   ·refine av (by rw[h1];rfl) (aI ?_);simp only[bu.j3];exact aZ (by decide) (fu (Ev.now _) (stop (Or.inl h1)).symm)
   refine aZ (fun e=>h1 ((vw (n:=44) (by decide)).mp e)) ?_
   by_cases h2:b=10
   ·refine av (by rw[h2];rfl) (aI ?_);simp only[bu.j3];exact aZ (by decide) (fu (Ev.now _) (stop (Or.inr (Or.inl h2))).symm)
   refine aZ (fun e=>h2 ((vw (n:=10) (by decide)).mp e)) (aI ?_);simp only[bu.j3]
   by_cases h3:b=13
   ·refine aZ (by rw[h3];decide) (fu (Ev.now _) (stop (Or.inr (Or.inr h3))).symm)
   refine av (bne_iff_ne.mpr (fun e=>h3 ((vw (n:=13) (by decide)).mp e))) (av (pY ht) (av vX ?_));simp only[Az ht]
   by_cases h4:b=34
   ·refine av (by rw[h4];rfl) (fu (Ev.now _) ?_);unfold gU;rw[List.dropWhile_cons_of_neg (by rw[h4];decide),if_pos (by rw[h4];rfl)]
   ·refine aZ (fun e=>h4 ((vw (n:=34) (by decide)).mp e)) (av (by rw[nN];omega) ?_)
    have hsp:wG b=false:=by
     unfold wG
     simp [h1,h2,h3,h4]
    rw[Hy];simp only[QF hs ht];refine fu (ih l (x++ [b]) (by omega) ht1 (by rw[List.length_append,List.length_singleton];omega)) ?_;unfold gU;rw[List.takeWhile_cons_of_pos (by simp [hsp]),List.dropWhile_cons_of_pos (by simp [hsp]),List.append_assoc]
    rfl
def Bn (s:ByteArray) (l:List UInt8):ByteArray × Int × Bool:=match l with
 |[]=>(bs [],pz s [],true)
 |b::r=>if b=34 then (yZ r).elim ((⟨#[]⟩:ByteArray),(s.size:Int),false) (fun p=>(bs p.1,pz s p.2,true))
  else if (gU (b::r)).2.head?=some 34 then ((⟨#[]⟩:ByteArray),pz s (gU (b::r)).2,false) else (bs (gU (b::r)).1,pz s (gU (b::r)).2,true)
theorem Tx (s:ByteArray) (hs:s.size≤4000) (l:List UInt8) (ht:l<:+s.data.toList):Ev (fun k=>bu.f k s (pz s l)) (Bn s l):=by
 unfold bu.f;simp only[Option.bind_some];have hlen:=yz ht
 cases l with
 |nil=>
  refine aZ (by rw[oV];exact Int.lt_irrefl _) (aI ?_);simp only[bu.j0];refine aZ (by decide) (fu (Hz s hs 0 [] [] (Nat.le_refl _) ht (by simp)) ?_)
  simp [gU,Bn]
 |cons b l=>
  rw[List.length_cons] at hlen;refine av vX (av (pY ht) (aI ?_));simp only[bu.j0,Az ht,QF hs ht];unfold Bn
  by_cases hb:b=34
  ·refine av (by rw[hb];rfl) (fu (QO s hs l.length l [] (Nat.le_refl _) (rZ ht) (by simp;omega)) ?_)
   simp [hb]
  ·refine aZ (fun e=>hb ((vw (n:=34) (by decide)).mp (eq_of_beq e))) (fu (Hz s hs (l.length+1) (b::l) [] (by simp) ht (by simp;omega)) ?_)
   simp [hb]
theorem Ty {l:List UInt8} (h:l.head?=some 34):kU l=none:=by
 cases l with
 |nil=>cases h
 |cons b l=>
  simp only[List.head?_cons,Option.some.injEq] at h;subst h
  rfl
theorem Wu {s:ByteArray} {l:List UInt8} (h:(Bn s l).2.2=false):lX l=none∨∃f l1,lX l=some (f,l1)∧kU l1=none:=by
 cases l with
 |nil=>simp [Bn] at h
 |cons b l=>
  unfold Bn at h;unfold lX
  by_cases hb:b=34
  ·simp only[if_pos hb] at h ⊢
   cases e:yZ l with
   |none=>exact Or.inl rfl
   |some p=>rw[e] at h;cases h
  ·simp only[if_neg hb] at h ⊢
   by_cases hh:(gU (b::l)).2.head?=some 34
   ·exact Or.inr ⟨_,_,rfl,Ty hh⟩
   ·rw[if_neg hh] at h;cases h
theorem abd {s:ByteArray} {l:List UInt8} (h:(Bn s l).2.2=true):∃f l1,lX l=some (f,l1)∧Bn s l=(bs f,pz s l1,true):=by
 cases l with
 |nil=>exact ⟨[],[],rfl,rfl⟩
 |cons b l=>
  unfold Bn at h ⊢;unfold lX
  by_cases hb:b=34
  ·simp only[if_pos hb] at h ⊢
   cases e:yZ l with
   |none=>rw[e] at h;cases h
   |some p=>exact ⟨p.1,p.2,rfl,rfl⟩
  ·simp only[if_neg hb] at h ⊢
   by_cases hh:(gU (b::l)).2.head?=some 34
   ·rw[if_pos hh] at h;cases h
   ·rw[if_neg hh];exact ⟨_,_,rfl,rfl⟩
theorem Wv (s:ByteArray) (hs:s.size≤4000):∀(K:Nat) (l:List UInt8) (rows:List (List ByteArray)) (row:List ByteArray),l<:+s.data.toList→rX l row<K→rows.length+row.length+rX l row≤9000→
  (¬(l=[]∧row=[])→Ev (fun k=>dQ.l1 k s rows (pz s l) row false) (pu K l rows row))∧(row=[]→Ev (fun k=>dQ.l0 k s rows (pz s l)) (pu K l rows [])):=by
 intro K
 induction K with
 |zero=>intro l rows row _ h _;omega
 |succ K ih=>
  intro l rows row ht hK hb
  have key:¬(l=[]∧row=[])→Ev (fun k=>dQ.l1 k s rows (pz s l) row false) (pu (K+1) l rows row):=by
   intro hr;refine aI ?_;simp only[dQ.l1];refine aZ (by decide) ((Tx s hs l ht).bind ?_);unfold pu;rw[if_neg hr]
   cases h:(Bn s l).2.2 with
   |false=>
    refine aZ (by decide) (fu (Ev.now _) ?_)
    rcases Wu h with e|⟨f,l1,e,e1⟩
    ·rw[e]
    ·rw[e];simp only[e1]
   |true=>
    obtain ⟨f,l1,e,e1⟩:=abd h;rw[e,e1];have ht1:=(FY e).trans ht
    have hrow:row.length<8796093022208:=by omega
    refine av (by first|rfl|trivial) (av hrow ?_);simp only[Option.bind_some]
    have more:∀l2,kU l1=some (false,l2)→Ev (fun k=>dQ.l1 k s rows (pz s l2) (row++ [bs f]) false) (pu K l2 rows (row++ [bs f])):=by
     intro l2 h2;have a:=Cv (row:=row) (x:=bs f) e h2;exact (ih l2 rows (row++ [bs f]) ((x_ h2).trans ht1) (by omega) (by rw[List.length_append,List.length_singleton];omega)).1 (by simp)
    have done:∀l2,kU l1=some (true,l2)→Ev (fun k=>dQ.l1 k s rows (pz s l2) (row++ [bs f]) true) (pu K l2 (rows++ [row++ [bs f]]) []):=by
     intro l2 h2;have a:=Ef hr e h2;refine aI ?_;simp only[dQ.l1];exact av trivial (iU ((ih l2 (rows++ [row++ [bs f]]) [] ((x_ h2).trans ht1) (by omega) (by rw[List.length_append,List.length_singleton,List.length_nil];omega)).2 rfl))
    cases l1 with
    |nil=>
     exact av (by rw[oV];exact Int.le_refl _) (done [] rfl)
    |cons b l1=>
     refine aZ (by have:=@vX s b l1;omega) (av (pY ht1) (av vX ?_));simp only[Az ht1,QF hs ht1];unfold kU;simp only
     by_cases h1:b=44
     ·rw[if_pos h1];exact av (by rw[h1];rfl) (more l1 (by unfold kU;simp only;rw[if_pos h1]))
     rw[if_neg h1];refine aZ (fun e=>h1 ((vw (n:=44) (by decide)).mp e)) ?_
     by_cases h2:b=10
     ·rw[if_pos h2];exact av (by rw[h2];rfl) (done l1 (by unfold kU;simp only;rw[if_neg h1,if_pos h2]))
     rw[if_neg h2];refine aZ (fun e=>h2 ((vw (n:=10) (by decide)).mp e)) ?_
     by_cases h3:b=13
     ·rw[if_pos h3];refine av (by rw[h3];rfl) ?_
      cases l1 with
      |nil=>exact aZ (by rw[oV];exact Int.lt_irrefl _) (Ev.now _)
      |cons c l1=>
       have ht2:=rZ ht1;refine av vX (av (pY ht2) ?_);simp only[Az ht2,acU hs ht1]
       by_cases h4:c=10
       ·rw[if_pos h4];exact av (by rw[h4];rfl) (done l1 (by unfold kU;simp only;rw[if_neg h1,if_neg h2,if_pos h3,if_pos h4]))
       ·rw[if_neg h4];exact aZ (fun e=>h4 ((vw (n:=10) (by decide)).mp e)) (Ev.now _)
     ·rw[if_neg h3];exact aZ (fun e=>h3 ((vw (n:=13) (by decide)).mp e)) (Ev.now _)
  refine ⟨key,?_⟩;rintro rfl;refine aI ?_;simp only[dQ.l0]
  cases l with
  |nil=>
   refine aZ (by rw[oV];exact Int.lt_irrefl _) (fu (Ev.now _) ?_);unfold pu;rw[if_pos ⟨rfl,rfl⟩]
  |cons b l=>exact av vX (key (by simp))
theorem F8 (s:ByteArray):Ev (fun k=>dQ.f k s) (mh s):=by
 unfold dQ.f mh;simp only[Option.bind_some]
 by_cases h:s.size>4000
 ·rw[if_pos h];exact iU (Ev.now _)
 ·rw[if_neg h];refine xY ?_;have hl:s.data.toList.length=s.size:=iA ..
  have:=(Wv s (by omega) (2 * s.size+2) s.data.toList [] [] (List.suffix_refl _) (by unfold rX;rw[if_pos rfl];omega) (by unfold rX;rw[if_pos rfl];simp;omega)).2 rfl
  rwa [QE] at this
theorem apS {j q:Nat} (hj:j<4) (hq:q<j):¬(yx ol q).toList=(yx ol j).toList:=by
 rw[ByteArray.toList_eq,ByteArray.toList_eq]
 rcases (show j=1∨j=2∨j=3 by omega) with rfl|rfl|rfl
 ·obtain rfl:q=0:=by omega
  decide
 ·rcases (show q=0∨q=1 by omega) with rfl|rfl<;>decide
 ·rcases (show q=0∨q=1∨q=2 by omega) with rfl|rfl|rfl<;>decide
theorem aix {q:Nat} (hq:q<4):¬(yx ol q).toList=(⟨#[121]⟩:ByteArray).toList:=by
 rw[ByteArray.toList_eq,ByteArray.toList_eq]
 rcases (show q=0∨q=1∨q=2∨q=3 by omega) with rfl|rfl|rfl|rfl<;>decide
theorem Tz {n:Nat} {R:List (List Int)} {Y:List Int} (h0:0<n) (h3:n≤3) (hR:0<R.length∧R.length≤40) (hr:BJ n R) (hYl:Y.length=R.length) (hY:Gy Y):vP (ol.take n) (⟨#[121]⟩:ByteArray) R Y:=by
 have hl:(ol.take n).length=n:=by rw[List.length_take];simp only[List.length_cons,List.length_nil];omega
 have hat:∀j,j<n→yx (ol.take n) j=yx ol j:=fun j hj=>Hf ol hj
 have hin:∀j,j<4→yx ol j ∈ ol:=fun j hj=>by
  rcases (show j=0∨j=1∨j=2∨j=3 by omega) with rfl|rfl|rfl|rfl
  ·exact .head _
  ·exact .tail _ (.head _)
  ·exact .tail _ (.tail _ (.head _))
  ·exact .tail _ (.tail _ (.tail _ (.head _)))
 refine ⟨by rw[hl];omega,awl,?_,by omega,by omega,?_,?_⟩
 ·rintro ⟨q,hq,e⟩;rw[hl] at hq;rw[hat q hq] at e;exact aix (by omega) e
 ·intro j _ hj;rw[hl] at hj;unfold zU;rw[hat j hj];refine ⟨awk _ (hin j (by omega)),?_⟩;rintro ⟨q,hq,e⟩;rw[hat q (by omega)] at e;exact apS (by omega) hq e
 ·intro j _ hj;rw[hl]
  have hm:R.getD j [] ∈ R:=by rw[List.getD_eq_getElem?_getD,List.getElem?_eq_getElem hj];exact List.getElem_mem hj
  obtain ⟨g1,g2⟩:=hr _ hm;refine ⟨by omega,?_,fun i _ hi=>?_⟩
  ·rw[Ay (List.getElem?_eq_getElem (by omega:j<Y.length))];exact hY _ (List.getElem_mem _)
  ·rw[Ay (List.getElem?_eq_getElem (by omega:i<(R.getD j []).length))];exact g2 _ (List.getElem_mem _)
theorem F9 {n:Int} (h:pX n):(wy n).length≤12:=by
 unfold pX at h
 have h1:(if n<0 then ([45]:List UInt8) else []).length≤1:=by split<;>simp
 have h2:(Lib.decDigits (n.natAbs / 1000)).length≤7:=by rw[Lib.decDigits_length];exact zV 6 _ (by omega)
 have h3:(if n.natAbs % 1000=0 then ([]:List UInt8) else 46::Lib.trimRightB (three (n.natAbs % 1000)) 48).length≤4:=by
  split
  ·simp
  ·have:=He (three (n.natAbs % 1000))
   have e:(three (n.natAbs % 1000)).length=3:=rfl;rw[List.length_cons]
   omega
 unfold wy;rw[List.length_append,List.length_append]
 omega
def TA (rows:List (List ByteArray)):Prop:=rows.length≤41∧∀row ∈ rows,row.length≤5∧∀f ∈ row,f.size≤13∧oU f
theorem Ww {n:Nat} {R:List (List Int)} {Y:List Int} (h3:n≤3) (hT:vP (ol.take n) (⟨#[121]⟩:ByteArray) R Y):TA (ja (ol.take n) (⟨#[121]⟩:ByteArray) R Y)∧(iV (ja (ol.take n) (⟨#[121]⟩:ByteArray) R Y)).length≤4000∧∀row ∈ ja (ol.take n) (⟨#[121]⟩:ByteArray) R Y,row≠ []∧row.length≤4:=by
 have ok:=qK hT;have hl:=(xz hT).1
 have hln:(ol.take n).length≤3:=by rw[List.length_take];omega
 obtain ⟨_,_,_,_,_,_,hrow⟩:=hT
 have h4:∀row ∈ ja (ol.take n) (⟨#[121]⟩:ByteArray) R Y,row≠ []∧row.length≤4∧∀f ∈ row,f.size≤12:=by
  intro row hr;unfold ja at hr
  rcases List.mem_cons.1 hr with rfl|hr
  ·refine ⟨by simp,by rw[List.length_append,List.length_singleton];omega,fun f hf=>?_⟩
   rcases List.mem_append.1 hf with hf|hf
   ·have:=List.mem_of_mem_take hf
    simp only[List.mem_cons,List.not_mem_nil,or_false] at this
    rcases this with rfl|rfl|rfl|rfl<;>decide
   ·rw[List.mem_singleton.1 hf];decide
  ·unfold xn at hr;obtain ⟨i,hi,rfl⟩:=List.mem_map.1 hr;have g:=hrow i (Nat.zero_le _) (List.mem_range.1 hi);have g1:=g.1;unfold Wm;refine ⟨by simp,by rw[List.length_append,List.length_map,List.length_singleton];omega,fun f hf=>?_⟩
   rcases List.mem_append.1 hf with hf|hf
   ·obtain ⟨x,hx,rfl⟩:=List.mem_map.1 hf;rw[iw];exact F9 (Eg g hx)
   ·rw[List.mem_singleton.1 hf,iw];exact F9 g.2.1
 have ht:=wI 12 4 _ (fun row hr=>⟨(h4 row hr).2.1,(h4 row hr).2.2⟩)
 have:=Nat.mul_le_mul_right (4 * (12+1)+1) hl
 exact ⟨⟨hl,fun row hr=>⟨by have:=(h4 row hr).2.1;omega,fun f hf=>⟨by have:=(h4 row hr).2.2 f hf;omega,((ok row hr).2 f hf).2⟩⟩⟩,by omega,fun row hr=>⟨(h4 row hr).1,(h4 row hr).2.1⟩⟩
theorem TA.set {rows:List (List ByteArray)} (h:TA rows) {row:List ByteArray} (hr:row.length≤5∧∀f ∈ row,f.size≤13∧oU f) (n:Nat):TA (rows.set n row):=by
 refine ⟨by rw[List.length_set];exact h.1,fun y hy=>?_⟩
 rcases List.mem_or_eq_of_mem_set hy with hy|hy
 ·exact h.2 y hy
 ·subst hy;exact hr
abbrev ac3:List ByteArray:=[(⟨#[]⟩:ByteArray),(⟨#[120]⟩:ByteArray),(⟨#[97]⟩:ByteArray),(⟨#[49,46,50,51,52,53]⟩:ByteArray),(⟨#[48,49]⟩:ByteArray),(⟨#[45,48]⟩:ByteArray),(⟨#[50,49,52,55,52,56,51,46,54,52,56]⟩:ByteArray),(⟨#[121]⟩:ByteArray)]
theorem ac4:∀f ∈ ac3,f.size≤13∧oU f:=by
 unfold oU
 decide
theorem ac5:(⟨#[55]⟩:ByteArray).size≤13∧oU (⟨#[55]⟩:ByteArray):=by
 unfold oU
 decide
theorem Fe {l:List Int} {rows:List (List ByteArray)} (hR:TA rows) {i:Int} (h:Int) (hc:Ao l i):∃u,Ev (fun k=>(dM.f k rows).bind fun t=>(fF.f l i h t).bind fun bt=>some bt.1) u∧True:=by
 have hlen:=wI 13 5 rows (fun row hr=>⟨(hR.2 row hr).1,fun f hf=>((hR.2 row hr).2 f hf).1⟩)
 have:=Nat.mul_le_mul_right (5 * (13+1)+1) hR.1
 refine CJ (KL rows (by have:=hR.1;omega) (fun row hr=>⟨by have:=(hR.2 row hr).1;omega,fun f hf=>((hR.2 row hr).2 f hf).2⟩) (by omega)) ?_;obtain ⟨r,i1,h1,e1,_⟩:=Tw h (bs (iV rows)) (by rw[iw];omega) hc;simp only[e1,Option.bind_some];exact y9 _ trivial
theorem OA (l:List Int) (hl:l.length≤35184372088832):∃u:ByteArray,Ev (fun k=>dO.f k l) u∧True:=by
 unfold dO.f;obtain ⟨h,e0⟩:=amx l hl;obtain ⟨L,t,R,Y,i1,h1,e1,c1,⟨n,n0,n3,eL⟩,et,hR,hr,hYl,hY⟩:=acS h (awj l hl);subst eL;subst et
 have hln:(ol.take n).length=n:=by rw[List.length_take];simp only[List.length_cons,List.length_nil];omega
 rw[hln] at hr;have hT:=Tz n0 n3 hR hr hYl hY;obtain ⟨hrows,amE,hrow⟩:=Ww n3 hT
 have hpos:0<(ja (ol.take n) (⟨#[121]⟩:ByteArray) R Y).length:=by unfold ja;simp
 have eT:=F7 (ol.take n) (⟨#[121]⟩:ByteArray) R Y (by omega) (fun x hx=>by
  have:=List.mem_of_mem_take hx
  have g:∀q ∈ ol,q.size≤1048576:=by decide
  exact g x this) (by decide) (by omega)
 have et2:tQ (ol.take n) (⟨#[121]⟩:ByteArray) R Y=iV (ja (ol.take n) (⟨#[121]⟩:ByteArray) R Y):=by
  unfold tQ;rw[gG hT,if_pos rfl]
 rw[et2] at eT;have eC:=F8 (bs (iV (ja (ol.take n) (⟨#[121]⟩:ByteArray) R Y)));rw[Ht _ (fun row hr=>⟨(hrow row hr).1,fun f hf=>((hrows.2 row hr).2 f hf).2⟩) amE] at eC;refine CJ e0 (CJ e1 (CJ eT ?_));generalize ja (ol.take n) (⟨#[121]⟩:ByteArray) R Y=rows at hrows amE hrow hpos eC;obtain ⟨o,i2,h2,e2,c2⟩:=zS h1 3 c1;simp only[e2,Option.bind_some]
 by_cases ho:o=true
 ·refine jY ho (CJ eC ?_);obtain ⟨k,i3,h3,e3,c3,k0,k1,_⟩:=kW h2 (rows.length:Int) c2;have k2:=k1 (by omega);simp only[e3,Option.bind_some];refine jY k0 (jY k2 ?_)
  obtain ⟨q,rfl⟩:∃q:Nat,k=(q:Int):=⟨k.toNat,by omega⟩
  have hq:q<rows.length:=by omega
  have er:rows.getD q []=rows[q]:=by rw[List.getD_eq_getElem?_getD,List.getElem?_eq_getElem hq];rfl
  have hm:rows[q] ∈ rows:=List.getElem_mem hq;obtain ⟨m1,m2⟩:=hrow _ hm;obtain ⟨_,m3⟩:=hrows.2 _ hm;have m0:0<rows[q].length:=List.length_pos_iff.2 m1;simp only[ac2,Int.toNat_natCast,er];obtain ⟨j,i4,h4,e4,c4,j0,j1,_⟩:=kW h3 (rows[q].length:Int) c3;have j2:=j1 (by omega);simp only[e4,Option.bind_some];obtain ⟨s,i5,h5,e5,c5,s0,s1,_⟩:=kW h4 4 c4;simp only[e5,Option.bind_some];refine L9 ?_;simp only[dO.j0,ac2,Int.toNat_natCast,er]
  by_cases g0:s=0
  ·obtain ⟨x,i6,h6,e6,c6,hx⟩:=QC h5 ac3 c5 (by decide);refine jY g0 (jY (by omega) (jY (by omega) ?_))
   show ∃b,Ev (fun k=>(lH.f l i5 h5 ac3).bind _) b∧True
   rw[e6];simp only[Option.bind_some];refine jY j0 (jY j2 (Fe (hrows.set ⟨by rw[List.length_set];omega,fun f hf=>?_⟩ q) h6 c6))
   rcases List.mem_or_eq_of_mem_set hf with hf|hf
   ·exact m3 f hf
   ·subst hf;exact ac4 _ hx
  refine wJ g0 ?_
  by_cases g1:s=1
  ·refine jY g1 (jY (by omega) (jY (by omega) (jY (by omega) (Fe (hrows.set ⟨by rw[List.length_append,List.length_singleton];omega,fun f hf=>?_⟩ q) h5 c5))))
   rcases List.mem_append.1 hf with hf|hf
   ·exact m3 f hf
   ·rw[List.mem_singleton.1 hf];exact ac5
  refine wJ g1 ?_
  by_cases g2:s=2
  ·exact jY g2 (jY (by omega) (jY (by omega) (jY j0 (jY (by omega) (Fe (hrows.set ⟨by rw[List.length_take];omega,fun f hf=>m3 f (List.mem_of_mem_take hf)⟩ q) h5 c5)))))
  refine wJ g2 ?_;obtain ⟨b,i6,h6,e6,c6,b0,b1,_⟩:=kW h5 2 c5;have b2:=b1 (by omega)
  have hmin:∃m:Int,vR.f 1 (wrap64 ((rows.length:Int) - 1))=some m∧0≤m∧m≤1∧m≤(rows.length:Int) - 1:=by
   have aNc:=hrows.1;rw[xg (x:=(rows.length:Int) - 1) (by omega) (by omega)];unfold vR.f
   by_cases g:(1:Int)<(rows.length:Int) - 1
   ·rw[if_pos g];exact ⟨1,rfl,by omega,by omega,by omega⟩
   ·rw[if_neg g];exact ⟨_,rfl,by omega,by omega,by omega⟩
  obtain ⟨m,em,p0,p1,p2⟩:=hmin;simp only[e6,em,Option.bind_some]
  have hbm:0≤b * m∧b * m≤m:=by
   rcases (show b=0∨b=1 by omega) with rfl|rfl
   ·rw[Int.zero_mul];omega
   ·rw[Int.one_mul];omega
  have aNc:=hrows.1;rw[xg (x:=b * m) (by omega) (by omega),xg (x:=1+b * m) (by omega) (by omega)];exact jY (by omega) (jY (by omega) (Fe ⟨by rw[List.length_take];omega,fun row hr=>hrows.2 row (List.mem_of_mem_take hr)⟩ h6 c6))
 ·refine wJ ho ?_;obtain ⟨r,i3,h3,e3,_⟩:=Tw h2 (bs (iV rows)) (by rw[iw];omega) c2;simp only[e3,Option.bind_some];exact y9 _ trivial
theorem Wx (l m:List Int) (hl:l.length≤17592186044416):Ev (fun k=>iF.f k l m) (dec (Ps 0 (fun x y=>x=y) l m)):=by
 unfold iF.f
 by_cases h0:l.length=m.length
 ·refine iU (E9 0 (fun x y=>x=y) l m h0 (fun k i=>iF.l0 k l m i) ?_ ?_ ?_)
  ·refine aI ?_;simp only[iF.l0];exact xY (Ev.now _)
  ·intro n r hn hp h;refine aI ?_;simp only[iF.l0,rdn];refine iU (iU (iU (av hp ?_)));rw[xg (x:=(n:Int)+1) (by omega) (by omega)];exact h
  ·intro n hn hp;refine aI ?_;simp only[iF.l0,rdn];exact iU (iU (iU (aZ hp (Ev.now _))))
 ·refine xY (wF ?_);rw[dS (fun z=>h0 z.1)]
theorem JB (l m:List Int) (hl:l.length≤17592186044416):Ev (fun k=>dX.f k l m) (dec (Ps 0 (fun x y=>x=y) l m)):=by
 unfold dX.f
 by_cases h0:l.length=m.length
 ·refine iU (E9 0 (fun x y=>x=y) l m h0 (fun k i=>dX.l0 k l m (l.length:Int) i) ?_ ?_ ?_)
  ·refine aI ?_;simp only[dX.l0];exact xY (Ev.now _)
  ·intro n r hn hp h;refine aI ?_;simp only[dX.l0,rdn];refine iU (iU (iU (iU (av hp ?_))));rw[xg (x:=(n:Int)+1) (by omega) (by omega)];exact h
  ·intro n hn hp;refine aI ?_;simp only[dX.l0,rdn];exact iU (iU (iU (iU (aZ hp (Ev.now _)))))
 ·refine xY (wF ?_);rw[dS (fun z=>h0 z.1)]
def Py (l m:List (List Int)):Prop:=Ps [] (Ps 0 (fun x y=>x=y)) l m
theorem aiy (xs:List (List Int)) (n:Nat):gP xs (n:Int)=xs.getD n []:=rfl
theorem HY {l:List (List Int)} (hl:wt l≤1048576) (n:Nat) (hn:n<l.length):(l.getD n []).length≤1048576:=by
 have hx:l[n]?=some l[n]:=List.getElem?_eq_getElem hn;have hm:=apQ (List.mem_of_getElem? hx);rw[List.getD_eq_getElem?_getD,hx];simp only[Option.getD_some]
 omega
theorem aiz (l m:List (List Int)) (hl:wt l≤1048576):Ev (fun k=>jG.f k l m) (dec (Py l m)):=by
 have h1:l.length≤wt l:=by unfold wt;omega
 unfold jG.f Py
 by_cases h0:l.length=m.length
 ·refine iU (E9 [] _ l m h0 (fun k i=>jG.l0 k l m i) ?_ ?_ ?_)
  ·refine aI ?_;simp only[jG.l0];exact xY (Ev.now _)
  ·intro n r hn hp h;refine aI ?_
   have:=HY hl n hn
   simp only[jG.l0,aiy];refine iU (iU (iU (Ev.bind (Wx _ _ (by omega)) (av (gG hp) ?_))));rw[xg (x:=(n:Int)+1) (by omega) (by omega)];exact h
  ·intro n hn hp;refine aI ?_
   have:=HY hl n hn
   simp only[jG.l0,aiy];exact iU (iU (iU (Ev.bind (Wx _ _ (by omega)) (aZ (by rw[dS hp];decide) (Ev.now _)))))
 ·refine xY (wF ?_);rw[dS (fun z=>h0 z.1)]
theorem abe (l m:List (List Int)) (hl:wt l≤1048576):Ev (fun k=>oo.f k l m) (dec (Py l m)):=by
 have h1:l.length≤wt l:=by unfold wt;omega
 unfold oo.f;refine Ev.bind (a:=dec (Py l m)) ?_ (Ev.now _);unfold bN.f Py
 by_cases h0:l.length=m.length
 ·refine iU (E9 [] _ l m h0 (fun k i=>bN.l0 k m l (l.length:Int) i) ?_ ?_ ?_)
  ·refine aI ?_;simp only[bN.l0];exact xY (Ev.now _)
  ·intro n r hn hp h;refine aI ?_
   have:=HY hl n hn
   simp only[bN.l0,mq.f,aiy];refine iU (iU (iU (iU (Ev.bind (Ev.bind (JB _ _ (by omega)) (Ev.now _)) (av (gG hp) ?_)))));rw[xg (x:=(n:Int)+1) (by omega) (by omega)];exact h
  ·intro n hn hp;refine aI ?_
   have:=HY hl n hn
   simp only[bN.l0,mq.f,aiy];exact iU (iU (iU (iU (Ev.bind (Ev.bind (JB _ _ (by omega)) (Ev.now _)) (aZ (by rw[dS hp];decide) (Ev.now _))))))
 ·refine xY (wF ?_);rw[dS (fun z=>h0 z.1)]
def Pz (l m:List ByteArray):Prop:=Ps ByteArray.empty (fun x y=>x.toList=y.toList) l m
theorem QP (l m:List ByteArray) (hl:l.length≤17592186044416):Ev (fun k=>bS.f k l m) (dec (Pz l m)):=by
 unfold bS.f Pz
 by_cases h0:l.length=m.length
 ·refine iU (E9 ByteArray.empty (fun x y=>x.toList=y.toList) l m h0 (fun k i=>bS.l0 k l m (l.length:Int) i) ?_ ?_ ?_)
  ·refine aI ?_;simp only[bS.l0];exact xY (Ev.now _)
  ·intro n r hn hp h;refine aI ?_;simp only[bS.l0,BK];refine iU (iU (iU (iU (av hp ?_))));rw[xg (x:=(n:Int)+1) (by omega) (by omega)];exact h
  ·intro n hn hp;refine aI ?_;simp only[bS.l0,BK];exact iU (iU (iU (iU (aZ hp (Ev.now _)))))
 ·refine xY (wF ?_);rw[dS (fun z=>h0 z.1)]
theorem aiA (xs:List (List ByteArray)) (i:Int):aN xs i=xs.getD i.toNat []:=rfl
theorem aiB (l m:List ByteArray) (hl:l.length≤17592186044416):Ev (fun k=>nW.f k l m) (dec (Pz l m)):=by
 unfold nW.f;refine Ev.bind (a:=dec (Pz l m)) ?_ (Ev.now _);unfold fU.f;refine av rfl (aI ?_);simp only[fU.l0,aiA,List.length_singleton]
 have e1:∀x:List ByteArray,([x]:List (List ByteArray)).getD ((0:Int)).toNat []=x:=fun x=>rfl
 simp only[e1];refine av (by decide) (av (by decide) (av (by decide) ?_));unfold Pz
 by_cases h0:l.length=m.length
 ·refine iU (E9 ByteArray.empty (fun x y=>x.toList=y.toList) l m h0 (fun k i=>fU.l1 k [l] [m] 0 i) ?_ ?_ ?_)
  ·refine aI ?_;simp only[fU.l1,aiA,e1];refine av (by decide) (av (by simp) (xY ?_));rw[xg (x:=(0:Int)+1) (by decide) (by decide)];refine aI ?_;simp only[fU.l0];exact aZ (by simp) (Ev.now _)
  ·intro n r hn hp h;refine aI ?_;simp only[fU.l1,aiA,e1,BK];refine av (by decide) (av (by simp) (iU (iU (av (by simp) (iU (av hp ?_))))));rw[xg (x:=(n:Int)+1) (by omega) (by omega)];exact h
  ·intro n hn hp;refine aI ?_;simp only[fU.l1,aiA,e1,BK];exact av (by decide) (av (by simp) (iU (iU (av (by simp) (iU (aZ hp (Ev.now _)))))))
 ·refine xY (wF ?_);rw[dS (fun z=>h0 z.1)]
theorem M0 (l:List (List Int)):Py l l:=⟨rfl,fun _ _ _=>⟨rfl,fun _ _ _=>rfl⟩⟩
theorem M3 (l:List ByteArray):Pz l l:=⟨rfl,fun _ _ _=>rfl⟩
theorem abf (a:List ByteArray) (t:ByteArray) (b:List (List Int)) (c:List Int) (ha:a.length≤1048576) (hb:wt b≤1048576) (hc:c.length≤1048576):Ev (fun k=>qa.f k a t b c a t b c) true:=by
 unfold qa.f;exact Ev.bind (fu (aiB a a (by omega)) (gG (M3 a))) (av rfl (av rfl (Ev.bind (fu (aiz b b hb) (gG (M0 b))) (av rfl (Ev.bind (fu (Wx c c (by omega)) (gG ⟨rfl,fun _ _ _=>rfl⟩)) (Ev.now _))))))
theorem abg (a:List ByteArray) (t:ByteArray) (b:List (List Int)) (c:List Int) (ha:a.length≤1048576) (hb:wt b≤1048576) (hc:c.length≤1048576):Ev (fun k=>qb.f k a t b c a t b c) true:=by
 unfold qb.f;exact Ev.bind (fu (QP a a (by omega)) (gG (M3 a))) (av rfl (av rfl (Ev.bind (fu (abe b b hb) (gG (M0 b))) (av rfl (Ev.bind (fu (JB c c (by omega)) (gG ⟨rfl,fun _ _ _=>rfl⟩)) (Ev.now _))))))
theorem JC (l:List UInt8):(bs l).toList=l:=by rw[ByteArray.toList_eq,oK]
noncomputable def QQ (l:List UInt8) (neg:Bool) (o:Option Nat):Int × Bool:=open Classical in match o with
 |none=>(0,false)
 |some u=>if u>9223372036854775808∨(neg=false∧u=9223372036854775808) then (0,false)
  else if Lib.itoa (if neg=true then -(u:Int) else (u:Int))=l then ((if neg=true then -(u:Int) else (u:Int)),true) else (0,false)
theorem AC (l:List UInt8) (neg:Bool) (u:Nat):QQ l neg (some u)=if u>9223372036854775808∨(neg=false∧u=9223372036854775808) then (0,false)
  else if Lib.itoa (if neg=true then -(u:Int) else (u:Int))=l then ((if neg=true then -(u:Int) else (u:Int)),true) else (0,false):=rfl
theorem Wy {n:Int} (h0:-9223372036854775808≤n) (h1:n≤9223372036854775807):(Lib.itoa n).length≤20:=by
 have key:∀u:Nat,u≤9223372036854775808→(Lib.decDigits u).length≤19:=by
  intro u hu;rw[Lib.decDigits_length];exact zV 18 u (by omega)
 by_cases hn:n<0
 ·rw[itoa_neg hn,List.length_cons]
  have:=key n.natAbs (by omega)
  omega
 ·rw[Eh (by omega)]
  have:=key n.natAbs (by omega)
  omega
theorem ac6 (v:Nat) (d:Nat) (h:d≤9):(-(v:Int)<wrap64 (Int.tdiv ((-9223372036854775808)+(d:Int)) 10))↔v * 10+d>9223372036854775808:=by
 have e:Int.tdiv ((-9223372036854775808)+(d:Int)) 10=-(((9223372036854775808 - d) / 10:Nat):Int):=by
  rw[show (-9223372036854775808:Int)+(d:Int)=-((9223372036854775808 - d:Nat):Int) from by omega,Int.neg_tdiv]
  rfl
 rw[e,wO]
 omega
theorem Wz {l:List UInt8} {neg:Bool} {v:Nat} {r:List UInt8} (h:v>9223372036854775808):QQ l neg (Lib.decFrom v r)=(0,false):=by
 cases e:Lib.decFrom v r with
 |none=>rfl
 |some u=>
  have:=Cw _ _ _ e
  rw[AC,if_pos (Or.inl (by omega))]
theorem M4 (s:ByteArray) (hs:s.size≤20) (neg:Bool):∀(l:List UInt8) (v:Nat),l<:+s.data.toList→v≤9223372036854775808→
  Ev (fun k=>dh.l0 k s (if neg=true then 1 else 0) (-(v:Int)) (pz s l)) (QQ s.data.toList neg (Lib.decFrom v l)):=by
 intro l
 induction l with
 |nil=>
  intro v ht hv;refine aI ?_;simp only[dh.l0];refine aZ (by rw[oV];exact Int.lt_irrefl _) ?_;rw[show Lib.decFrom v []=some v from rfl,AC]
  cases neg with
  |false=>
   refine av (by simp) ?_
   by_cases he:v=9223372036854775808
   ·subst he;refine av (by decide) (fu (Ev.now _) ?_);rw[if_pos (Or.inr ⟨rfl,rfl⟩)]
   ·refine xY ?_;rw[show wrap64 (-(-(v:Int)))=(v:Int) from by rw[Int.neg_neg];exact wO];rw[if_neg (by simp [he];omega)];refine (GA (v:Int) (by omega) (by omega)).bind ?_;simp only[JC,ByteArray.toList_eq]
    by_cases h:Lib.itoa (v:Int)=s.data.toList
    ·exact av h (fu (Ev.now _) (by simp [h]))
    ·exact aZ h (fu (Ev.now _) (by simp [h]))
  |true=>
   refine aZ (by simp) ?_;rw[if_neg (by simp;omega)];refine (GA (-(v:Int)) (by omega) (by omega)).bind ?_;simp only[JC,ByteArray.toList_eq]
   by_cases h:Lib.itoa (-(v:Int))=s.data.toList
   ·exact av h (fu (Ev.now _) (by simp [h]))
   ·exact aZ h (fu (Ev.now _) (by simp [h]))
 |cons b l ih=>
  intro v ht hv;have hb:=amC b;refine aI ?_;simp only[dh.l0];refine av vX (av (pY ht) ?_);simp only[Az ht]
  by_cases h0:b.toNat<48
  ·refine iU (aI ?_);simp only[dh.j3];refine av (by first|rfl|trivial) (fu (Ev.now _) ?_);rw[o9,Jy (by omega)]
   rfl
  refine xY (aI ?_);simp only[dh.j3]
  by_cases h1:b.toNat>57
  ·refine av (decide_eq_true (by omega)) (fu (Ev.now _) ?_);rw[o9,Jy (by omega)]
   rfl
  refine aZ (by simp;omega) (av (pY ht) (av vX ?_));simp only[Az ht]
  have hd:((b.toNat:Int) - 48) % 256=((b.toNat - 48:Nat):Int):=by omega
  rw[o9,Cz (by omega) (by omega),Option.bind_some,hd]
  by_cases hc:v * 10+(b.toNat - 48)>9223372036854775808
  ·refine av ((ac6 v (b.toNat - 48) (by omega)).mpr hc) (fu (Ev.now _) ?_);exact (Wz hc).symm
  ·refine aZ (fun h=>hc ((ac6 v (b.toNat - 48) (by omega)).mp h)) ?_;have e1:wrap64 (10 * -(v:Int))=10 * -(v:Int):=wO
   have e2:wrap64 ((wrap64 (10 * -(v:Int))) - ((b.toNat - 48:Nat):Int))=-((v * 10+(b.toNat - 48):Nat):Int):=by
    rw[e1,wO]
    omega
   have e3:wrap64 (pz s (b::l)+1)=pz s l:=by
    have:=pY ht
    have:=Hl s (b::l)
    rw[wO,E_]
   rw[e2,e3];exact ih _ (rZ ht) (by omega)
theorem KM (l r:List UInt8) (neg:Bool) (h:l=(if neg=true then [45] else [])++r) (hn:neg=false→l.head?≠some 45):QQ l neg (Lib.decFrom 0 r)=mO l:=by
 have back:∀n:Int,Lib.itoa n=l→Lib.decFrom 0 r=some n.natAbs∧(neg=true→n<0)∧(neg=false→0≤n):=by
  intro n hi
  cases neg with
  |true=>
   rw[h] at hi;obtain ⟨h1,h2⟩:=aa5 hi;rw[show r=Lib.decDigits n.natAbs from h2.symm];exact ⟨lm _,fun _=>h1,fun h=>by cases h⟩
  |false=>
   obtain ⟨h1,h2⟩:=aa6 hi (hn rfl);rw[h] at h2;rw[show r=Lib.decDigits n.natAbs from by simpa using h2.symm];exact ⟨lm _,fun h=>by (cases h),fun _=>h1⟩
 rcases FZ l with ⟨n,h0,h1,h2,h3⟩|⟨h2,h3⟩
 ·rw[h3];obtain ⟨b1,b2,b3⟩:=back n h2;rw[b1];rw[AC]
  cases neg with
  |true=>
   have:=b2 rfl
   rw[if_neg (by simp;omega)]
   have e:(if true=true then -((n.natAbs:Nat):Int) else (n.natAbs:Int))=n:=by rw[if_pos rfl];omega
   rw[e,if_pos h2]
  |false=>
   have:=b3 rfl
   rw[if_neg (by simp;omega)]
   have e:(if false=true then -((n.natAbs:Nat):Int) else (n.natAbs:Int))=n:=by rw[if_neg (by simp)];omega
   rw[e,if_pos h2]
 ·rw[h3]
  cases Lib.decFrom 0 r with
  |none=>rfl
  |some u=>
   rw[AC]
   by_cases hb:u>9223372036854775808∨(neg=false∧u=9223372036854775808)
   ·rw[if_pos hb]
   ·rw[if_neg hb,if_neg]
    refine h2 _ ?_ ?_<;>cases neg<;>simp at hb ⊢<;>omega
theorem OB (s:ByteArray):Ev (fun k=>dh.f k s) (mO s.data.toList):=by
 have hl:s.data.toList.length=s.size:=iA ..;unfold dh.f
 have bad:¬(1≤s.size∧s.size≤20)→mO s.data.toList=(0,false):=by
  intro h
  refine Hm fun n h0 h1 h2=>h ?_
  have a:=congrArg List.length h2;rw[hl] at a;have b:=Wy h0 h1
  have c:0<(Lib.itoa n).length:=by
   by_cases hn:n<0
   ·rw[itoa_neg hn];simp
   ·rw[Eh (by omega)];exact List.length_pos_iff.mpr (zy _)
  omega
 by_cases h:(s.size:Int)<1
 ·refine av h (aI ?_);simp only[dh.j0];exact av (by first|rfl|trivial) (fu (Ev.now _) (bad (by omega)).symm)
 refine aZ h (aI ?_);simp only[dh.j0]
 by_cases h1:(s.size:Int)>20
 ·exact av (decide_eq_true h1) (fu (Ev.now _) (bad (by omega)).symm)
 refine aZ (by simp;omega) (iU ?_)
 obtain ⟨b,r,e⟩:∃b r,s.data.toList=b::r:=by
  cases e:s.data.toList with
  |nil=>rw[e] at hl;simp at hl;omega
  |cons b r=>exact ⟨b,r,rfl⟩
 have hb0:bt s 0=(b.toNat:Int):=Gz (n:=0) (by rw[e];rfl);simp only[hb0]
 have ht:b::r<:+s.data.toList:=by rw[e];exact List.suffix_refl _
 have p0:pz s (b::r)=0:=by rw[←e];exact QE s
 have p1:pz s r=1:=by have:=@E_ s b r;omega
 by_cases h45:b=45
 ·subst h45;refine av rfl (aI ?_);simp only[dh.j1]
  have:=M4 s (by omega) true r 0 (rZ ht) (by omega)
  rw[p1] at this;refine fu this ?_;exact KM _ r true (by rw[e];rfl) (fun h=>by cases h)
 ·refine aZ (fun e=>h45 ((vw (n:=45) (by decide)).mp e)) (aI ?_);simp only[dh.j1]
  have:=M4 s (by omega) false (b::r) 0 ht (by omega)
  rw[p0] at this;refine fu this ?_;rw[←e];exact KM _ _ false (by simp) (fun _=>by rw[e];simpa using h45)
theorem QR (s:ByteArray):Ev (fun k=>uy.f k s) (if (mO s.data.toList).2=true∧0≤(mO s.data.toList).1∧(mO s.data.toList).1≤999999999 then ((mO s.data.toList).1,true) else (0,false)):=by
 unfold uy.f;refine (OB s).bind ?_
 by_cases h:(mO s.data.toList).2=true
 ·refine av h ?_;simp only[y8,Option.bind_some]
  by_cases h1:0≤(mO s.data.toList).1∧(mO s.data.toList).1≤999999999
  ·exact av (by simpa using h1) (fu (Ev.now _) (by rw[if_pos ⟨h,h1⟩]))
  ·exact aZ (by simpa using h1) (fu (Ev.now _) (by rw[if_neg (fun e=>h1 e.2)]))
 ·exact aZ h (fu (Ev.now _) (by rw[if_neg (fun e=>h e.1)]))
theorem TB (w:List UInt8):(∃u:Nat,u≤999999999∧JA w=some u∧(if (mO w).2=true∧0≤(mO w).1∧(mO w).1≤999999999 then ((mO w).1,true) else ((0:Int),false))=((u:Int),true))∨
  ((∀u:Nat,JA w=some u→999999999<u)∧(if (mO w).2=true∧0≤(mO w).1∧(mO w).1≤999999999 then ((mO w).1,true) else ((0:Int),false))=(0,false)):=by
 rcases FZ w with ⟨n,h0,h1,h2,h3⟩|⟨h2,h3⟩
 ·rw[h3]
  by_cases hn:0≤n∧n≤999999999
  ·left
   refine ⟨n.toNat,by omega,?_,?_⟩
   ·rw[←h2,Eh hn.1,Ho]
    congr 1
    omega
   ·rw[if_pos ⟨rfl,hn⟩]
    congr 1
    omega
  ·right
   refine ⟨fun u hu=>?_,by rw[if_neg (fun e=>hn e.2)]⟩;have h4:=BM hu;rw[←zT,←h2] at h4
   have:=Ti h4
   omega
 ·right
  refine ⟨fun u hu=>?_,by rw[h3,if_neg (by simp)]⟩;have h4:=BM hu;rw[←zT] at h4
  have:=h2 (u:Int)
  by_cases hb:(u:Int)≤9223372036854775807
  ·exact absurd h4 (this (by omega) hb)
  ·omega
theorem zz (neg:Bool) (n:Nat):vG neg (some n)=if n≤2147483647 then (if neg=true then -(n:Int) else (n:Int),true) else (0,false):=rfl
theorem Ep (neg:Bool) (n:Nat) (hn:n≤1000000000000):Ev (fun k=>aV.j4 k neg (n:Int)) (vG neg (some n)):=by
 refine aI ?_;simp only[aV.j4,f_.f,y8,Option.bind_some];rw[zz]
 cases neg with
 |true=>
  refine av (by first|rfl|trivial) ?_;rw[show wrap64 (-(n:Int))=-(n:Int) from wO]
  by_cases h:n≤2147483647
  ·exact av (decide_eq_true (by omega)) (fu (Ev.now _) (by simp [h]))
  ·exact aZ (by simp;omega) (fu (Ev.now _) (by simp [h]))
 |false=>
  refine aZ (by simp) ?_
  by_cases h:n≤2147483647
  ·exact av (decide_eq_true (by omega)) (fu (Ev.now _) (by simp [h]))
  ·exact aZ (by simp;omega) (fu (Ev.now _) (by simp [h]))
def CK (i:Nat):Nat:=if i=0 then 100 else if i=1 then 10 else if i=2 then 1 else 0
theorem HZ (v:Nat):∀n:Nat,Lib.decFrom v (List.replicate n 48)=some (v * 10 ^ n)
 |0=>by simp [Lib.decFrom]
 |n+1=>by
  rw[List.replicate_succ,o9,show Lib.digitVal 48=some 0 from by decide,Option.bind_some,HZ _ n]
  congr 1
  rw[Nat.pow_succ,Nat.add_zero,Nat.mul_assoc,Nat.mul_comm 10]
theorem abh (u v d j:Nat) (hu:u≤999999999) (hv:v<100) (hd:d≤9) (hj:j<3):wrap64 (((1000 * u+v * 10 ^ (3 - j):Nat):Int)+wrap64 (((CK j:Nat):Int) * (d:Int)))=((1000 * u+(v * 10+d) * 10 ^ (3 - (j+1)):Nat):Int):=by
 have hU:CK j * d≤900:=by
  match j,hj with
  |0,_=>show 100 * d≤900;omega
  |1,_=>show 10 * d≤900;omega
  |2,_=>show 1 * d≤900;omega
 have hV:v * 10 ^ (3 - j)≤100000:=by
  match j,hj with
  |0,_=>show v * 1000≤_;omega
  |1,_=>show v * 100≤_;omega
  |2,_=>show v * 10≤_;omega
 have e:1000 * u+v * 10 ^ (3 - j)+CK j * d=1000 * u+(v * 10+d) * 10 ^ (3 - (j+1)):=by
  match j,hj with
  |0,_=>show 1000 * u+v * 1000+100 * d=1000 * u+(v * 10+d) * 100;omega
  |1,_=>show 1000 * u+v * 100+10 * d=1000 * u+(v * 10+d) * 10;omega
  |2,_=>show 1000 * u+v * 10+1 * d=1000 * u+(v * 10+d) * 1;omega
 rw[←e,←Int.natCast_mul];generalize CK j * d=x at hU;generalize v * 10 ^ (3 - j)=y at hV;rw[xg (x:=(x:Int)) (by omega) (by omega),wO]
 omega
theorem abj (j:Nat) (hj:j<3):wrap64 (Int.tdiv ((CK j:Nat):Int) 10)=((CK (j+1):Nat):Int):=by
 match j,hj with
 |0,_=>exact xg (x:=10) (by decide) (by decide)
 |1,_=>exact xg (x:=1) (by decide) (by decide)
 |2,_=>exact xg (x:=0) (by decide) (by decide)
def TC (v n:Nat):Prop:=v<10 ^ n
theorem WA {v d n m:Nat} (h:TC v n) (hd:d≤9) (hm:m=n+1):TC (v * 10+d) m:=by
 unfold TC at h ⊢;rw[hm,Nat.pow_succ];generalize 10 ^ n=x at h
 omega
theorem aiC {v n:Nat} (h:TC v n) (hn:n≤2):v<100:=Nat.lt_of_lt_of_le h (Nat.pow_le_pow_right (by decide) hn)
theorem thousand {v n:Nat} (h:TC v n) (hn:n≤3):v * 10 ^ (3 - n)≤1000:=by
 have e:10 ^ n * 10 ^ (3 - n)=1000:=by rw[←Nat.pow_add,Nat.add_sub_cancel' hn]
 have:=Nat.mul_le_mul_right (10 ^ (3 - n)) (Nat.le_of_lt h)
 rw[e] at this;exact this
theorem M5 (neg:Bool) (parts:List ByteArray) (p:List UInt8) (u:Nat) (hu:u≤999999999) (hp:p.length≤3) (h2:parts.length=2) (h1:jg ByteArray.empty parts 1=bs p):∀(l:List UInt8) (v:Nat),l<:+p→TC v (p.length - l.length)→
  Ev (fun k=>aV.l0 k neg parts ((1000 * u+v * 10 ^ (3 - (p.length - l.length)):Nat):Int) ((CK (p.length - l.length):Nat):Int) ((p.length - l.length:Nat):Int)) (vG neg ((Lib.decFrom v (l++List.replicate (3 - p.length) 48)).map fun v=>1000 * u+v)):=by
 intro l
 induction l with
 |nil=>
  intro v ht hv;refine aI ?_;simp only[aV.l0];rw[h1];refine iU (aZ (by rw[iw];simp) ?_);rw[List.nil_append,HZ,Option.map_some];have hb:v * 10 ^ (3 - p.length)≤1000:=thousand hv (by simpa using hp);simp only[List.length_nil,Nat.sub_zero];generalize v * 10 ^ (3 - p.length)=y at hb;exact Ep neg _ (by omega)
 |cons b l ih=>
  intro v ht hv;have hlen:=ht.length_le;rw[List.length_cons] at hlen;have ht':b::l<:+(bs p).data.toList:=ht
  have e1:((p.length - (b::l).length:Nat):Int)=pz (bs p) (b::l):=by
   unfold pz;rw[iw,List.length_cons]
   omega
  refine aI ?_;simp only[aV.l0];rw[h1,e1];refine iU (av vX (av (pY ht') ?_));have hbb:=amC b;rw[Az ht',show wrap64 (b.toNat:Int)=(b.toNat:Int) from wO,show wrap64 ((b.toNat:Int) - 48)=(b.toNat:Int) - 48 from wO];refine (wF (y8 ((b.toNat:Int) - 48) 0 9)).bind ?_;rw[List.cons_append,o9]
  by_cases hd:48≤b.toNat∧b.toNat≤57
  ·refine av (decide_eq_true (by omega)) ?_;rw[Cz hd.1 hd.2,Option.bind_some]
   have hl3:p.length - l.length=p.length - (b::l).length+1:=by rw[List.length_cons];omega
   have hi:p.length - (b::l).length<3:=by rw[List.length_cons];omega
   have hv':TC (v * 10+(b.toNat - 48)) (p.length - l.length):=WA hv (by omega) hl3;have go:=ih (v * 10+(b.toNat - 48)) ((List.suffix_cons b l).trans ht) hv';have hvs:v<100:=aiC hv (by rw[List.length_cons];omega);generalize hj:p.length - (b::l).length=j at *
   have e2:wrap64 (pz (bs p) (b::l)+1)=((p.length - l.length:Nat):Int):=by
    rw[←e1,hl3,wO]
    omega
   have e3:wrap64 (Int.tdiv ((CK j:Nat):Int) 10)=((CK (p.length - l.length):Nat):Int):=by
    rw[hl3];exact abj j hi
   have hdd:((b.toNat:Int) - 48)=((b.toNat - 48:Nat):Int):=by omega
   have e4:=abh u v (b.toNat - 48) j hu hvs (by omega) hi;rw[←hl3] at e4;rw[hdd,e2,e3,e4];exact go
  ·refine aZ (by simp;omega) (fu (Ev.now _) ?_);rw[Jy hd]
   rfl
theorem ac7 (u:Nat) (hu:u≤999999999):wrap64 (1000 * (u:Int))=((1000 * u:Nat):Int):=by
 rw[wO]
 omega
theorem CL (b:UInt8) (l:List UInt8):nJ (b::l)=if b=45 then uM true l else uM false (b::l):=rfl
theorem zX (neg:Bool) (l:List UInt8) (hl:l.length≤20):Ev (fun k=>aV.j1 k (bs l) neg) (uM neg l):=by
 refine aI ?_;rw[show (fun k=>aV.j1 (k+1) (bs l) neg)=_ from by funext k;rw[aV.j1]];refine (Tq (bs l) 46 (by rw[iw];omega)).bind ?_;rw[oK,GD];unfold uM MQ;generalize hc:cutAt 46 l=c;have hlen:=CG 46 l;rw[hc] at hlen;obtain ⟨w,q⟩:=c;simp only at hlen ⊢;rw[List.map_cons];generalize hps:List.map bs (Fa 46 q)=ps;refine av (by rw[List.length_cons];omega) ?_;rw[show jg ByteArray.empty (bs w::ps) 0=bs w from rfl];refine (QR (bs w)).bind ?_;rw[oK]
 have two:∀z:Bool,z=true→Ev (fun k=>aV.j2 k neg (bs w::ps) 0 z) ((0:Int),false):=by
  intro z hz;refine aI ?_;rw[show (fun k=>aV.j2 (k+1) neg (bs w::ps) 0 z)=_ from by funext k;rw[aV.j2]];exact av hz (Ev.now _)
 have many:∀(x:Int) (z:Bool),z=true→Ev (fun k=>aV.j2 k neg (bs w::ps) x z) ((0:Int),false):=by
  intro x z hz;refine aI ?_;rw[show (fun k=>aV.j2 (k+1) neg (bs w::ps) x z)=_ from by funext k;rw[aV.j2]];exact av hz (Ev.now _)
 rcases TB w with ⟨u,hu,hw,he⟩|⟨hw,he⟩
 ·rw[he];refine av rfl ?_;rw[hw]
  cases q with
  |none=>
   obtain rfl:ps=[]:=hps.symm;rw[show decide ((((bs w::([]:List ByteArray)).length:Nat):Int)>2)=false from by simp];refine aI ?_;rw[show (fun k=>aV.j2 (k+1) neg [bs w] (u:Int) false)=_ from by funext k;rw[aV.j2]];refine aZ (by simp) (aZ (by simp) ?_);rw[ac7 u hu];exact Ep neg (1000 * u) (by omega)
  |some p=>
   simp only[CB] at hlen;simp only[Fa] at hps;rw[GD] at hps
   cases hq:(cutAt 46 p).2 with
   |some p2=>
    rw[hq] at hps;simp only[Fa] at hps
    have h3:2<(bs w::ps).length:=by
     rw[←hps]
     have:=List.length_pos_iff.mpr (Jz 46 p2)
     simp only[List.length_cons,List.length_map]
     omega
    refine fu (many _ _ (decide_eq_true (by omega))) ?_;rw[Option.bind_some]
    have hm:46 ∈ p:=by
     rw[(CF hq).2]
     simp
    have:GG (some p)=none:=by
     simp only[GG]
     by_cases hp:1≤p.length∧p.length≤3
     ·rw[if_pos hp]
      cases e:Lib.decFrom 0 (p++List.replicate (3 - p.length) 48) with
      |none=>rfl
      |some v=>
       exfalso
       have:=AB e (b:=46) (by simp [hm])
       revert this
       decide
     ·rw[if_neg hp]
    rw[this]
    rfl
   |none=>
    rw[hq,(CE hq).2] at hps;obtain rfl:ps=[bs p]:=hps.symm;rw[show decide ((((bs w::[bs p]).length:Nat):Int)>2)=false from by simp];refine aI ?_;rw[show (fun k=>aV.j2 (k+1) neg [bs w,bs p] (u:Int) false)=_ from by funext k;rw[aV.j2]];refine aZ (by simp) (av (by simp) (av (by simp) ?_));rw[show jg ByteArray.empty [bs w,bs p] 1=bs p from rfl,iw];refine (wF (y8 (p.length:Int) 1 3)).bind ?_
    by_cases hp:1≤p.length∧p.length≤3
    ·refine av (decide_eq_true (by omega)) ?_;rw[ac7 u hu]
     have:=M5 neg [bs w,bs p] p u hu hp.2 rfl rfl p 0 (List.suffix_refl _) (by unfold TC;rw[Nat.sub_self];decide)
     rw[Nat.sub_self,Nat.zero_mul,Nat.add_zero] at this;refine fu this ?_;simp only[GG];rw[if_pos hp,Option.bind_some]
    ·refine aZ (by simp;omega) (fu (Ev.now _) ?_);simp only[GG];rw[if_neg hp]
     rfl
 ·rw[he];refine aZ (by simp) (fu (many _ _ rfl) ?_)
  cases hw1:JA w with
  |none=>rfl
  |some u=>
   have:=hw u hw1
   rw[Option.bind_some]
   cases GG q with
   |none=>rfl
   |some v=>
    rw[Option.map_some,zz,if_neg (by omega)]
theorem OC (s:ByteArray):Ev (fun k=>aV.f k s) (nJ s.data.toList):=by
 have hl:s.data.toList.length=s.size:=iA ..;unfold aV.f;obtain ⟨⟨l⟩⟩:=s
 change l.length=_ at hl
 change Ev _ (nJ l)
 by_cases h:l.length>20
 ·refine iU (fu (Ev.now _) ?_)
  cases l with
  |nil=>simp at h
  |cons b l=>
   rw[List.length_cons] at h;rw[CL]
   by_cases hb:b=45
   ·rw[if_pos hb,Hq (by omega)]
   ·rw[if_neg hb,Hq (by rw[List.length_cons];omega)]
 refine xY ?_
 cases l with
 |nil=>
  refine aZ (by rw[←hl];decide) (aI ?_);rw[show (fun k=>aV.j0 (k+1) (⟨⟨[]⟩⟩:ByteArray) false)=_ from by funext k;rw[aV.j0]];exact aZ (by simp) (zX false [] (by simp))
 |cons b l=>
  rw[List.length_cons] at hl h;have hb0:bt (bs (b::l)) 0=(b.toNat:Int):=Gz (n:=0) rfl;refine iU (iU ?_)
  change Ev (fun k=>aV.j0 k (bs (b::l)) (bt (bs (b::l)) 0==45)) _
  rw[hb0];rw[CL]
  by_cases hb:b=45
  ·subst hb;refine aI ?_;rw[show (fun k=>aV.j0 (k+1) (bs (45::l)) (((45:UInt8).toNat:Int)==45))=_ from by funext k;rw[aV.j0]];refine av rfl (av (by rw[iw,List.length_cons];omega) ?_);rw[F4,if_pos rfl];exact zX true l (by omega)
  ·rw[if_neg hb,show (((b.toNat:Int))==45)=false from by simp;exact fun e=>hb ((vw (n:=45) (by decide)).mp e)];refine aI ?_;rw[show (fun k=>aV.j0 (k+1) (bs (b::l)) false)=_ from by funext k;rw[aV.j0]];exact aZ (by simp) (zX false (b::l) (by rw[List.length_cons];omega))
def amF:Option (Int × Nat)→Int × Int × Int
 |none=>(0,0,0)
 |some p=>(p.1,0,(p.2:Int))
theorem Bo {n:Nat} (h:n≤1000000000):wrap64 ((n:Int)+1)=((n+1:Nat):Int):=by
 rw[wO]
 omega
theorem TD (l:List ByteArray) (hl:l.length≤1000000) (hs:∀x ∈ l,x.size≤4000):∀(d n:Nat),n+d=l.length→Ev (fun k=>kG.l0 k l (n:Int)) (amF (p_ l d n)):=by
 intro d
 induction d with
 |zero=>
  intro n hn;refine aI (Ev.congr (fun k=>by rw[kG.l0]) ?_);exact xY (Ev.now _)
 |succ d ih=>
  intro n hn;refine aI (Ev.congr (fun k=>by rw[kG.l0]) ?_);refine iU (iU ?_);have hsz:=BL hs n;refine (Cy (yx l n) (by omega)).bind ?_;unfold p_
  by_cases h:rz (yx l n)
  ·rw[if_pos h];refine av (gG h) (iU ?_);rw[Int.toNat_natCast];refine (L6 (l.take n) (yx l n) (by rw[List.length_take];omega)).bind ?_;rw[jU (xy l (by omega) (yx l n))]
   by_cases hh:Bj l n (yx l n)
   ·rw[if_pos hh];exact av (gG hh) (Ev.now _)
   ·rw[if_neg hh];refine aZ (by rw[dS hh];decide) ?_;rw[Bo (by omega)];exact ih (n+1) (by omega)
  ·rw[if_neg h];exact aZ (by rw[dS h];decide) (Ev.now _)
theorem ac8 (l:List ByteArray) (hl:l.length≤1000000) (hs:∀x ∈ l,x.size≤4000):Ev (fun k=>kG.f k l) (if 2≤l.length∧l.length≤5 then amF (p_ l l.length 0) else (7,0,0)):=by
 refine Ev.congr (fun k=>by rw[kG.f]) ?_;refine (wF (y8 (l.length:Int) 2 5)).bind ?_
 by_cases h:2≤l.length∧l.length≤5
 ·rw[if_pos h];exact av (decide_eq_true (by omega)) (TD l hl hs l.length 0 (by omega))
 ·rw[if_neg h];exact aZ (by simp;omega) (Ev.now _)
def Er (i:Nat) (rest:List Int→Lj) (acc:List Int) (t:List Int × Option Nat):Lj:=match t.2 with
 |none=>rest (acc++t.1)
 |some c=>Ll 9 (i:Int) (c:Int)
theorem KN {i:Nat} {rest:List Int→Lj} {acc:List Int} {t:List Int × Option Nat} (h:t.2=none):Er i rest acc t=rest (acc++t.1):=by
 unfold Er;rw[h]
theorem KO {i c:Nat} {rest:List Int→Lj} {acc:List Int} {t:List Int × Option Nat} (h:t.2=some c):Er i rest acc t=Ll 9 (i:Int) (c:Int):=by
 unfold Er;rw[h]
theorem JD (x:ByteArray) (r:List ByteArray) (k:Nat):vQ (x::r) k=if (nJ x.data.toList).2=true then ((nJ x.data.toList).1::(vQ r (k+1)).1,(vQ r (k+1)).2) else ([],some k):=rfl
theorem TE {i:Nat} {rest:List Int→Lj} {acc:List Int} {x:ByteArray} {r:List ByteArray} {k:Nat} (h:(nJ x.data.toList).2=true):Er i rest acc (vQ (x::r) k)=Er i rest (acc++ [(nJ x.data.toList).1]) (vQ r (k+1)):=by
 rw[JD,if_pos h];unfold Er;simp only
 cases (vQ r (k+1)).2 with
 |none=>simp
 |some c=>rfl
theorem WB (rows:List (List ByteArray)) (m i:Nat) (row:List ByteArray) (N:List ByteArray) (T:ByteArray) (R:List (List Int)) (Y:List Int) (hi:i<rows.length) (hrow:aN rows (i:Int)=row) (hlen:row.length=m+1) (hm:m≤100) (hR:R.length≤1000) (hY:Y.length≤1000)
  (rest:List Int→Lj) (hrest:∀v,v.length=m+1→Ev (fun k=>aQ.l0 k rows (m:Int) (wrap64 ((i:Int)+1)) N T (R++ [v.take m]) (Y++ [rd v (m:Int)])) (rest v)):
  ∀(l:List ByteArray) (acc:List Int) (j:Nat),row.drop j=l→j+l.length=m+1→acc.length=j→Ev (fun k=>aQ.l1 k rows (m:Int) (i:Int) acc (j:Int) N T R Y) (Er i rest acc (vQ l j)):=by
 intro l
 induction l with
 |nil=>
  intro acc j hd hj ha;rw[List.length_nil] at hj;refine aI (Ev.congr (fun k=>by rw[aQ.l1]) ?_);refine xY ?_;refine (Ev.now ([]:List Int)).bind ?_;refine iU (iU ?_);rw[Int.toNat_natCast];refine (Ev.now (acc.take m)).bind ?_;refine av (by rw[List.length_take];simp;omega) (iU (iU (iU ?_)));rw[show vQ [] j=([],none) from rfl,KN rfl,List.append_nil,List.nil_append];exact hrest acc (by omega)
 |cons x l ih=>
  intro acc j hd hj ha;rw[List.length_cons] at hj
  have hx:row[j]?=some x:=by
   rw[←List.head?_drop,hd]
   rfl
  have hr:jg ByteArray.empty row (j:Int)=x:=by rw[BK,List.getD_eq_getElem?_getD,hx];rfl
  refine aI (Ev.congr (fun k=>by rw[aQ.l1]) ?_);refine iU (iU (iU (iU ?_)));rw[hrow,hr];refine iU ((OC x).bind ?_)
  by_cases h:(nJ x.data.toList).2=true
  ·refine av h (iU ?_);rw[TE h,Bo (by omega)];refine ih _ (j+1) ?_ (by omega) (by rw[List.length_append,List.length_singleton];omega);rw[←List.drop_drop,hd]
   rfl
  ·refine aZ h (fu (Ev.now _) ?_);rw[KO (c:=j)]
   ·rfl
   ·rw[JD,if_neg h]
noncomputable def amG (N:List ByteArray) (T:ByteArray) (m:Nat) (r:List (List Int) × Int × Int × Int):Lj:=if r.2.1=0 then (N,T,r.1.map (fun x=>x.take m),r.1.map (fun x=>rd x (m:Int)),0,0,0) else Ll r.2.1 r.2.2.1 r.2.2.2
theorem TF (rows:List (List ByteArray)) (m:Nat) (N:List ByteArray) (T:ByteArray) (hm:m≤100) (hrows:rows.length≤100):
  ∀(l:List (List ByteArray)) (i:Nat) (acc:List (List Int)),rows.drop i=l→i+l.length=rows.length→acc.length≤i→Ev (fun k=>aQ.l0 k rows (m:Int) (i:Int) N T (acc.map (fun x=>x.take m)) (acc.map (fun x=>rd x (m:Int)))) (amG N T m (r9 (m+1) l i acc)):=by
 intro l
 induction l with
 |nil=>
  intro i acc hd hj ha;rw[List.length_nil] at hj;refine aI (Ev.congr (fun k=>by rw[aQ.l0]) ?_);exact xY (Ev.now _)
 |cons row l ih=>
  intro i acc hd hj ha;rw[List.length_cons] at hj
  have hx:rows[i]?=some row:=by
   rw[←List.head?_drop,hd]
   rfl
  have hr:aN rows (i:Int)=row:=by unfold aN;rw[List.getD_eq_getElem?_getD,Int.toNat_natCast,hx];rfl
  refine aI (Ev.congr (fun k=>by rw[aQ.l0]) ?_);refine iU (iU ?_);rw[hr,Bo (by omega),zW]
  by_cases hn:row.length=m+1
  ·rw[if_pos hn];refine iU ?_;have go:=WB rows m i row N T (acc.map (fun x=>x.take m)) (acc.map (fun x=>rd x (m:Int))) (by omega) hr hn hm (by rw[List.length_map];omega) (by rw[List.length_map];omega)
    (fun v=>amG N T m (r9 (m+1) l (i+1) (acc++ [v]))) (fun v hv=>by
     have:=ih (i+1) (acc++ [v]) (by rw[←List.drop_drop,hd];rfl) (by omega) (by rw[List.length_append,List.length_singleton];omega)
     rw[List.map_append,List.map_append] at this;rw[Bo (by omega)]
     exact this) row [] 0 rfl (by omega) rfl
   refine fu go ?_
   cases e:(vQ row 0).2 with
   |none=>rw[KN e,List.nil_append]
   |some c=>
    rw[KO e]
    rfl
  ·rw[if_neg hn];exact xY (Ev.now _)
theorem Lr (s:ByteArray):Ev (fun k=>aQ.f k s) (oL s):=by
 refine Ev.congr (fun k=>by rw[aQ.f]) ?_;refine (F8 s).bind ?_;have hsz:=F5 s;have hf:=@F6 s;unfold oL
 by_cases h0:(mh s).2.1=0
 ·rw[if_pos h0];refine av h0 ?_
  cases hc:(mh s).1 with
  |nil=>exact av rfl (Ev.now _)
  |cons names rest=>
   rw[hc] at hsz;have hns:=hsz names (by simp);refine aZ (by rw[List.length_cons];omega) (av (by rw[List.length_cons];omega) ?_);rw[show aN (names::rest) 0=names from rfl];have hcnt:=Em s;rw[hc,List.length_cons] at hcnt
   have hN:names.length≤1000000:=by have:=hcnt.2 names (by simp);omega
   refine (ac8 names hN hns).bind ?_;simp only;unfold Fb
   by_cases h25:2≤names.length∧names.length≤5
   ·rw[if_pos h25,if_pos h25]
    cases hh:p_ names names.length 0 with
    |some p=>
     refine aZ (Bl hh) (Ev.now _)
    |none=>
     refine av rfl ?_;rw[show wrap64 (((names::rest).length:Int) - 1)=(rest.length:Int) from by rw[List.length_cons,wO];omega];refine (wF (y8 (rest.length:Int) 1 40)).bind ?_
     by_cases hr:1≤rest.length∧rest.length≤40
     ·rw[if_pos hr];refine av (decide_eq_true (by omega)) ?_
      have e1:wrap64 ((names.length:Int) - 1)=((names.length - 1:Nat):Int):=by rw[wO];omega
      rw[e1];refine (Ev.now ([]:List ByteArray)).bind (iU (iU ?_));rw[Int.toNat_natCast];refine (Ev.now (names.take (names.length - 1))).bind (av (by rw[List.length_take,List.length_nil];omega) (iU ?_));rw[List.nil_append];have go:=TF (names::rest) (names.length - 1) (names.take (names.length - 1)) (yx names (names.length - 1)) (by omega) (by rw[List.length_cons];omega) rest 1 [] rfl (by rw[List.length_cons];omega) (by simp);rw[Nat.sub_add_cancel (by omega)] at go;exact go
     ·rw[if_neg hr];exact aZ (by simp;omega) (Ev.now _)
   ·rw[if_neg h25,if_neg h25];exact aZ (by simp) (Ev.now _)
 ·rw[if_neg h0];exact aZ h0 (Ev.now _)
theorem xA (a b c:Int):gp.f a b c=some (decide (b≤a∧a≤c)):=by
 unfold gp.f
 by_cases h:b≤a
 ·rw[if_pos h];simp [h]
 ·rw[if_neg h];simp [h]
theorem OD (s:ByteArray) (hl:s.size≤140737488351232):∀(d n:Nat),n+d=s.size→Ev (fun k=>il.l0 k s (s.size:Int) (n:Int)) (dec (ll s n∧(n=0→0<s.size→Letter (bt s 0))∧1≤s.size∧s.size≤12)):=by
 intro d
 induction d with
 |zero=>
  intro n hn
  refine Cu fun k=>?_
  simp only[il.l0,xA,Option.bind_some]
  obtain rfl:n=s.size:=by omega
  rw[if_neg (by omega),←apP]
  congr 1
  refine jU ⟨fun g=>⟨ll.stop,fun h=>by omega,by omega,by omega⟩,fun g=>by omega⟩
 |succ d ih=>
  intro n hn;have hs:=ll.step (s:=s) (n:=n) (by omega);have hb:=ML s (n:Int)
  by_cases h1:Letter (bt s (n:Int))
  ·have e:dec (ll s n∧(n=0→0<s.size→Letter (bt s 0))∧1≤s.size∧s.size≤12)=dec (ll s (n+1)∧(n+1=0→0<s.size→Letter (bt s 0))∧1≤s.size∧s.size≤12):=
    jU (by rw[hs];exact ⟨fun g=>⟨g.1.2,fun h=>by omega,g.2.2⟩,fun g=>⟨⟨.inl h1,g.1⟩,fun h _=>by subst h;exact h1,g.2.2⟩⟩)
   rw[e];refine Ev.step (fun k=>?_) (ih (n+1) (by omega));simp only[il.l0];unfold Letter at h1;rw[if_pos (by omega),if_pos (by omega),if_pos (by omega),if_pos (by omega),if_pos (by omega),wO]
   rfl
  ·by_cases h2:Bi (bt s (n:Int))∧n≠0
   ·have e:dec (ll s n∧(n=0→0<s.size→Letter (bt s 0))∧1≤s.size∧s.size≤12)=dec (ll s (n+1)∧(n+1=0→0<s.size→Letter (bt s 0))∧1≤s.size∧s.size≤12):=
     jU (by rw[hs];exact ⟨fun g=>⟨g.1.2,fun h=>by omega,g.2.2⟩,fun g=>⟨⟨.inr h2.1,g.1⟩,fun h=>absurd h h2.2,g.2.2⟩⟩)
    rw[e];refine Ev.step (fun k=>?_) (ih (n+1) (by omega));simp only[il.l0];unfold Letter at h1;unfold Bi at h2;rw[if_pos (by omega),if_pos (by omega),if_pos (by omega)]
    by_cases h3:bt s (n:Int)≥97
    ·rw[if_pos h3,if_neg (by omega),if_neg (by omega),if_neg (by omega),if_neg (by omega),wO]
     rfl
    ·rw[if_neg h3,if_neg (by omega),if_neg (by omega),if_neg (by omega),wO]
     rfl
   ·refine Cu fun k=>?_
    have e:dec (ll s n∧(n=0→0<s.size→Letter (bt s 0))∧1≤s.size∧s.size≤12)=false:=dS (by
     rw[hs];intro ⟨⟨g1,_⟩,g2,_⟩
     by_cases z:n=0
     ·subst z;exact h1 (g2 rfl (by omega))
     ·exact g1.elim h1 (fun y=>h2 ⟨y,z⟩))
    rw[e];simp only[il.l0];unfold Letter at h1;unfold Bi at h2;rw[if_pos (by omega),if_pos (by omega),if_pos (by omega)]
    by_cases z:n=0
    ·by_cases h3:bt s (n:Int)≥97
     ·rw[if_pos h3,if_neg (by omega),if_pos (by omega)]
     ·rw[if_neg h3,if_pos (by omega)]
    ·have h4:bt s (n:Int)<48∨bt s (n:Int)>57:=by omega
     by_cases h3:bt s (n:Int)≥97
     ·rw[if_pos h3,if_neg (by omega),if_neg (by omega),if_neg (by omega),if_pos (by omega)]
     ·rw[if_neg h3,if_neg (by omega)]
      by_cases h5:bt s (n:Int)<48
      ·rw[if_pos h5]
      ·rw[if_neg h5,if_pos (by omega)]
theorem GH (s:ByteArray) (hl:s.size≤140737488351232):Ev (fun k=>il.f k s) (dec (rz s)):=by
 have h:=OD s hl s.size 0 (by omega)
 have e:dec (ll s 0∧((0:Nat)=0→0<s.size→Letter (bt s 0))∧1≤s.size∧s.size≤12)=dec (rz s):=
  jU ⟨fun g=>⟨g.2.2.1,g.2.2.2,g.2.1 rfl (by omega),g.1⟩,fun g=>⟨g.2.2.2,fun _ _=>g.2.2.1,g.1,g.2.1⟩⟩
 rw[e] at h;exact h
theorem OE (l:List ByteArray) (s:ByteArray) (hl:l.length≤1048576):∀(d n:Nat),n+d=l.length→∃r:Int,Ev (fun k=>dB.l0 k l s (l.length:Int) (n:Int)) r∧(0≤r↔∃j,n≤j∧j<l.length∧(yx l j).toList=s.toList):=by
 intro d
 induction d with
 |zero=>
  intro n hn;refine ⟨-1,aI ?_,⟨fun h=>by omega,fun ⟨j,h1,h2,_⟩=>by omega⟩⟩;simp only[dB.l0];exact xY (Ev.now _)
 |succ d ih=>
  intro n hn
  by_cases h:(yx l n).toList=s.toList
  ·refine ⟨(n:Int),aI ?_,⟨fun _=>⟨n,Nat.le_refl _,by omega,h⟩,fun _=>by omega⟩⟩;simp only[dB.l0];exact iU (iU (iU (av h.symm (Ev.now _))))
  ·obtain ⟨r,e,hr⟩:=ih (n+1) (by omega);refine ⟨r,aI ?_,hr.trans ⟨fun ⟨j,a,b,c⟩=>⟨j,by omega,b,c⟩,fun ⟨j,a,b,c⟩=>⟨j,?_,b,c⟩⟩⟩
   ·simp only[dB.l0];refine iU (iU (iU (aZ (fun z=>h z.symm) ?_)));rw[xg (x:=(n:Int)+1) (by omega) (by omega)];exact e
   ·by_cases e:j=n
    ·exact absurd (e ▸ c) h
    ·omega
theorem QS (l:List ByteArray) (s:ByteArray) (hl:l.length≤1048576):Ev (fun k=>eO.f k l s) (dec (Bj l l.length s)):=by
 unfold eO.f dB.f;obtain ⟨r,e,hr⟩:=OE l s hl l.length 0 (by omega);refine Ev.bind e (wF ?_)
 congr 1
 by_cases h:Bj l l.length s
 ·rw[gG h];obtain ⟨j,b,c⟩:=h;exact decide_eq_true (hr.2 ⟨j,Nat.zero_le _,b,c⟩)
 ·rw[dS h];exact decide_eq_false (fun z=>h (by obtain ⟨j,_,b,c⟩:=hr.1 z;exact ⟨j,b,c⟩))
theorem OG (c:UInt8) (l:List UInt8):strings_CutPrefix.f (bs l) (⟨#[c]⟩:ByteArray)=some (match l with|[]=>(bs [],false)|b::r=>if b=c then (bs r,true) else (bs (b::r),false)):=by
 have hp:stringslite_HasPrefix.f (bs l) (⟨#[c]⟩:ByteArray)=some (match l with|[]=>false|b::_=>b==c):=by
  unfold stringslite_HasPrefix.f;rw[show ((⟨#[c]⟩:ByteArray).size:Int)=1 from rfl,iw]
  cases l with
  |nil=>rfl
  |cons b l=>
   rw[if_pos (by rw[List.length_cons];omega),if_pos (by decide),if_pos (by rw[List.length_cons];omega),ByteArray.toList_eq,ByteArray.toList_eq,ByteArray.data_extract,Array.toList_extract,List.extract_eq_take_drop,oK]
   simp
 unfold strings_CutPrefix.f stringslite_CutPrefix.f;rw[hp]
 cases l with
 |nil=>rfl
 |cons b l=>
  simp only[Option.bind_some]
  by_cases h:b=c
  ·rw[if_pos (by simpa using h),if_pos h,show ((⟨#[c]⟩:ByteArray).size:Int)=1 from rfl,if_pos (by decide),if_pos (by rw[iw,List.length_cons];omega),Option.bind_some];rw[show ((1:Int).toNat)=1 from rfl,F4]
  ·rw[if_neg (by simpa using h),if_neg h,Option.bind_some]
theorem Bp {p:UInt8→Bool}:∀{l:List UInt8},l.dropWhile p=[]↔∀b ∈ l,p b=true
 |[]=>by simp
 |b::l=>by
  cases h:p b with
  |true=>rw[List.dropWhile_cons_of_pos h,Bp];simp [h]
  |false=>rw[List.dropWhile_cons_of_neg (by simp [h])];simp [h]
theorem PD (l cs:List UInt8):Lib.trimS l cs=[]↔∀b ∈ l,cs.contains b=true:=by
 unfold Lib.trimS Lib.trimLeftS Lib.trimRightS;rw[Bp]
 constructor
 ·intro h b hb
  have e:l.reverse.dropWhile (cs.contains ·)=[]:=by
   cases hd:l.reverse.dropWhile (cs.contains ·) with
   |nil=>rfl
   |cons c r=>
    exfalso
    have h1:=h c (by rw[hd];simp);have h2:=List.head?_dropWhile_not (cs.contains ·) l.reverse;rw[hd] at h2;simp only[List.head?_cons] at h2;rw[h1] at h2
    cases h2
  rw[Bp] at e;exact e b (List.mem_reverse.mpr hb)
 ·intro h b hb
  have:=(List.dropWhile_sublist (l:=l.reverse) (cs.contains ·)).subset (List.mem_reverse.mp hb)
  exact h b (List.mem_reverse.mp this)
theorem Dy (b:UInt8):([48,49,50,51,52,53,54,55,56,57]:List UInt8).contains b=true↔48≤b.toNat∧b.toNat≤57:=by
 constructor
 ·intro h;simp only[List.contains_cons,List.contains_nil,Bool.or_false,Bool.or_eq_true,beq_iff_eq] at h
  rcases h with rfl|rfl|rfl|rfl|rfl|rfl|rfl|rfl|rfl|rfl<;>decide
 ·rintro ⟨h0,h1⟩
  have:b=UInt8.ofNat b.toNat:=by simp
  generalize b.toNat=n at *;subst this
  have:n=48∨n=49∨n=50∨n=51∨n=52∨n=53∨n=54∨n=55∨n=56∨n=57:=by omega
  rcases this with rfl|rfl|rfl|rfl|rfl|rfl|rfl|rfl|rfl|rfl<;>decide
def tT (l:List UInt8):Prop:=∀b ∈ l,48≤b.toNat∧b.toNat≤57
theorem KP (l:List UInt8) (hl:l.length≤4294967280):eG.f (bs l)=some (dec (l≠ []∧tT l)):=by
 unfold eG.f;rw[ByteArray.toList_eq,oK]
 by_cases h:l=[]
 ·rw[if_pos h,dS (fun e=>e.1 h)]
 rw[if_neg h];unfold sV.f;rw[if_pos ⟨by rw[iw];omega,by decide,by decide⟩,Option.bind_some,oK]
 congr 1
 rw[ByteArray.toList_eq]
 show (Lib.trimS l [48,49,50,51,52,53,54,55,56,57]==[])=_
 by_cases hd:tT l
 ·rw[gG ⟨h,hd⟩,(PD _ _).mpr (fun b hb=>(Dy b).mpr (hd b hb))]
  rfl
 ·rw[dS (fun e=>hd e.2)]
  refine beq_eq_false_iff_ne.mpr fun e=>hd fun b hb=>(Dy b).mp ((PD _ _).mp e b hb)
theorem Es:∀{l:List UInt8} (acc:Nat),tT l→∃n,Lib.decFrom acc l=some n
 |[],acc,_=>⟨acc,rfl⟩
 |b::l,acc,h=>by
  rw[o9,Cz (h b (by simp)).1 (h b (by simp)).2,Option.bind_some];exact Es _ (fun c hc=>h c (by simp [hc]))
theorem YE:∀{l:List UInt8} {acc n:Nat},Lib.decFrom acc l=some n→l.foldl (fun n b=>10 * n+((b.toNat:Int) - 48)) (acc:Int)=(n:Int)
 |[],acc,n,h=>by cases h;rfl
 |b::l,acc,n,h=>by
  have hb:=AB h (b:=b) (by simp);rw[o9,Cz hb.1 hb.2,Option.bind_some] at h;rw[List.foldl_cons,show (10:Int) * (acc:Int)+((b.toNat:Int) - 48)=((acc * 10+(b.toNat - 48):Nat):Int) from by omega];exact YE h
theorem TG {w:List UInt8} (h0:w≠ []) (hd:tT w) (hz:¬(1<w.length∧w.head?=some 48)):∃u,JA w=some u∧Lib.decFrom 0 w=some u:=by
 obtain ⟨u,hu⟩:=Es 0 hd;refine ⟨u,?_,hu⟩
 have:=QD w.length w u rfl hu h0 (fun h e=>hz ⟨by omega,e⟩)
 rw[←this,Ho]
theorem TH {w:List UInt8} (h:¬(w≠ []∧tT w)∨(1<w.length∧w.head?=some 48)):JA w=none:=by
 cases e:JA w with
 |none=>rfl
 |some u=>
  exfalso
  have hw:=BM e
  rcases h with h|h
  ·refine h ⟨fun e0=>zy u (hw.trans e0),fun b hb=>?_⟩;rw[←hw] at hb;exact qF hb
  ·by_cases hu:10≤u
   ·have:=MJ u hu
    rw[hw] at this;exact this h.2
   ·have:=congrArg List.length hw
    rw[Lib.decDigits_length,Lib.nDigits_small (by omega)] at this
    omega
theorem F_ (b:Nat):∀{l:List UInt8} {a v:Nat},Lib.decFrom a l=some v→Lib.decFrom (a+b) l=some (v+b * 10 ^ l.length)
 |[],a,v,h=>by cases h;simp [Lib.decFrom]
 |c::l,a,v,h=>by
  rw[o9] at h ⊢;obtain ⟨d,hd,h⟩:=Option.bind_eq_some_iff.mp h;rw[hd,Option.bind_some,show (a+b) * 10+d=(a * 10+d)+b * 10 from by omega,F_ (b * 10) h,List.length_cons,Nat.pow_succ,Nat.mul_assoc,Nat.mul_comm 10]
theorem apU (w p:List UInt8) (hp:p.length≤3):ay.all (bs w) (bs p)=bs (w++(p++List.replicate (3 - p.length) 48)):=by
 unfold ay.all;rw[pF,show (⟨#[48,48,48]⟩:ByteArray).extract (bs p).size 3=bs (List.replicate (3 - p.length) 48) from ?_,pF,List.append_assoc];rw[iw];apply Jw;rw[ByteArray.data_extract,Array.toList_extract,List.extract_eq_take_drop,oK]
 match h:p.length,hp with
 |0,_=>rfl
 |1,_=>rfl
 |2,_=>rfl
 |3,_=>rfl
theorem YF (neg:Bool) (w p:List UInt8) (u:Nat) (hw:JA w=some u) (hu:Lib.decFrom 0 w=some u) (hwd:tT w) (hp:p.length≤3) (hpd:tT p):
  ay.fin neg (bs w) (bs p)=some (vG neg ((Lib.decFrom 0 (p++List.replicate (3 - p.length) 48)).map fun v=>1000 * u+v)):=by
 have hz:tT (p++List.replicate (3 - p.length) 48):=by
  intro b hb
  rcases List.mem_append.mp hb with h|h
  ·exact hpd b h
  ·rw[(List.mem_replicate.mp h).2];decide
 obtain ⟨v,hv⟩:=Es 0 hz
 have hl:(p++List.replicate (3 - p.length) 48).length=3:=by rw[List.length_append,List.length_replicate];omega
 have hall:Lib.decFrom 0 (w++(p++List.replicate (3 - p.length) 48))=some (1000 * u+v):=by
  rw[wH,hu,Option.bind_some]
  have:=F_ u hv
  rw[Nat.zero_add,hl] at this;rw[this,show v+u * 10 ^ 3=1000 * u+v from by omega]
 rw[hv,Option.map_some];unfold ay.fin;rw[iw]
 by_cases h10:w.length≤10
 ·have hA:(w++(p++List.replicate (3 - p.length) 48)).all ay.dg=true:=by
   refine List.all_eq_true.mpr fun b hb=>decide_eq_true ?_
   rcases List.mem_append.mp hb with h|h
   ·exact hwd b h
   ·exact hz b h
  rw[if_pos h10,iw,apU w p hp,oK,if_pos ⟨hp,hA⟩]
  ·have hval:ay.val (w++(p++List.replicate (3 - p.length) 48))=((1000 * u+v:Nat):Int):=by
    unfold ay.val;exact YE (acc:=0) hall
   rw[hval];unfold eP.f;rw[xA,Option.bind_some,Option.bind_some,zz]
   by_cases h:1000 * u+v≤2147483647
   ·rw[if_pos (decide_eq_true (by omega)),if_pos h]
   ·rw[if_neg (by simp;omega),if_neg h]
 ·rw[if_neg h10,zz,if_neg];intro hb;have h1:=congrArg List.length (BM hw);rw[Lib.decDigits_length] at h1;have h2:=zV 9 u (by omega)
  omega
theorem M6 (neg:Bool) (l:List UInt8) (hl:l.length≤4294967280):((strings_Cut.f (bs l) (⟨#[46]⟩:ByteArray)).bind fun u=>(eG.f u.1).bind fun b1=>(if b1=true then (if 1<u.1.size∧bt u.1 0=48 then some (0,false) else (if u.2.2=true then (eG.f u.2.1).bind fun b2=>(if b2=true then (if u.2.1.size≤3 then ay.fin neg u.1 u.2.1 else some (0,false)) else some (0,false)) else ay.fin neg u.1 u.2.1)) else some (0,false)))=some (uM neg l):=by
 have hc:strings_Cut.f (bs l) (⟨#[46]⟩:ByteArray)=some (bs (cutAt 46 l).1,bs ((cutAt 46 l).2.getD []),(cutAt 46 l).2.isSome):=by
  unfold strings_Cut.f;rw[if_pos (by rw[iw];omega)]
  show some (bs (Lib.cut l [46]).1,bs (Lib.cut l [46]).2.1,(Lib.cut l [46]).2.2)=_
  rw[aa8]
 rw[hc,Option.bind_some];unfold uM MQ;have hlen:=CG 46 l;generalize cutAt 46 l=c at hlen ⊢;obtain ⟨w,q⟩:=c;simp only at hlen ⊢;rw[KP w (by omega),Option.bind_some]
 by_cases hw:w≠ []∧tT w
 ·rw[if_pos (gG hw)]
  have hb:(1<(bs w).size∧bt (bs w) 0=48)↔(1<w.length∧w.head?=some 48):=by
   rw[iw]
   cases w with
   |nil=>simp
   |cons b w=>
    have hb0:bt (bs (b::w)) 0=(b.toNat:Int):=Gz (n:=0) rfl;rw[hb0,List.head?_cons,Option.some.injEq]
    exact and_congr_right fun _=>vw (n:=48) (by decide)
  by_cases hz:1<w.length∧w.head?=some 48
  ·rw[if_pos (hb.mpr hz),TH (Or.inr hz)]
   rfl
  ·rw[if_neg (fun e=>hz (hb.mp e))];obtain ⟨u,hu,hu2⟩:=TG hw.1 hw.2 hz;rw[hu,Option.bind_some]
   cases q with
   |none=>
    rw[if_neg (by simp)];rw[show bs ((none:Option (List UInt8)).getD [])=bs [] from rfl,YF neg w [] u hu hu2 hw.2 (by simp) (fun b hb=>by simp at hb)]
    congr 2
   |some p=>
    simp only[CB] at hlen;rw[if_pos (show (some p).isSome=true from rfl),show (some p).getD []=p from rfl,KP p (by omega),Option.bind_some]
    by_cases hp:p≠ []∧tT p
    ·rw[if_pos (gG hp),iw];have hp1:=List.length_pos_iff.mpr hp.1
     by_cases h3:p.length≤3
     ·rw[if_pos h3,YF neg w p u hu hu2 hw.2 h3 hp.2];simp only[GG];rw[if_pos ⟨hp1,h3⟩]
     ·rw[if_neg h3];simp only[GG];rw[if_neg (fun e=>h3 e.2)]
      rfl
    ·rw[if_neg (by rw[dS hp];simp)]
     have:GG (some p)=none:=by
      simp only[GG]
      by_cases h:1≤p.length∧p.length≤3
      ·rw[if_pos h]
       cases e:Lib.decFrom 0 (p++List.replicate (3 - p.length) 48) with
       |none=>rfl
       |some v=>
        refine absurd ⟨List.length_pos_iff.mp h.1,fun b hb=>AB e (by simp [hb])⟩ hp
      ·rw[if_neg h]
     rw[this]
     rfl
 ·rw[if_neg (by rw[dS hw];simp),TH (Or.inl hw)]
  rfl
theorem OH (s:ByteArray) (hs:s.size≤4294967280):ay.f s=some (nJ s.data.toList):=by
 have hl:s.data.toList.length=s.size:=iA ..;unfold ay.f;rw[←Ha s,OG,oK,Option.bind_some]
 cases h:s.data.toList with
 |nil=>exact M6 false [] (by simp)
 |cons b l=>
  rw[h,List.length_cons] at hl;rw[CL];simp only
  by_cases hb:b=45
  ·rw[if_pos hb,if_pos hb];exact M6 true l (by omega)
  ·rw[if_neg hb,if_neg hb];exact M6 false (b::l) (by rw[List.length_cons];omega)
theorem TI:∀l:List UInt8,Lib.indexAny l [44,34,10,13]=if (gU l).2=[] then -1 else ((gU l).1.length:Int)
 |[]=>rfl
 |b::l=>by
  have ih:=TI l
  have hc:([44,34,10,13]:List UInt8).contains b=wG b:=by
   unfold wG;simp only[List.contains_cons,List.contains_nil,Bool.or_false];rw[Bool.or_assoc,Bool.or_assoc]
  unfold Lib.indexAny;unfold gU at ih ⊢;rw[hc]
  cases hs:wG b with
  |true=>
   rw[List.takeWhile_cons_of_neg (by simp [hs]),List.dropWhile_cons_of_neg (by simp [hs])]
   simp
  |false=>
   rw[List.takeWhile_cons_of_pos (by simp [hs]),List.dropWhile_cons_of_pos (by simp [hs]),ih]
   by_cases he:l.dropWhile (fun b=> !wG b)=[]
   ·simp [he]
   ·simp only[if_neg he];rw[if_neg (by simp),if_neg (by simp),List.length_cons]
    push_cast
    rfl
theorem OI (s:ByteArray) (hs:s.size≤4000):∀(m:Nat) (l x:List UInt8),l.length≤m→l<:+s.data.toList→x.length+l.length≤4000→
  Ev (fun k=>af.l0 k (nm x) s (pz s l)) ((yZ l).elim ((⟨#[]⟩:ByteArray),false,s,(s.size:Int)) (fun p=>(bs (x++p.1),true,s,pz s p.2))):=by
 intro m
 induction m with
 |zero=>
  intro l x hl ht hx;obtain rfl:=List.length_eq_zero_iff.mp (Nat.le_zero.mp hl);refine aI ?_;simp only[af.l0];refine aZ (by rw[oV];exact Int.lt_irrefl _) (fu (Ev.now _) ?_);rw[oV]
  rfl
 |succ m ih=>
  intro l x hl ht hx
  cases l with
  |nil=>
   refine aI ?_;simp only[af.l0];refine aZ (by rw[oV];exact Int.lt_irrefl _) (fu (Ev.now _) ?_);rw[oV]
   rfl
  |cons b l=>
   rw[List.length_cons] at hl hx;refine aI ?_;simp only[af.l0];refine av vX (av (pY ht) ?_);simp only[Az ht,QF hs ht];unfold yZ;have ht1:=rZ ht
   by_cases hb:b=34
   ·subst hb;refine av rfl ?_;rw[if_pos rfl]
    cases l with
    |nil=>
     refine av (oV s) (fu (Ev.now _) ?_);rw[mY]
     simp
    |cons c l=>
     rw[List.length_cons] at hl hx;refine aZ (by have:=@vX s c l;omega) (av (pY ht1) (av vX ?_));simp only[Az ht1,QF hs ht1]
     by_cases hc:c=34
     ·subst hc;refine av rfl (av (by rw[nN];omega) ?_);rw[show nm x++ [34]=nm (x++ [34]) from Hy x 34];refine fu (ih l (x++ [34]) (by omega) (rZ ht1) (by rw[List.length_append,List.length_singleton];omega)) ?_;simp only[if_true]
      cases yZ l with
      |none=>rfl
      |some p=>simp
     ·refine aZ (fun e=>hc ((vw (n:=34) (by decide)).mp e)) (fu (Ev.now _) ?_);rw[if_neg hc,mY]
      simp
   ·refine aZ (fun e=>hb ((vw (n:=34) (by decide)).mp e)) (av (by rw[nN];omega) ?_);rw[Hy,if_neg hb];refine fu (ih l (x++ [b]) (by omega) ht1 (by rw[List.length_append,List.length_singleton];omega)) ?_
    cases yZ l with
    |none=>rfl
    |some p=>simp
theorem TJ (l:List UInt8):(gU l).1++(gU l).2=l:=List.takeWhile_append_dropWhile ..
theorem KQ (s:ByteArray) (hs:s.size≤4000) (l:List UInt8) (ht:l<:+s.data.toList):aK.f s (pz s l)=some (bs (gU l).1,s,pz s (gU l).2):=by
 have h0:=pY ht;have h1:=Hl s l;have hl:=yz ht;have hp:=Dx l
 have cut:∀e:Int,e=pz s (gU l).2→s.extract (pz s l).toNat e.toNat=bs (gU l).1:=by
  intro e he;refine Jw ?_;rw[ByteArray.data_extract,Array.toList_extract,List.extract_eq_take_drop,oK,MP ht];rw[show e.toNat - (pz s l).toNat=(gU l).1.length from by subst he;unfold pz at h0 ⊢;omega]
  have:=congrArg (List.take (gU l).1.length) (TJ l)
  rw[List.take_left] at this;exact this.symm
 unfold aK.f;rw[if_pos h0,if_pos h1,acV ht];unfold strings_IndexAny.f;rw[if_pos ⟨by rw[iw];omega,rfl⟩,Option.bind_some,oK,TI]
 by_cases he:(gU l).2=[]
 ·have e1:wrap64 ((s.size:Int) - pz s l)=(s.size:Int) - pz s l:=wO
  have e2:wrap64 (pz s l+((s.size:Int) - pz s l))=(s.size:Int):=by rw[wO];omega
  rw[if_pos he,if_pos (by decide),e1,e2,if_pos h1,if_pos (Int.le_refl _),cut _ (by rw[he,oV]),he,oV]
 ·have e2:wrap64 (pz s l+((gU l).1.length:Int))=pz s (gU l).2:=by
   rw[xg (by unfold pz;omega) (by unfold pz;omega)];unfold pz
   omega
  rw[if_neg he,if_neg (by omega),e2,if_pos (by unfold pz;omega),if_pos (Hl _ _),cut _ rfl]
def WC (s:ByteArray) (l:List UInt8):Int × ByteArray × Int:=(kU l).elim (3,s,pz s l) (fun p=>(if p.1=true then 2 else 1,s,pz s p.2))
theorem aiD (l:List UInt8):strings_HasPrefix.f (bs l) (⟨#[13,10]⟩:ByteArray)=some (l.take 2==[13,10]):=by
 unfold strings_HasPrefix.f stringslite_HasPrefix.f;have e2:((⟨#[13,10]⟩:ByteArray).size:Int)=2:=rfl;rw[e2,iw]
 by_cases h:(l.length:Int)≥2
 ·rw[if_pos h,if_pos (by decide),if_pos h,Option.bind_some,ByteArray.toList_eq,ByteArray.toList_eq,ByteArray.data_extract,Array.toList_extract,List.extract_eq_take_drop,oK]
  rfl
 ·rw[if_neg h,Option.bind_some]
  match l,h with
  |[],_=>rfl
  |[a],_=>simp
  |a::b::l,h=>simp at h;omega
theorem TK (s:ByteArray) (hs:s.size≤4000) (l:List UInt8) (ht:l<:+s.data.toList):jZ.f s (pz s l)=some (WC s l):=by
 have h0:=pY ht;have h1:=Hl s l;unfold jZ.f;rw[if_pos h0,if_pos h1,acV ht,ByteArray.toList_eq,oK]
 cases l with
 |nil=>rfl
 |cons b l=>
  have hb0:bt (bs (b::l)) 0=(b.toNat:Int):=Gz (n:=0) rfl;rw[if_neg (by simp),if_pos (by rw[iw,List.length_cons];omega),hb0];unfold WC kU;simp only
  by_cases h1:b=44
  ·rw[if_pos (by rw[h1];rfl),if_pos h1,QF hs ht]
   rfl
  rw[if_neg (show ¬((b.toNat:Int)=44) from fun e=>h1 ((vw (n:=44) (by decide)).mp e)),if_neg h1]
  by_cases h2:b=10
  ·rw[if_pos (by rw[h2];rfl),if_pos h2,QF hs ht]
   rfl
  rw[if_neg (show ¬((b.toNat:Int)=10) from fun e=>h2 ((vw (n:=10) (by decide)).mp e)),if_neg h2,aiD,Option.bind_some]
  by_cases h3:b=13
  ·rw[if_pos h3];subst h3
   cases l with
   |nil=>rfl
   |cons c l=>
    simp only
    by_cases h4:c=10
    ·rw[if_pos h4,if_pos (by rw[h4];rfl),acU hs ht]
     rfl
    ·rw[if_neg h4,if_neg (by simp [h4])]
     rfl
  ·rw[if_neg h3,if_neg (by cases l<;>simp [h3])]
   rfl
theorem WE (s:ByteArray) (hs:s.size≤4000):∀(K:Nat) (l:List UInt8) (rows:List (List ByteArray)) (row:List ByteArray),l<:+s.data.toList→rX l row<K→rows.length+row.length+rX l row≤9000→
  Ev (fun k=>bZ.l0 k s rows row s (pz s l)) (pu K l rows row):=by
 intro K
 induction K with
 |zero=>intro l rows row _ h _;omega
 |succ K ih=>
  intro l rows row ht hK hb
  have key:∀(f l1:List UInt8) (q:Option (List UInt8 × List UInt8)),¬(l=[]∧row=[])→q=lX l→q=some (f,l1)→Ev (fun k=>bZ.j3 k s rows row (bs f) true s (pz s l1)) (pu (K+1) l rows row):=by
   intro f l1 q hr hq e;rw[hq] at e;have ht1:=(FY e).trans ht;refine aI ?_;simp only[bZ.j3];refine av (by first|rfl|trivial) (iU ?_);simp only[Option.bind_some,TK s hs l1 ht1];unfold pu;rw[if_neg hr,e];simp only;unfold WC
   cases ha:kU l1 with
   |none=>exact av rfl (Ev.now _)
   |some p=>
    obtain ⟨z,l2⟩:=p
    cases z with
    |false=>
     have a:=Cv (row:=row) (x:=bs f) e ha;refine aZ (by simp) (aZ (by simp) ?_);exact ih l2 rows (row++ [bs f]) ((x_ ha).trans ht1) (by omega) (by rw[List.length_append,List.length_singleton];omega)
    |true=>
     have a:=Ef hr e ha;refine aZ (by simp) (av (by simp) (iU ?_));exact ih l2 (rows++ [row++ [bs f]]) [] ((x_ ha).trans ht1) (by omega) (by rw[List.length_append,List.length_singleton,List.length_nil];omega)
  have two:∀b l',l=b::l'→Ev (fun k=>bZ.j1 k s rows row true s (pz s l)) (pu (K+1) l rows row):=by
   intro b l' e;subst e;refine aI ?_;simp only[bZ.j1];refine av (by first|rfl|trivial) (av vX (av (pY ht) (aI ?_)));simp only[bZ.j2,Az ht]
   by_cases hq:b=34
   ·refine av (by rw[hq];rfl) ?_
    have hQ:Ev (fun k=>af.f k s (pz s (b::l'))) ((yZ l').elim ((⟨#[]⟩:ByteArray),false,s,(s.size:Int)) (fun p=>(bs ([]++p.1),true,s,pz s p.2))):=by
     unfold af.f;rw[QF hs ht];exact OI s hs l'.length l' [] (Nat.le_refl _) (rZ ht) (by have:=yz ht;rw[List.length_cons] at this;rw[List.length_nil];omega)
    refine hQ.bind ?_
    have ef:lX (b::l')=yZ l':=by unfold lX;simp only;rw[if_pos hq]
    cases e:yZ l' with
    |none=>
     refine aI ?_;simp only[bZ.j3,Option.elim];refine aZ (by simp) (fu (Ev.now _) ?_);unfold pu;rw[if_neg (by simp),ef,e]
    |some p=>exact key p.1 p.2 _ (by simp) rfl (by rw[ef,e])
   ·refine aZ (fun e=>hq ((vw (n:=34) (by decide)).mp (eq_of_beq e))) ?_;simp only[KQ s hs _ ht,Option.bind_some];exact key _ _ _ (by simp) rfl (by unfold lX;simp only;rw[if_neg hq])
  refine aI ?_;simp only[bZ.l0]
  cases l with
  |cons b l'=>exact av vX (two b l' rfl)
  |nil=>
   refine aZ (by rw[oV];exact Int.lt_irrefl _) (aI ?_);simp only[bZ.j1]
   by_cases hr:row=[]
   ·subst hr;refine aZ (by simp) (fu (Ev.now _) ?_);unfold pu;rw[if_pos ⟨rfl,rfl⟩]
   ·have h1:0<row.length:=List.length_pos_iff.mpr hr;refine av (by simp;omega) (aZ (by rw[oV];exact Int.lt_irrefl _) (aI ?_));simp only[bZ.j2];refine aZ (by simp) ?_;simp only[KQ s hs _ ht,Option.bind_some];exact key [] [] _ (fun h=>hr h.2) rfl rfl
theorem OJ (s:ByteArray):Ev (fun k=>bZ.f k s) (mh s):=by
 unfold bZ.f mh
 by_cases h:s.size>4000
 ·rw[if_pos h];exact iU (Ev.now _)
 ·rw[if_neg h];refine xY ?_;have hl:s.data.toList.length=s.size:=iA ..
  have:=WE s (by omega) (2 * s.size+2) s.data.toList [] [] (List.suffix_refl _) (by unfold rX;rw[if_pos rfl];omega) (by unfold rX;rw[if_pos rfl];simp;omega)
  rwa [QE] at this
theorem WF (n i:Nat) (rows:List (List ByteArray)) (row:List ByteArray) (X:List (List Int)) (hlen:row.length≤1000) (hs:∀x ∈ row,x.size≤4000) (hX:X.length≤1000) (hi:i≤1000000)
  (res:List Int→List (List Int) × Int × Int × Int) (hres:∀v,v.length=row.length→Ev (fun k=>fB.l0 k (n:Int) (X++ [v]) rows (rows.length:Int) (wrap64 ((i:Int)+1))) (res v)):
  ∀(l:List ByteArray) (acc:List Int) (j:Nat),row.drop j=l→j+l.length=row.length→acc.length=j→Ev (fun k=>fB.l1 k (n:Int) X (i:Int) acc rows (rows.length:Int) (i:Int) row (row.length:Int) (j:Int)) (match (vQ l j).2 with|none=>res (acc++(vQ l j).1)|some c=>([],9,((i+1:Nat):Int),(c:Int))):=by
 intro l
 induction l with
 |nil=>
  intro acc j hd hj ha;rw[List.length_nil] at hj;refine aI (Ev.congr (fun k=>by rw[fB.l1]) ?_);refine xY (iU ?_);rw[show vQ [] j=([],none) from rfl];simp only[List.append_nil];exact hres acc (by omega)
 |cons x l ih=>
  intro acc j hd hj ha;rw[List.length_cons] at hj
  have hx:row[j]?=some x:=by
   rw[←List.head?_drop,hd]
   rfl
  have hr:jg ByteArray.empty row (j:Int)=x:=by rw[BK,List.getD_eq_getElem?_getD,hx];rfl
  have hxs:=hs x (List.mem_of_getElem? hx);refine aI (Ev.congr (fun k=>by rw[fB.l1]) ?_);refine iU (iU (iU ?_));rw[hr];refine (wF (OH x (by omega))).bind ?_;rw[JD]
  by_cases h:(nJ x.data.toList).2=true
  ·refine av h (iU ?_);rw[if_pos h,Bo (by omega)]
   have:=ih (acc++ [(nJ x.data.toList).1]) (j+1) (by rw[←List.drop_drop,hd];rfl) (by omega) (by rw[List.length_append,List.length_singleton];omega)
   simp only;rw[List.append_assoc] at this;exact this
  ·rw[if_neg h];refine aZ h (fu (Ev.now _) ?_);rw[Bo (by omega)]
theorem TL (n:Nat) (rows:List (List ByteArray)) (hrows:rows.length≤1000) (hn:n≤1000) (hs:∀r ∈ rows,∀x ∈ r,x.size≤4000):
  ∀(l:List (List ByteArray)) (i:Nat) (acc:List (List Int)),rows.drop i=l→i+l.length=rows.length→acc.length≤i→Ev (fun k=>fB.l0 k (n:Int) acc rows (rows.length:Int) (i:Int)) (r9 n l (i+1) acc):=by
 intro l
 induction l with
 |nil=>
  intro i acc hd hj ha;rw[List.length_nil] at hj;refine aI (Ev.congr (fun k=>by rw[fB.l0]) ?_);exact xY (Ev.now _)
 |cons row l ih=>
  intro i acc hd hj ha;rw[List.length_cons] at hj
  have hx:rows[i]?=some row:=by
   rw[←List.head?_drop,hd]
   rfl
  have hr:aN rows (i:Int)=row:=by unfold aN;rw[List.getD_eq_getElem?_getD,Int.toNat_natCast,hx];rfl
  refine aI (Ev.congr (fun k=>by rw[fB.l0]) ?_);refine iU (iU (iU ?_));rw[hr,zW]
  by_cases h:row.length=n
  ·rw[if_pos h];refine iU ?_
   have go:=WF n i rows row acc (by omega) (hs row (List.mem_of_getElem? hx)) (by omega) (by omega) (fun v=>r9 n l (i+1+1) (acc++ [v])) (fun v hv=>by
    rw[Bo (by omega)]
    exact ih (i+1) (acc++ [v]) (by rw[←List.drop_drop,hd];rfl) (by omega) (by rw[List.length_append,List.length_singleton];omega)) row [] 0 rfl (by omega) rfl
   exact go
  ·rw[if_neg h];refine xY (fu (Ev.now _) ?_);rw[Bo (by omega)]
theorem QT (names:List ByteArray) (rest:List (List ByteArray)) (n:Nat) (hrows:rest.length≤1000) (hn:n≤1000) (hs:∀r ∈ rest,∀x ∈ r,x.size≤4000):Ev (fun k=>fB.f k (names::rest) (n:Int)) (r9 n rest 1 []):=by
 refine Ev.congr (fun k=>by rw[fB.f]) ?_;refine av (by rw[List.length_cons];omega) ?_;refine (Ev.now ((names::rest).drop 1)).bind ?_;exact TL n rest hrows hn hs rest 0 [] rfl (by omega) (by simp)
theorem PE (n:Nat):∀(rows:List (List ByteArray)) (i:Nat) (acc:List (List Int)),(∀v ∈ acc,v.length=n)→(r9 n rows i acc).2.1=0→(∀v ∈ (r9 n rows i acc).1,v.length=n)∧(r9 n rows i acc).1.length=acc.length+rows.length
 |[],_,_,ha,_=>⟨ha,by simp [r9]⟩
 |row::r,i,acc,ha,h=>by
  rw[zW] at h ⊢
  by_cases hn:row.length=n
  ·rw[if_pos hn] at h ⊢
   cases e:(vQ row 0).2 with
   |none=>
    rw[e] at h
    have:=PE n r (i+1) (acc++ [(vQ row 0).1]) (by
     intro v hv
     rcases List.mem_append.mp hv with hm|hm
     ·exact ha v hm
     ·rw[List.mem_singleton.mp hm,Ei row 0 e,hn]) h
    refine ⟨this.1,?_⟩
    show (r9 n r (i+1) (acc++ [(vQ row 0).1])).1.length=_
    have h2:=this.2;rw[List.length_append,List.length_singleton] at h2;rw[List.length_cons]
    omega
   |some k=>rw[e] at h;simp at h
  ·rw[if_neg hn] at h;simp at h
theorem WG (m:Nat) (nums:List (List Int)) (N:List ByteArray) (T:ByteArray) (hm:m≤100) (hn:nums.length≤1000) (hv:∀v ∈ nums,v.length=m+1):
  ∀(l:List (List Int)) (i:Nat) (R:List (List Int)) (Y:List Int),nums.drop i=l→i+l.length=nums.length→R.length=i→Y.length=i→Ev (fun k=>bn.l1 k (m:Int) nums (nums.length:Int) (i:Int) N T R Y) (N,T,R++l.map (fun x=>x.take m),Y++l.map (fun x=>rd x (m:Int)),0,0,0):=by
 intro l
 induction l with
 |nil=>
  intro i R Y hd hj hR hY;rw[List.length_nil] at hj;refine aI (Ev.congr (fun k=>by rw[bn.l1]) ?_);refine xY (fu (Ev.now _) ?_)
  simp
 |cons v l ih=>
  intro i R Y hd hj hR hY;rw[List.length_cons] at hj
  have hx:nums[i]?=some v:=by
   rw[←List.head?_drop,hd]
   rfl
  have hr:gP nums (i:Int)=v:=by unfold gP;rw[List.getD_eq_getElem?_getD,Int.toNat_natCast,hx];rfl
  have hvl:=hv v (List.mem_of_getElem? hx);refine aI (Ev.congr (fun k=>by rw[bn.l1]) ?_);refine iU (iU (iU (iU ?_)));rw[hr];refine iU ?_;rw[Int.toNat_natCast]
  have hc:kM.f (v.take m)=some (v.take m):=by
   unfold kM.f;rw[if_pos (by rw[List.length_take];omega)]
  refine (wF hc).bind ?_;refine (Ev.now [v.take m]).bind ?_;refine av (by rw[List.length_singleton];omega) (iU ?_);refine (Ev.now [rd v (m:Int)]).bind ?_;refine av (by rw[List.length_singleton];omega) ?_;rw[Bo (by omega)]
  have:=ih (i+1) (R++ [v.take m]) (Y++ [rd v (m:Int)]) (by rw[←List.drop_drop,hd];rfl) (by omega) (by rw[List.length_append,List.length_singleton];omega) (by rw[List.length_append,List.length_singleton];omega)
  refine fu this ?_
  simp
theorem QU {a b c:Int} (h:a=0→(a,b,c)=(0,0,0)):((!(a==0)||(!(b==0)||(!(c==0))))=true)↔¬a=0:=by
 by_cases ha:a=0
 ·have:=h ha
  simp only[Prod.mk.injEq] at this
  simp [this]
 ·simp [ha]
theorem WH (rows:List (List ByteArray)) (l:List ByteArray) (hl:l.length≤1000000) (hs:∀x ∈ l,x.size≤4000) (out:Lj) (hout:Ev (fun k=>bn.l0 k rows l l (l.length:Int) (l.length:Int)) out):∀(d n:Nat),n+d=l.length→Ev (fun k=>bn.l0 k rows l l (l.length:Int) (n:Int)) (match p_ l d n with|none=>out|some p=>Ll p.1 0 p.2):=by
 intro d
 induction d with
 |zero=>
  intro n hn
  obtain rfl:n=l.length:=by omega
  exact hout
 |succ d ih=>
  intro n hn;refine aI (Ev.congr (fun k=>by rw[bn.l0]) ?_);refine iU (iU (iU ?_));have hsz:=BL hs n;refine (GH (yx l n) (by omega)).bind ?_;unfold p_
  by_cases h:rz (yx l n)
  ·rw[if_pos h];refine av (gG h) (iU ?_);rw[Int.toNat_natCast];refine (QS (l.take n) (yx l n) (by rw[List.length_take];omega)).bind ?_;rw[jU (xy l (by omega) (yx l n))]
   by_cases hh:Bj l n (yx l n)
   ·rw[if_pos hh];exact av (gG hh) (Ev.now _)
   ·rw[if_neg hh];refine aZ (by rw[dS hh];decide) ?_;rw[Bo (by omega)];exact ih (n+1) (by omega)
  ·rw[if_neg h];exact aZ (by rw[dS h];decide) (Ev.now _)
theorem Dz (s:ByteArray):Ev (fun k=>bn.f k s) (oL s):=by
 refine Ev.congr (fun k=>by rw[bn.f]) ?_;refine (OJ s).bind ?_;have hsz:=F5 s;have hcnt:=Em s;have hf:=@F6 s;unfold oL
 by_cases h0:(mh s).2.1=0
 ·rw[if_pos h0];refine aZ (fun e=>(QU (fun _=>hf h0)).mp e h0) ?_
  cases hc:(mh s).1 with
  |nil=>exact av rfl (Ev.now _)
  |cons names rest=>
   rw[hc] at hsz;rw[hc,List.length_cons] at hcnt;have hns:=hsz names (by simp);have hN:=hcnt.2 names (by simp);refine aZ (by rw[List.length_cons];omega) (av (by rw[List.length_cons];omega) ?_);rw[show aN (names::rest) 0=names from rfl];refine (wF (xA (names.length:Int) 2 5)).bind ?_;simp only;unfold Fb
   by_cases h25:2≤names.length∧names.length≤5
   ·rw[if_pos h25];refine av (decide_eq_true (by omega)) ?_;refine fu (WH (names::rest) names (by omega) hns (if 1≤rest.length∧rest.length≤40 then MR names (r9 names.length rest 1 []) else Ll 8 0 0) ?_ names.length 0 (by omega)) (by cases p_ names names.length 0<;>rfl);refine aI (Ev.congr (fun k=>by rw[bn.l0]) ?_);refine xY ?_;rw[show wrap64 (((names::rest).length:Int) - 1)=(rest.length:Int) from by rw[List.length_cons,wO];omega];refine (wF (xA (rest.length:Int) 1 40)).bind ?_
    by_cases hr:1≤rest.length∧rest.length≤40
    ·rw[if_pos hr];refine av (decide_eq_true (by omega)) ?_;refine (QT names rest names.length (by omega) (by omega) (fun r hr=>hsz r (by simp [hr]))).bind ?_;unfold MR
     by_cases hz:(r9 names.length rest 1 []).2.1=0
     ·rw[if_pos hz];have hzz:=KH _ _ _ _ hz;refine aZ (fun e=>(QU (fun _=>hzz)).mp e hz) ?_
      have e1:wrap64 ((names.length:Int) - 1)=((names.length - 1:Nat):Int):=by rw[wO];omega
      rw[e1];refine iU (iU ?_);rw[Int.toNat_natCast]
      have hcl:aT.f (names.take (names.length - 1))=some (names.take (names.length - 1)):=by
       unfold aT.f;rw[if_pos (by rw[List.length_take];omega)]
      refine (wF hcl).bind (iU ?_);have hlen:=PE names.length rest 1 [] (fun v hv=>by cases hv) hz;have go:=WG (names.length - 1) (r9 names.length rest 1 []).1 (names.take (names.length - 1)) (yx names (names.length - 1)) (by omega) (by rw[hlen.2,List.length_nil];omega) (by intro v hv;rw[hlen.1 v hv];omega) (r9 names.length rest 1 []).1 0 [] [] rfl (by omega) rfl rfl;exact go
     ·rw[if_neg hz];exact av ((QU (fun h=>absurd h hz)).mpr hz) (Ev.now _)
    ·rw[if_neg hr];exact aZ (by simp;omega) (Ev.now _)
   ·rw[if_neg h25];exact aZ (by simp;omega) (Ev.now _)
 ·rw[if_neg h0];exact av ((QU (fun h=>absurd h h0)).mpr h0) (Ev.now _)
theorem QV (x:Int):eP.f x=some (decide (-2147483647≤x∧x≤2147483647)):=by
 unfold eP.f;rw[xA];rfl
theorem abk (l:List Int) (hl:l.length≤1048576):∀(d n:Nat),n+d=l.length→∃r:Int,Ev (fun k=>bv.l0 k l (l.length:Int) (n:Int)) r∧(0≤r↔∃j,n≤j∧j<l.length∧¬pX (rd l (j:Int))):=by
 intro d
 induction d with
 |zero=>
  intro n hn;refine ⟨-1,aI ?_,⟨fun h=>by omega,fun ⟨j,h1,h2,_⟩=>by omega⟩⟩;simp only[bv.l0];exact xY (Ev.now _)
 |succ d ih=>
  intro n hn;have hw:wrap64 ((n:Int)+1)=((n+1:Nat):Int):=wO
  by_cases h:pX (rd l (n:Int))
  ·obtain ⟨r,e,hr⟩:=ih (n+1) (by omega);refine ⟨r,aI ?_,hr.trans ⟨fun ⟨j,h1,h2,h3⟩=>⟨j,by omega,h2,h3⟩,fun ⟨j,h1,h2,h3⟩=>⟨j,?_,h2,h3⟩⟩⟩
   ·simp only[bv.l0,kw.f,QV,Option.bind_some,hw];exact iU (iU (iU (aZ (by simpa [pX] using h) e)))
   ·by_cases c:j=n
    ·subst c;exact absurd h h3
    ·omega
  ·refine ⟨(n:Int),aI ?_,⟨fun _=>⟨n,by omega,by omega,h⟩,fun _=>by omega⟩⟩;simp only[bv.l0,kw.f,QV,Option.bind_some];exact iU (iU (iU (av (by unfold pX at h;simp;omega) (Ev.now _))))
theorem WI (l:List Int) (hl:l.length≤1048576):Ev (fun k=>jV.f k l) (dec (∀j:Nat,j<l.length→pX (rd l (j:Int)))):=by
 unfold jV.f iH.f bv.f;obtain ⟨r,e,hr⟩:=abk l hl l.length 0 (by omega);refine Ev.bind (Ev.bind e (Ev.now _)) (wF ?_)
 congr 1
 by_cases h:∀j:Nat,j<l.length→pX (rd l (j:Int))
 ·rw[gG h]
  have:¬0≤r:=fun z=>by obtain ⟨j,_,h2,h3⟩:=hr.1 z;exact h3 (h j h2)
  simp;omega
 ·rw[dS h]
  have:0≤r:=hr.2 (Classical.byContradiction fun z=>h fun j hj=>Classical.byContradiction fun y=>z ⟨j,by omega,hj,y⟩)
  simp;omega
theorem M7 (n:Int) (h0:-9223372036854775808≤n) (h1:n≤9223372036854775807):qL.f n=some (bs (Lib.itoa n)):=by
 unfold qL.f strconv_Itoa.f;rw[if_pos ⟨h0,h1⟩]
 rfl
theorem TM (c:UInt8) (l:List UInt8):(bs (c::l)).extract 1 (bs (c::l)).size=bs l:=by
 rw[Lib.extract_from]
 rfl
theorem ac9 (l:List UInt8) (h:l.length≤1000):mZ.f (bs l) (⟨#[48]⟩:ByteArray)=some (bs (Lib.trimRightB l 48)):=by
 unfold mZ.f;rw[if_pos ⟨by rw[iw];omega,rfl⟩]
 rfl
theorem M8 (u:Nat) (g:List UInt8) (hu:u≤2147483647) (hg:g.length≤1):Ev (fun k=>jH.j0 k (u:Int) (bs g)) (bs (g++Lib.decDigits (u / 1000)++(if u % 1000=0 then [] else 46::Lib.trimRightB (three (u % 1000)) 48))):=by
 refine aI ?_;simp only[jH.j0];have a1:Int.tdiv (u:Int) 1000=((u / 1000:Nat):Int):=(Int.ofNat_tdiv _ 1000).symm;have a2:Int.tmod (u:Int) 1000=((u % 1000:Nat):Int):=(Int.ofNat_tmod _ 1000).symm
 have ds:(bs (Lib.decDigits (u / 1000))).size≤20:=by rw[iw,Lib.decDigits_length];exact Lib.nDigits_le20 _ (by omega)
 rw[a1,a2,xg (x:=((u / 1000:Nat):Int)) (by omega) (by omega),M7 _ (by omega) (by omega),zT];simp only[Option.bind_some];refine av (by rw[iw];omega) ?_
 by_cases h:u % 1000=0
 ·rw[if_pos h,List.append_nil];exact iU (fu (Ev.now _) (pF _ _))
 ·rw[if_neg h];refine xY ?_
  have e:wrap64 (1000+((u % 1000:Nat):Int))=((1000+u % 1000:Nat):Int):=by rw[wO];omega
  have e3:(three (u % 1000)).length=3:=rfl;rw[e,M7 _ (by omega) (by omega),zT,MK (by omega)];simp only[Option.bind_some];rw[TM,ac9 _ (by omega)];simp only[Option.bind_some];have ht:=He (three (u % 1000));have s1:(⟨#[46]⟩:ByteArray)=bs [46]:=rfl;rw[s1];refine av (by rw[iw,List.length_cons];omega) (av (by rw[iw];omega) (av ?_ (fu (Ev.now _) ?_)))
  ·rw[ByteArray.size_append,ByteArray.size_append,iw,iw [46],iw (Lib.trimRightB _ _),List.length_singleton]
   omega
  ·rw[pF,pF,pF]
   rfl
theorem KR (n:Int) (h:pX n):Ev (fun k=>jH.f k n) (bs (wy n)):=by
 unfold jH.f;rw[QV];simp only[Option.bind_some];unfold pX at h;refine av (decide_eq_true h) ?_;unfold wy
 by_cases hn:n<0
 ·rw[if_pos hn];refine av hn ?_
  have e:wrap64 (-n)=((n.natAbs:Nat):Int):=by rw[wO];omega
  rw[e];exact M8 n.natAbs [45] (by omega) (by decide)
 ·rw[if_neg hn];refine aZ hn ?_
  have e:n=((n.natAbs:Nat):Int):=by omega
  conv=>rw[e]
  exact M8 n.natAbs [] (by omega) (by decide)
theorem M9 {l c:List UInt8} (h:∀b ∈ l,c.contains b=false):Lib.indexAny l c=-1:=
 Lib.indexAny_none (fun _ b _ hb=>h b (List.mem_of_getElem? hb))
theorem QW (s:ByteArray) (hs:oU s) (hl:s.size≤1048576):nX.f s=some s:=by
 have hc:∀b ∈ s.data.toList,([44,34,10,13]:List UInt8).contains b=false:=by
  intro b hb;obtain ⟨n,hn⟩:=List.mem_iff_getElem?.mp hb;obtain ⟨h1,h2,h3,h4,_⟩:=hs.at hn
  simp [h1,h2,h3,h4]
 have e:strings_ContainsAny.f s (⟨#[44,34,10,13]⟩:ByteArray)=some false:=by
  unfold strings_ContainsAny.f strings_IndexAny.f
  first
   |rw[if_pos ⟨by omega,rfl⟩]
   |rw[if_pos ⟨by omega,by decide,List.all_eq_true.2 (fun b hb=>decide_eq_true (hs b hb).2),by decide⟩]
  simp only[Option.bind_some];rw[M9 hc]
  rfl
 unfold nX.f;rw[e]
 rfl
theorem WJ (rows:List (List ByteArray)) (n:Nat) (hn:n<rows.length) (hrl:rows.length≤1048576) (hp:∀f ∈ rows[n],oU f) (r:ByteArray) (B:List UInt8) (hB:B.length≤1000000) (hcl:rows[n].length≤1048576)
  (next:Ev (fun k=>fJ.l0 k (nm (B++ [10])) rows (rows.length:Int) ((n+1:Nat):Int)) r):
  ∀(d i:Nat) (acc:List UInt8),i+d=rows[n].length→acc++qJ (i==0) (rows[n].drop i)=B→Ev (fun k=>fJ.l1 k (nm acc) rows (rows.length:Int) (n:Int) rows[n] (rows[n].length:Int) (i:Int)) r:=by
 have er:rows.getD n []=rows[n]:=by rw[List.getD_eq_getElem?_getD,List.getElem?_eq_getElem hn];rfl
 intro d
 induction d with
 |zero=>
  intro i acc hi ha;refine aI ?_;simp only[fJ.l1];rw[List.drop_of_length_le (by omega)] at ha
  have ha:acc=B:=by rw[←ha];unfold qJ;rw[List.append_nil]
  subst ha;rw[xg (x:=(n:Int)+1) (by omega) (by omega)];refine xY (av (by rw[nN];omega) ?_)
  have e:nm acc++ [10]=nm (acc++ [10]):=by rw[uL];rfl
  rw[e]
  exact next
 |succ d ih=>
  intro i acc hi ha;have hx:rows[n][i]?=some rows[n][i]:=List.getElem?_eq_getElem (by omega);have hf:=hp _ (List.mem_of_getElem? hx);rw[MZ _ (by omega)] at ha;have hlen:=congrArg List.length ha;rw[List.length_append,List.length_append,List.length_append] at hlen;have hsz:rows[n][i].data.toList.length=rows[n][i].size:=iA _
  have go:∀a2:List UInt8,a2=acc++(if (i==0)=true then [] else [44])→Ev (fun k=>(nX.f rows[n][i]).bind fun t=>if (nm a2).length+t.size<140737488355328 then fJ.l1 k (nm a2++bytesOf t) rows (rows.length:Int) (n:Int) rows[n] (rows[n].length:Int) (wrap64 ((i:Int)+1)) else none) r:=by
   intro a2 h2;have hl2:=congrArg List.length h2;rw[List.length_append] at hl2;rw[QW _ hf (by omega)];simp only[Option.bind_some];refine av (by rw[nN];omega) ?_;rw[MI,←uL,xg (x:=(i:Int)+1) (by omega) (by omega)];refine ih (i+1) _ (by omega) ?_;rw[←ha,h2]
   have e:((i+1:Nat)==0)=false:=by simp
   rw[e,List.append_assoc,List.append_assoc,List.append_assoc]
  have ef:rows[n].getD i ByteArray.empty=rows[n][i]:=by rw[List.getD_eq_getElem?_getD,hx];rfl
  refine aI ?_;simp only[fJ.l1,Int.toNat_natCast,jg,ef,Option.bind_some];refine iU (iU (iU ?_))
  by_cases h0:i=0
  ·subst h0;exact xY (go acc (by simp))
  ·refine iU (av (by rw[nN];omega) ?_)
   have e:nm acc++ [44]=nm (acc++ [44]):=by rw[uL];rfl
   rw[e];exact go _ (by rw[if_neg (by simpa using h0)])
theorem WK (rows:List (List ByteArray)) (hrl:rows.length≤1048576) (hp:∀row ∈ rows,row.length≤1048576∧∀f ∈ row,oU f) (ht:(iV rows).length≤1000000):∀(d n:Nat) (acc:List UInt8),n+d=rows.length→acc++iV (rows.drop n)=iV rows→
  Ev (fun k=>fJ.l0 k (nm acc) rows (rows.length:Int) (n:Int)) (bs (iV rows)):=by
 intro d
 induction d with
 |zero=>
  intro n acc hn ha;refine aI ?_;simp only[fJ.l0];rw[List.drop_of_length_le (by omega)] at ha
  have ha:acc=iV rows:=by rw[←ha];unfold iV;simp
  exact xY (fu (Ev.now _) (by rw[mY,ha]))
 |succ d ih=>
  intro n acc hn ha
  have hx:n<rows.length:=by omega
  obtain ⟨hcl,hpf⟩:=hp _ (List.getElem_mem hx);rw[Hw hx] at ha;have hl:=congrArg List.length ha;rw[List.length_append,List.length_append] at hl
  have hr:(xZ rows[n]).length=(qJ true rows[n]).length+1:=by unfold xZ;rw[List.length_append];rfl
  refine aI ?_;simp only[fJ.l0,ac2,Int.toNat_natCast]
  have er:rows.getD n []=rows[n]:=by rw[List.getD_eq_getElem?_getD,List.getElem?_eq_getElem hx];rfl
  rw[er];refine iU (iU (iU ?_));refine WJ rows n hx hrl hpf _ (acc++qJ true rows[n]) (by rw[List.length_append];omega) hcl ?_ rows[n].length 0 acc (by omega) rfl;refine ih (n+1) _ (by omega) ?_;rw[←ha];unfold xZ;rw[List.append_assoc,List.append_assoc,List.append_assoc]
theorem TN (rows:List (List ByteArray)) (hrl:rows.length≤1048576) (hp:∀row ∈ rows,row.length≤1048576∧∀f ∈ row,oU f) (ht:(iV rows).length≤1000000):Ev (fun k=>fJ.f k rows) (bs (iV rows)):=by
 unfold fJ.f;exact WK rows hrl hp ht rows.length 0 [] (by omega) rfl
theorem QX (l:List ByteArray) (hl:l.length≤1048576) (hs:∀x ∈ l,x.size≤1048576):Ev (fun k=>gX.f k l) (dec (∀j,0≤j→j<l.length→zU l j)):=by
 unfold gX.f;refine fu (Ju (fun k i=>gX.l0 k l l (l.length:Int) i) l.length (zU l) True ?_ ?_ ?_ l.length 0 (by omega)) (jU ⟨fun h=>h.1,fun h=>⟨h,trivial⟩⟩)
 ·refine aI ?_;simp only[gX.l0];exact xY (fu (Ev.now _) (gG trivial).symm)
 ·intro n r hn hp h;have g:=BL hs n;refine aI ?_;simp only[gX.l0,Int.toNat_natCast];refine iU (iU (iU (Ev.bind (GH (yx l n) (by omega)) (av (gG hp.1) (iU (Ev.bind (QS (l.take n) (yx l n) (by rw[List.length_take];omega)) (aZ ?_ ?_)))))))
  ·rw[jU (xy l (by omega) _),dS hp.2];decide
  ·rw[xg (x:=(n:Int)+1) (by omega) (by omega)];exact h
 ·intro n hn hp;have g:=BL hs n;refine aI ?_;simp only[gX.l0,Int.toNat_natCast];refine iU (iU (iU (Ev.bind (GH (yx l n) (by omega)) ?_)))
  by_cases a:rz (yx l n)
  ·refine av (gG a) (iU (Ev.bind (QS (l.take n) (yx l n) (by rw[List.length_take];omega)) (av ?_ (Ev.now _))));rw[jU (xy l (by omega) _)];exact gG (Classical.byContradiction fun z=>hp ⟨a,z⟩)
  ·exact aZ (by rw[dS a];decide) (Ev.now _)
theorem abl (L:List ByteArray) (t:ByteArray):(∀j,0≤j→j<(L++ [t]).length→zU (L++ [t]) j)↔MM L∧rz t∧¬Bj L L.length t:=by
 have hh:∀(n:Nat) (s:ByteArray),n≤L.length→(Bj (L++ [t]) n s↔Bj L n s):=by
  intro n s hn;unfold Bj;exact ⟨fun ⟨j,a,b⟩=>⟨j,a,by rw[vO L t (by omega)] at b;exact b⟩,fun ⟨j,a,b⟩=>⟨j,a,by rw[vO L t (by omega)];exact b⟩⟩
 have hlen:(L++ [t]).length=L.length+1:=by simp
 unfold MM zU;rw[hlen]
 constructor
 ·intro h;refine ⟨fun j h1 h2=>?_,?_⟩
  ·have:=h j h1 (by omega)
   rw[vO L t h2,hh j _ (by omega)] at this;exact this
  ·have:=h L.length (Nat.zero_le _) (by omega)
   rw[Cx,hh _ _ (Nat.le_refl _)] at this;exact this
 ·intro ⟨h,h2⟩ j hj1 hj2
  by_cases e:j<L.length
  ·rw[vO L t e,hh j _ (by omega)];exact h j hj1 e
  ·obtain rfl:j=L.length:=by omega
   rw[Cx,hh _ _ (Nat.le_refl _)];exact h2
theorem awn (n:Nat) (row:List Int):aH.bad n row=false↔((row.length:Int)=(n:Int)∧∀i:Nat,0≤i→i<n→pX (rd row (i:Int))):=by
 by_cases e:(row.length:Int)=(n:Int)
 ·have nn:((!(row.all aH.dc))=false)↔row.all aH.dc=true:=by cases row.all aH.dc<;>simp
  rw[aH.bad_eq e,nn,List.all_eq_true]
  constructor
  ·intro h;refine ⟨e,fun i _ hi=>?_⟩
   have:=h _ (acO (xs:=row) (i:=(i:Int)) (by omega) (by omega))
   unfold aH.dc at this;have q:=of_decide_eq_true this;exact q
  ·intro h x hx;obtain ⟨i,hi,rfl⟩:=List.getElem_of_mem hx
   have:=h.2 i (Nat.zero_le _) (by omega)
   rw[Ay (List.getElem?_eq_getElem hi)] at this;exact decide_eq_true this
 ·rw[aH.ada e]
  constructor
  ·intro h
   cases h
  ·exact fun h=>absurd h.1 e
theorem apV (n:Nat) (R:List (List Int)):R.any (aH.bad n)= !dec (∀j:Nat,0≤j→j<R.length→aH.bad n (R.getD j [])=false):=by
 by_cases h:∀j:Nat,0≤j→j<R.length→aH.bad n (R.getD j [])=false
 ·rw[gG h,Bool.not_true,List.any_eq_false];intro x hx;obtain ⟨j,hj,rfl⟩:=List.getElem_of_mem hx
  have:=h j (Nat.zero_le _) hj
  rw[List.getD_eq_getElem?_getD,List.getElem?_eq_getElem hj] at this
  simpa using this
 ·rw[dS h,Bool.not_false,List.any_eq_true]
  refine Classical.byContradiction fun g=>h fun j _ hj=>Classical.byContradiction fun y=>g ⟨R[j],List.getElem_mem hj,?_⟩
  rw[List.getD_eq_getElem?_getD,List.getElem?_eq_getElem hj] at y
  simpa using y
theorem Et (L:List ByteArray) (t:ByteArray) (R:List (List Int)) (Y:List Int) (hL:L.length≤1048576) (hs:∀x ∈ L,x.size≤1048576) (ht:t.size≤1048576) (hR:R.length≤1048576) (hY:Y.length≤1048576):Ev (fun k=>eY.f k L t R Y) (dec (vP L t R Y)):=by
 unfold eY.f vP
 have cl:aT.f L=some L:=by
  unfold aT.f;exact if_pos (by omega)
 simp only[xA,cl,Option.bind_some,aH.f]
 by_cases k1:1≤(L.length:Int)∧(L.length:Int)≤4
 case neg=>exact aZ (by rw[decide_eq_false k1];decide) (fu (Ev.now _) (dS (fun h=>k1 h.1)).symm)
 have hlen:(L++ [t]).length=L.length+1:=by simp
 refine av (decide_eq_true k1) (av (by rw[List.length_singleton];omega) (Ev.bind (QX (L++ [t]) (by omega) ?_) ?_))
 ·intro x hx
  rcases List.mem_append.1 hx with h|h
  ·exact hs x h
  ·obtain rfl:=List.mem_singleton.1 h;exact ht
 rw[jU (abl L t)]
 by_cases k2:MM L∧rz t∧¬Bj L L.length t
 case neg=>exact aZ (by rw[dS k2];decide) (fu (Ev.now _) (dS (fun h=>k2 ⟨h.2.2.2.2.2.1,h.2.1,h.2.2.1⟩)).symm)
 refine av (gG k2) ?_
 by_cases k4:1≤(R.length:Int)∧(R.length:Int)≤40
 case neg=>exact aZ (by rw[decide_eq_false k4];decide) (fu (Ev.now _) (dS (fun h=>k4 h.2.2.2.1)).symm)
 refine av (decide_eq_true k4) ?_
 by_cases k5:(Y.length:Int)=(R.length:Int)
 case neg=>exact aZ k5 (fu (Ev.now _) (dS (fun h=>k5 h.2.2.2.2.1)).symm)
 refine av k5 (Ev.bind (WI Y hY) ?_)
 by_cases k6:∀j:Nat,j<Y.length→pX (rd Y (j:Int))
 case neg=>exact aZ (by rw[dS k6];decide) (fu (Ev.now _) (dS (fun h=>k6 (fun j hj=>(h.2.2.2.2.2.2 j (Nat.zero_le _) (by omega)).2.1))).symm)
 refine av (gG k6) (wF ?_)
 congr 1
 rw[apV,Bool.not_not];refine jU ⟨fun h=>⟨k1,k2.2.1,k2.2.2,k4,k5,k2.1,fun j h1 h2=>?_⟩,fun h j h1 h2=>?_⟩
 ·have:=(awn _ _).1 (h j h1 h2)
  exact ⟨this.1,k6 j (by omega),this.2⟩
 ·have:=h.2.2.2.2.2.2 j h1 h2
  exact (awn _ _).2 ⟨this.1,this.2.2⟩
theorem QY (row:List Int) (h:∀x ∈ row,pX x) (hl:row.length≤1000):Ev (fun k=>jO.f k row) (row.map (fun x=>bs (wy x))):=by
 unfold jO.f;refine fu (Jt (fun k (S:List ByteArray) i=>jO.l0 k S row (row.length:Int) i) row.length (fun n=>(row.take n).map (fun x=>bs (wy x))) (row.map (fun x=>bs (wy x))) ?_ ?_ row.length 0 (by omega)) rfl
 ·refine aI ?_;simp only[jO.l0];exact xY (fu (Ev.now _) (by rw[List.take_of_length_le (Nat.le_refl _)]))
 ·intro n hn next
  have hx:row[n]?=some row[n]:=List.getElem?_eq_getElem hn;refine aI ?_;simp only[jO.l0,Ay hx];refine iU (iU (iU (Ev.bind (KR _ (h _ (List.getElem_mem hn))) (av ?_ ?_))))
  ·rw[List.length_map,List.length_take];omega
  ·rw[xg (x:=(n:Int)+1) (by omega) (by omega)]
   have e:(row.take n).map (fun x=>bs (wy x))++ [bs (wy row[n])]=(row.take (n+1)).map (fun x=>bs (wy x)):=by
    rw[List.take_succ_eq_append_getElem hn,List.map_append];rfl
   rw[e]
   exact next
theorem OL (L:List ByteArray) (t:ByteArray) (R:List (List Int)) (Y:List Int) (hL:L.length≤1048576) (hs:∀x ∈ L,x.size≤1048576) (ht:t.size≤1048576) (hR:R.length≤1048576) (hYl:Y.length≤1048576):Ev (fun k=>dx.f k L t R Y) (bs (tQ L t R Y)):=by
 have cl:aT.f L=some L:=by
  unfold aT.f;exact if_pos (by omega)
 unfold dx.f tQ;simp only[cl,Option.bind_some];refine Ev.bind (Et L t R Y hL hs ht hR hYl) ?_
 by_cases h:vP L t R Y
 case neg=>
  rw[dS h];exact aZ (by decide) (Ev.now _)
 rw[if_pos (gG h)];have hLl:=h.1;have hRl:=h.2.2.2.1;have hY:=h.2.2.2.2.1;refine av (gG h) (av (by rw[List.length_singleton];omega) ?_);refine Jt (fun k (S:List (List ByteArray)) i=>dx.l0 k S R (R.length:Int) i L t R Y) R.length (fun n=>(L++ [t])::xn R Y n) _ ?_ ?_ R.length 0 (by omega)
 ·refine aI ?_;simp only[dx.l0];have k1:=xz h;exact xY (Ev.bind (TN (ja L t R Y) (by omega) (fun row hr=>⟨by have:=(qK h row hr).1;omega,fun f hf=>((qK h row hr).2 f hf).2⟩) (by omega)) (Ev.now _))
 ·intro n hn next
  have g:=h.2.2.2.2.2.2 n (Nat.zero_le _) hn;have gl:=g.1;refine aI ?_;simp only[dx.l0,rdL,Int.toNat_natCast,Option.bind_some];refine iU (iU (iU (Ev.bind (QY _ (fun x hx=>Eg g hx) (by omega)) (iU (Ev.bind (KR _ g.2.1) (av ?_ (av ?_ ?_)))))))
  ·rw[List.length_map,List.length_singleton];omega
  ·rw[List.length_cons,List.length_singleton];unfold xn;rw[List.length_map,List.length_range];omega
  ·rw[xg (x:=(n:Int)+1) (by omega) (by omega)]
   rw[MN,←List.cons_append] at next
   exact next
theorem OM (l:List Int) (hl:l.length≤35184372088832):∃b:List ByteArray × ByteArray × List (List Int) × List Int,Ev (fun k=>mi.f k l) b∧Pq b.1 b.2.1 b.2.2.1 b.2.2.2:=by
 unfold mi.f;obtain ⟨h,e0⟩:=amx l hl;obtain ⟨b,e1,_,D⟩:=apR h (awj l hl);exact ⟨_,Ev.bind e0 (Ev.bind e1 (Ev.now _)),D⟩
theorem adb {R:List (List Int)} (h4:R.length≤42) (h:∀r ∈ R,r.length≤5∧MH r):wt R≤1048576:=by
 have:∀R:List (List Int),(∀r ∈ R,r.length≤5∧MH r)→(R.map List.length).sum≤5 * R.length:=by
  intro R
  induction R with
  |nil=>intro _;exact Nat.zero_le _
  |cons x R ih=>
   intro h;have h1:=(h x (List.mem_cons_self ..)).1
   have h2:=ih fun r hr=>h r (List.mem_cons_of_mem _ hr)
   rw[List.map_cons,List.sum_cons,List.length_cons]
   omega
 have:=this R h
 unfold wt
 omega
theorem abm (l:List Int) (hl:l.length≤35184372088832):Ev (fun k=>laws_FnTable.j2 k l) true:=by
 refine aI ?_;simp only[laws_FnTable.j2];obtain ⟨u,eu,_⟩:=OA l hl;have iR:=Dz u;have sR:=Lr u;refine Ev.bind eu (Ev.bind iR (Ev.bind sR (av (by simp) ?_)))
 by_cases h0:(oL u).2.2.2.2.1=0
 ·have hv:=Lm u h0
  have hN:∀x ∈ (oL u).1,x.size≤1048576:=fun x hx=>by
   have:=(MO hv.2.2.2.2.2.1 hx).2.1
   omega
  have hY:=hv.2.2.2.2.1;have hT:=hv.2.1.2.1;have hL:=hv.1.2;have hR:=hv.2.2.2.1.2;refine av h0 (Ev.bind (fu (KE _ _ _ _ (by omega) hN (by omega) (by omega)) (gG hv)) (av rfl (Ev.bind (fu (Et _ _ _ _ (by omega) hN (by omega) (by omega) (by omega)) (gG hv)) (Ev.now _))))
 ·exact aZ h0 (Ev.now _)
theorem FnTable:laws_FnTable.Pure:=by
 intro l0 w1 w2 w3;refine Ev.rounds ?_;unfold laws_FnTable.f;refine Ev.bind (wF (ait l0)) ?_
 by_cases b:(l0.length:Int)>1048576
 ·exact av (decide_eq_true b) (Ev.now _)
 refine aZ (by simpa using b) ?_;obtain ⟨⟨L,t,R,Y⟩,ec,D⟩:=OM l0 (by omega);obtain ⟨d1,d2,d3,d4,d5,d6,d7⟩:=D
 dsimp only at d1 d2 d3 d4 d5 d6 d7
 have hs:∀x ∈ L,x.size≤1048576:=fun x hx=>by have:=d2 x hx;omega
 have iT:=OL L t R Y (by omega) hs (by omega) (by omega) (by omega);have sT:=F7 L t R Y (by omega) hs (by omega) (by omega);have iO:=Et L t R Y (by omega) hs (by omega) (by omega) (by omega);have last:=abm l0 (by omega);have hw:=adb d4 d5;refine Ev.bind ec (Ev.bind iT (Ev.bind sT (av rfl (Ev.bind iO (aI ?_)))));simp only[laws_FnTable.j0,JC,iw]
 by_cases hT:vP L t R Y
 ·have et:tQ L t R Y=iV (ja L t R Y):=by
   unfold tQ;rw[gG hT,if_pos rfl]
  have hne:iV (ja L t R Y)≠ []:=by
   unfold ja;rw[Hr]
   simp
  rw[et,gG hT];refine aZ (by simp [hne]) (aZ hne (aI ?_));simp only[laws_FnTable.j1]
  by_cases h4:((iV (ja L t R Y)).length:Int)≤4000
  ·have iB:=Dz (bs (iV (ja L t R Y)));rw[MW hT (by omega)] at iB;exact av (decide_eq_true h4) (Ev.bind iB (av rfl (Ev.bind (abf L t R Y (by omega) hw (by omega)) (av rfl (Ev.bind (abg L t R Y (by omega) hw (by omega)) (av rfl last))))))
  ·exact aZ (by simpa using h4) last
 ·have et:tQ L t R Y=[]:=by
   unfold tQ;rw[dS hT,if_neg (by simp)]
  rw[et,dS hT];refine aZ (by simp) (av rfl (aI ?_));simp only[laws_FnTable.j1];exact aZ (by simp) last
end Go.Proofs.YtkjbbnijhpldhaaGreatDoor.Pure
