/- The machine side of FnTable: what each Go function that it reaches comes to. Conditions: none. -/
import Derived.Test.YtkjbbnijhpldhaaGreatDoorProg
import Derived.Below
import Derived.Deep.Draws
import Derived.Deep.AppendLies
import Derived.Maps.AppendAt
import Derived.OwnWalk
import Derived.Laws.BytesArg
import Derived.Laws.MakeOwn
import Derived.Laws.OwnMore
import Derived.Deep.OwnRows
import Derived.Tactics
import Derived.Lib.ConvBytes
import Derived.Laws.Slices
import Derived.WalkKit
import Derived.KernelRfl
import Derived.RowKit3
import Derived.Deep.LoopGhost
import Derived.Deep.QuietTactic
import Derived.BigQuiet
import Derived.WideLaws
import Derived.Deep.DeepCutAuto
import Derived.Deep.CutBlock
import Derived.Deep.RegionHeld3
import Derived.Laws.Rows
import Derived.Lib.AppendStr
import Derived.ArgAppend
import Derived.Laws.IdiomCopy
import Derived.OrdersHeld
import Derived.Laws.BitsLemmas
import Derived.RowKit
import Derived.Laws.Externs
import Derived.Test.YtkjbbnijhpldhaaGreatDoorShelf
import Derived.Test.YtkjbbnijhpldhaaGreatDoorGlob
import Derived.Shelf.Strings.SlTrimAscii
import Derived.Lib.OthersKept
import Derived.Lib.DecodeN
import Derived.Test.YtkjbbnijhpldhaaGreatDoorW
namespace Go.Proofs.YtkjbbnijhpldhaaGreatDoor.QFnTable
open Go.RowKit Go.Proofs.YtkjbbnijhpldhaaGreatDoorW.PrintWords Go.Proofs.YtkjbbnijhpldhaaGreatDoorW.PrintLast Go.Proofs.YtkjbbnijhpldhaaGreatDoorW.PrintMore
attribute [local go_sem] oq ou qN qO mr mD ow oz
set_option linter.unusedVariables false
set_option linter.unusedSimpArgs false
section
variable {P:Program} {md:Region.Mode} {ops:Array Oper} {Q:Exit→Act→World→Prop} {S:World→Prop} {ds:List Nat} {T:Bool × List (List Nat × List Nat)} {B:List Nat} {fuel:Nat} {l:Array Bool} {a a':Act} {w:World} {oi:Oper} {v:Value}
def qB:Nat→Nat→List Bool
  |0,_=> []
  |n+1,m=>(m % 2==1)::qB n (m / 2)
def qM (n m:Nat):Array Bool:=(qB n m).toArray
theorem nD {α:Type} {c:Prop} [Decidable c] {x:Option α} {r:α} (h:(if c then x else none)=some r):c∧x=some r:=by
  by_cases k:c
  · rw[if_pos k] at h;exact ⟨k,h⟩
  · rw[if_neg k] at h;exact absurd h (by simp)
theorem dD {w:World} {m n:Nat}:(w.drewN m).drewN n=w.drewN (m+n):=World.drewN_drewN _ _ _
theorem dT {w:World} {m n k:Nat}:(w.drewN (m+n)).drewN k=w.drewN (m+(n+k)):=Eq.trans (World.drewN_drewN _ _ _) (congrArg (World.drewN _) (Nat.add_assoc _ _ _))
theorem bc {W:World} {g t:Nat} {cs:Array Value} (h:aa (W.heap[g]?=some (.cells cs t (0,0)))) (j:Nat) {v:Value} (hj:cs[j]?=some v:=by rfl):W.cell? ⟨g,j,none⟩=some v:=(cu h.o j).trans hj
theorem rP (i:Nat) {N:Tmp} {n k m:Nat} (HT_:aa (o_ md ops=T):=by assumption) (hl:l=qM n k:=by rfl) (hm:k+2 ^ i=m:=by (simp only[Nat.reducePow,Nat.reduceAdd])<;>rfl) (hi:ops[i]?=some oi:=by rfl) (hN:oi.dst=some N:=by rfl) (hc:aiE T l.toList (qM n m).toList i=true:=by kernel_rfl) (hQ:∀c a w,Q (.panic c) (a.put oi.dst v) w→Q (.panic c) a w:=by exact fun _ _ _ h=>h) (hy:Region.wanted oi (yielded ops a.tmps)=true:=by rfl) (hr:∀w,(execOp a.eval oi).run P w=.ok (.value v) w:=by intro w';go_simp;with_reducible rfl) (ha:a.put (some N) v=a':=by simp only[Act.put,List.setIfInBounds_toArray,List.set_cons_zero,List.set_cons_succ,jT,kS];rfl) (h:cK P md ops Q S ds fuel (qM n m) a' w):cK P md ops Q S ds (fuel+1) l a w:=
  BN (qM n m) hi hN (y_ HT_.o hc) hQ (Or.inl ⟨hy,hr⟩) ha h
theorem rU (i:Nat) {N:Tmp} {n k m:Nat} (HT_:aa (o_ md ops=T):=by assumption) (hl:l=qM n k:=by rfl) (hm:k+2 ^ i=m:=by (simp only[Nat.reducePow,Nat.reduceAdd])<;>rfl) (hi:ops[i]?=some oi:=by rfl) (hN:oi.dst=some N:=by rfl) (hc:aiE T l.toList (qM n m).toList i=true:=by kernel_rfl) (hQ:∀c a w,Q (.panic c) (a.put oi.dst undef) w→Q (.panic c) a w:=by exact fun _ _ _ h=>h) (hy:Region.wanted oi (yielded ops a.tmps)=false:=by rfl) (ha:a.put (some N) undef=a':=by simp only[Act.put,List.setIfInBounds_toArray,List.set_cons_zero,List.set_cons_succ,jT,kS];rfl) (h:cK P md ops Q S ds fuel (qM n m) a' w):cK P md ops Q S ds (fuel+1) l a w:=
  BN (qM n m) hi hN (y_ HT_.o hc) hQ (Or.inr ⟨hy,rfl⟩) ha h
theorem rO (i:Nat) {N:Tmp} {n k m:Nat} (HT_:aa (o_ md ops=T):=by assumption) (hl:l=qM n k:=by rfl) (hm:k+2 ^ i=m:=by (simp only[Nat.reducePow,Nat.reduceAdd])<;>rfl) (hi:ops[i]?=some oi:=by rfl) (hN:oi.dst=some N:=by rfl) (hc:(GI T.2 l.toList==[i] && l.toList.set i true==(qM n m).toList)=true:=by kernel_rfl) (hd:i ∉ ds:=by decide) (h:∀K:Act→World→Prop,Shut (∀a' w',S w'→(S w'→cK P md ops Q S ds fuel (qM n m) a' w')→K a' w')→if Region.wanted oi (yielded ops a.tmps)=true then Oper.wp P oi a w K Q else K (a.put (some N) undef) w):cK P md ops Q S ds (fuel+1) l a w:=
  DX (qM n m) hi hN (za HT_.o hc) hd h
theorem sP (i:Nat) (N:Tmp) (n m:Nat) (hi:ops[i]?=some oi:=by rfl) (hN:oi.dst=some N:=by rfl) (hc:adc md ops l (qM n m) i=true:=by kernel_rfl) (hQ:∀c a w,Q (.panic c) (a.put oi.dst v) w→Q (.panic c) a w:=by exact fun _ _ _ h=>h) (hy:Region.wanted oi (yielded ops a.tmps)=true:=by rfl) (hr:∀w,(execOp a.eval oi).run P w=.ok (.value v) w:=by intro w';go_simp;with_reducible rfl) (ha:a.put (some N) v=a':=by simp only[Act.put,List.setIfInBounds_toArray,List.set_cons_zero,List.set_cons_succ,jT,kS];rfl) (h:cK P md ops Q S ds fuel (qM n m) a' w):cK P md ops Q S ds (fuel+1) l a w:=
  BN (qM n m) hi hN hc hQ (Or.inl ⟨hy,hr⟩) ha h
theorem sO (i:Nat) (N:Tmp) (n m:Nat) (hi:ops[i]?=some oi:=by rfl) (hN:oi.dst=some N:=by rfl) (hc:GJ md ops l (qM n m) i=true:=by kernel_rfl) (hd:i ∉ ds:=by decide) (h:∀K:Act→World→Prop,Shut (∀a' w',S w'→(S w'→cK P md ops Q S ds fuel (qM n m) a' w')→K a' w')→if Region.wanted oi (yielded ops a.tmps)=true then Oper.wp P oi a w K Q else K (a.put (some N) undef) w):cK P md ops Q S ds (fuel+1) l a w:=
  DX (qM n m) hi hN hc hd h
theorem zA (i:Nat) {N:Tmp} {n k m:Nat} (hS:S w) (HT_:aa (o_ md ops=T):=by assumption) (HW_:aa (lq T.2 B=true):=by assumption) (hl:l=qM n k:=by rfl) (hm:k+2 ^ i=m:=by (simp only[Nat.reducePow,Nat.reduceAdd])<;>rfl) (hi:ops[i]?=some oi:=by rfl) (hN:oi.dst=some N:=by rfl) (hc:TP T B ds l.toList (qM n m).toList i=true:=by kernel_rfl) (hQ:∀c a w,Q (.panic c) (a.put oi.dst v) w→Q (.panic c) a w:=by exact fun _ _ _ h=>h) (hy:Region.wanted oi (yielded ops a.tmps)=true:=by rfl) (hr:∀w,S w→(execOp a.eval oi).run P w=.ok (.value v) w:=by rintro w' ⟨s0,s1⟩;go_simp;with_reducible rfl) (ha:a.put (some N) v=a':=by simp only[Act.put,List.setIfInBounds_toArray,List.set_cons_zero,List.set_cons_succ,jT,kS];rfl) (h:cK P md ops Q S ds fuel (qM n m) a' w):cK P md ops Q S ds (fuel+1) l a w:=
  DC (qM n m) hi hN (zY HT_.o HW_.o hc) hQ (Or.inl ⟨hy,hr⟩) hS ha h
theorem sT3 (i:Nat) (N:Tmp) (n m:Nat) (hS:S w) (hi:ops[i]?=some oi:=by rfl) (hN:oi.dst=some N:=by rfl) (hc:takeB md ops ds l (qM n m) i=true:=by kernel_rfl) (hQ:∀c a w,Q (.panic c) (a.put oi.dst v) w→Q (.panic c) a w:=by exact fun _ _ _ h=>h) (hy:Region.wanted oi (yielded ops a.tmps)=true:=by rfl) (hr:∀w,S w→(execOp a.eval oi).run P w=.ok (.value v) w:=by rintro w' ⟨s0,s1,s2⟩;go_simp;with_reducible rfl) (ha:a.put (some N) v=a':=by simp only[Act.put,List.setIfInBounds_toArray,List.set_cons_zero,List.set_cons_succ,jT,kS];rfl) (h:cK P md ops Q S ds fuel (qM n m) a' w):cK P md ops Q S ds (fuel+1) l a w:=
  DC (qM n m) hi hN hc hQ (Or.inl ⟨hy,hr⟩) hS ha h
theorem sT4 (i:Nat) (N:Tmp) (n m:Nat) (hS:S w) (hi:ops[i]?=some oi:=by rfl) (hN:oi.dst=some N:=by rfl) (hc:takeB md ops ds l (qM n m) i=true:=by kernel_rfl) (hQ:∀c a w,Q (.panic c) (a.put oi.dst v) w→Q (.panic c) a w:=by exact fun _ _ _ h=>h) (hy:Region.wanted oi (yielded ops a.tmps)=true:=by rfl) (hr:∀w,S w→(execOp a.eval oi).run P w=.ok (.value v) w:=by rintro w' ⟨s0,s1,s2,s3⟩;go_simp;with_reducible rfl) (ha:a.put (some N) v=a':=by simp only[Act.put,List.setIfInBounds_toArray,List.set_cons_zero,List.set_cons_succ,jT,kS];rfl) (h:cK P md ops Q S ds fuel (qM n m) a' w):cK P md ops Q S ds (fuel+1) l a w:=
  DC (qM n m) hi hN hc hQ (Or.inl ⟨hy,hr⟩) hS ha h
theorem FN (i:Nat) {N:Tmp} {n k m:Nat} (hS:S w) (HT_:aa (o_ md ops=T):=by assumption) (HW_:aa (lq T.2 B=true):=by assumption) (hl:l=qM n k:=by rfl) (hm:k+2 ^ i=m:=by (simp only[Nat.reducePow,Nat.reduceAdd])<;>rfl) (hi:ops[i]?=some oi:=by rfl) (hN:oi.dst=some N:=by rfl) (hc:TP T B ds l.toList (qM n m).toList i=true:=by kernel_rfl) (hQ:∀c a w,Q (.panic c) (a.put oi.dst v) w→Q (.panic c) a w:=by exact fun _ _ _ h=>h) (hy:Region.wanted oi (yielded ops a.tmps)=true:=by rfl) (hr:∀w,S w→(execOp a.eval oi).run P w=.ok (.value v) w:=by rintro w' ⟨s0,s1,s2,s3⟩;go_simp;with_reducible rfl) (ha:a.put (some N) v=a':=by simp only[Act.put,List.setIfInBounds_toArray,List.set_cons_zero,List.set_cons_succ,jT,kS];rfl) (h:cK P md ops Q S ds fuel (qM n m) a' w):cK P md ops Q S ds (fuel+1) l a w:=
  DC (qM n m) hi hN (zY HT_.o HW_.o hc) hQ (Or.inl ⟨hy,hr⟩) hS ha h
theorem WL (i:Nat) {N:Tmp} {n k m:Nat} (hS:S w) (HT_:aa (o_ md ops=T):=by assumption) (HW_:aa (lq T.2 B=true):=by assumption) (hl:l=qM n k:=by rfl) (hm:k+2 ^ i=m:=by (simp only[Nat.reducePow,Nat.reduceAdd])<;>rfl) (hi:ops[i]?=some oi:=by rfl) (hN:oi.dst=some N:=by rfl) (hc:TP T B ds l.toList (qM n m).toList i=true:=by kernel_rfl) (hQ:∀c a w,Q (.panic c) (a.put oi.dst v) w→Q (.panic c) a w:=by exact fun _ _ _ h=>h) (hy:Region.wanted oi (yielded ops a.tmps)=true:=by rfl) (hr:∀w,S w→(execOp a.eval oi).run P w=.ok (.value v) w:=by rintro w' ⟨s0,s1,s2,s3,s4⟩;go_simp;with_reducible rfl) (ha:a.put (some N) v=a':=by simp only[Act.put,List.setIfInBounds_toArray,List.set_cons_zero,List.set_cons_succ,jT,kS];rfl) (h:cK P md ops Q S ds fuel (qM n m) a' w):cK P md ops Q S ds (fuel+1) l a w:=
  DC (qM n m) hi hN (zY HT_.o HW_.o hc) hQ (Or.inl ⟨hy,hr⟩) hS ha h
theorem rN (ha:a=a':=by show Act.put _ (some _) _=_;simp only[Act.put,List.setIfInBounds_toArray,List.set_cons_zero,List.set_cons_succ,jT,kS];rfl) (h:cK P md ops Q S ds fuel l a' w):cK P md ops Q S ds fuel l a w:=oC ha h
end
section
theorem jA {a b:Prop} (x:a) (y:b):aa a∧b:=⟨.mk x,y⟩
theorem jC {p:Prop} (x:p):aa p:=⟨x⟩
theorem gE {E:Ending→World→Prop} {r:Ending} {w:World} (h:∀n,E r (w.drewN n):=by intro nd;first|exact ⟨rfl,_,dD⟩|exact ⟨rfl,_,dT⟩):∀e w',(e=r∧∃n,w'=w.drewN n)→E e w':=by rintro e w' ⟨rfl,nd,rfl⟩;exact h nd
theorem pR {p q:Prop} (x:q) (h:q→p:=by (intro h_;(with_reducible repeat (first|apply Kd.aiF|apply Kd.aiG|apply Kd.tZ));exact h_)):p:=h x
theorem pS {p q:Prop} (x:q) (h:q→p:=by (intro h_;(with_reducible repeat (first|apply Kd.aiH|apply Kd.aiI|apply Kd.zZ));exact h_)):p:=h x
theorem pN {p q:Prop} (x:q) (h:q→p:=by (intro h_;(with_reducible repeat (first|apply Kd.aiJ|apply Kd.aiK|apply Kd.JE));exact h_)):p:=h x
theorem pV {p q:Prop} (x:q) (h:q→p:=by (intro h_;(with_reducible repeat (first|apply Kd.YG|apply Kd.YH|apply Kd.QZ));exact h_)):p:=h x
theorem oT {p:Prop} [Decidable p] (h:decide p=true):p:=of_decide_eq_true h
theorem rM {p:Prop} [Decidable p] (h:p):decide p=true:=decide_eq_true h
theorem M_ {p:Prop} [Decidable p] (h:¬p):decide p=false:=decide_eq_false h
theorem fO {p:Prop} (h:p):p=True:=eq_true h
theorem cells3 {w:World} {g:Nat} {t:TypeId} {a0 a1 a2:Value} (h:w.heap[g]?=some (.cells #[a0,a1,a2] t (0,0))):w.cell? ⟨g,0,none⟩=some a0∧w.cell? ⟨g,1,none⟩=some a1∧w.cell? ⟨g,2,none⟩=some a2∧w.frozen? ⟨g,0,none⟩=false∧w.frozen? ⟨g,1,none⟩=false∧w.frozen? ⟨g,2,none⟩=false:=⟨(cu h 0).trans rfl,(cu h 1).trans rfl,(cu h 2).trans rfl,az h 0,az h 1,az h 2⟩
theorem cz {w:World} {g:Nat} {t:TypeId} {a0 a1 a2 a3:Value} (h:w.heap[g]?=some (.cells #[a0,a1,a2,a3] t (0,0))):w.cell? ⟨g,0,none⟩=some a0∧w.cell? ⟨g,1,none⟩=some a1∧w.cell? ⟨g,2,none⟩=some a2∧w.cell? ⟨g,3,none⟩=some a3∧w.frozen? ⟨g,0,none⟩=false∧w.frozen? ⟨g,1,none⟩=false∧w.frozen? ⟨g,2,none⟩=false∧w.frozen? ⟨g,3,none⟩=false:=⟨(cu h 0).trans rfl,(cu h 1).trans rfl,(cu h 2).trans rfl,(cu h 3).trans rfl,az h 0,az h 1,az h 2,az h 3⟩
theorem bE {P:Program} {ops:Array Oper} {Q:Exit→Act→World→Prop} {rest:List Oper} {o:Oper} {a:Act} {W:World} (N:Tmp) (cs:Array Value) (t:TypeId) (hgd:o.guard=none:=by rfl) (hd:o.dst=some N:=by rfl)
    (hrun:(execOp a.eval o).run P W=.ok (.value (.pointer (some ⟨W.heap.size,0,none⟩))) (W.alloc (.cells cs t (0,0))):=by first|(go_simp;done)|(go_simp;rfl))
    (h:∀g,g=W.heap.size→∀w1,w1.heap[g]?=some (.cells cs t (0,0))→Below W.heap.size W w1→wpList P ops Q rest (a.put o.dst (.pointer (some ⟨g,0,none⟩))) w1):wpList P ops Q (o::rest) a W:=abn hgd hd hrun h
variable {p:Prop}
theorem Z1 (h:p:=by exact jA (Kd.gq GK (Kd.dJ CO) hb) (jA (Kd.fE (Kd.CP (Kd.CP (Kd.CP (Kd.ade JF hb) (Kd.dJ CO)) (Kd.wK TQ)) (Kd.dJ Ls)) oI) (jA (Kd.gq GL (Kd.dJ Ls) hb) (jA (Kd.dC (Kd.jh (Kd.aD (ok':=fun k_=>True) CO o8) (Kd.iY GK)) (ah CQ)) (jA (Kd.qP (Kd.fE (ok':=fun k_=>some k_≠(vq3:Value).ownBlock∧some k_≠(vq5:Value).ownBlock∧some k_≠(.slice H5 ut.length GM:Value).ownBlock∧some k_≠(.slice Ap wL.length zB:Value).ownBlock∧some k_≠(.slice qc uu.length mE:Value).ownBlock∧k_≠mU) TQ (fun k_ hk_=>⟨hk_.2.1,hk_.2.2,(Kd.fresh' (Kd.iY GK) k_ hk_.1),(Kd.fresh' (Kd.BO JF) k_ hk_.1),(Kd.fresh' (Kd.iY GL) k_ hk_.1),(Kd.kg (g:=mU) (o:=.cells #[.slice H5 ut.length GM,.string GN,.slice Ap wL.length zB,.slice qc uu.length mE] 28 (0,0)) WM k_ hk_.1)⟩)) (ah CQ)) (jA (Kd.dC (Kd.jh (Kd.aD (ok':=fun k_=>True) Ls o8) (Kd.iY GL)) (ah CQ)) (jA (dE jb hb) (jC (ae CQ hb))))))))):p:=h
theorem Z2 (h:p:=by exact jA (Kd.aD (Kd.ky (ag.apart (show ag w0 _ g bi ko kr from nK) abo au) hk mV) oI) (jA (Kd.aD (Kd.ky (ag.apart (show ag w0 _ g bi ko kr from nK) GQ au) hk mV) oI) (jA (Kd.gu (Kd.rC (ag.qD (show ag w0 _ g bi ko kr from nK) TR au) hk mV) oI) (jA (Kd.aD (Kd.ky (ag.apart (show ag w0 _ g bi ko kr from nK) Na au) hk mV) oI) (jA (uz hk fP ug.o gQ) (jA (uz hk fK qQ.o gQ) (jA (aA.trans wM hk (.inl rfl)) (jA (hb) (jC (hi)))))))))):p:=h
theorem Z3 (h:p:=by exact (d_.one (show Kd.FK (Kd.slice 3 (Kd.int .i64)) _ _ FO [.slice PG FO.length PH] from (Kd.sJ (Kd.a_ (Kd.aD (ok':=(fun k_=>(w.heap.size≤k_)∧some k_≠(.slice (some lI) kF.length lu:Value).ownBlock∧some k_≠(.slice lS kK.length lT:Value).ownBlock∧some k_≠(.slice oD fo.length oF:Value).ownBlock∧some k_≠(.slice jl bK.length jm:Value).ownBlock∧some k_≠(rD:Value).ownBlock∧k_≠bO∧k_≠bV∧k_≠aX∧k_≠dV)) (Kd.iW (Kd.iW (Kd.iW (Kd.iW (Kd.ji (Kd.ji (Kd.ji (AJ.o) (Kd.m_ lc.o) au) (Kd.ng fH.o) au) (Kd.m_ dR.o) au) bI.o au) bQ.o au) dA.o au) di.o au) (fun k_ hk=>⟨hk.1.1.1.1.1.1.1.1.1.1,⟨hk.1.1.1.1.1.1.2,⟨hk.1.1.1.1.1.2,⟨hk.1.1.1.1.2,⟨hk.1.1.1.1.1.1.1.1.2,⟨hk.1.1.1.1.1.1.1.2,⟨hk.1.1.1.2,⟨hk.1.1.2,⟨hk.1.2,hk.2⟩⟩⟩⟩⟩⟩⟩⟩⟩))).2.1 (Kd.R_F (Kd.aD (ok':=(fun k_=>(w.heap.size≤k_)∧some k_≠(.slice (some lI) kF.length lu:Value).ownBlock∧some k_≠(.slice lS kK.length lT:Value).ownBlock∧some k_≠(.slice oD fo.length oF:Value).ownBlock∧some k_≠(.slice jl bK.length jm:Value).ownBlock∧some k_≠(rD:Value).ownBlock∧k_≠bO∧k_≠bV∧k_≠aX∧k_≠dV)) (Kd.iW (Kd.iW (Kd.iW (Kd.iW (Kd.ji (Kd.ji (Kd.ji (AJ.o) (Kd.m_ lc.o) au) (Kd.ng fH.o) au) (Kd.m_ dR.o) au) bI.o au) bQ.o au) dA.o au) di.o au) (fun k_ hk=>⟨hk.1.1.1.1.1.1.1.1.1.1,⟨hk.1.1.1.1.1.1.2,⟨hk.1.1.1.1.1.2,⟨hk.1.1.1.1.2,⟨hk.1.1.1.1.1.1.1.1.2,⟨hk.1.1.1.1.1.1.1.2,⟨hk.1.1.1.2,⟨hk.1.1.2,⟨hk.1.2,hk.2⟩⟩⟩⟩⟩⟩⟩⟩⟩))))) (d_.none _ _))):p:=h
theorem Z4 (h:p:=by exact jA (Kd.nY Lt hb) (jA (Kd.bX Lu hb) (jA (dE gY hb) (jA (bU.below CR hb) (jA (ae Eu hb) (jA (hbox) (jA ((awo:w.heap.size≤kV)) (jA ((apW:l6≠kV)) (jA ((apX:kV≠l6)) (jA ((by rw[hg];exact Nat.ne_of_lt (bU.lt (show bU w _ rQ nO nP from CR)):rQ≠kV)) (jC ((by rw[hg];exact Nat.ne_of_gt (bU.lt (show bU w _ rQ nO nP from CR)):kV≠rQ))))))))))))):p:=h
theorem Z5 (h:p:=by exact jA (Kd.kC GQ (Kd.ng abo) au hg) (jA (Kd.sW (ok:=(fun k_=>some k_≠(mP:Value).ownBlock)) aiL hg hat) (jA (Kd.uN (ok:=(fun _=>True)) (by refine pR ?_;exact Kd.aD eB.o (fun _ hk=>⟨trivial,hk⟩)) hg hat) (jA (kQ fP hg (Kd.lJ uA.o fP.o au)) (jA (kQ fK hg (Kd.lJ uA.o fK.o au)) (jA (ag.grown aiM hg (ag.own_ne HI0.o uA.o au)) (jA (ni xh HL.o hb) (jA (aA.trans wM (aA.qR hg g) (Kd.zC uA.o)) (jC (ho)))))))))):p:=h
theorem Z6 (h:p:=by exact jA (Kd.aD (Kd.ky (ag.apart (show ag w0 _ g bi ko kr from qd) Ew au) hk mV) oI) (jA (Kd.gu (Kd.rC (ag.qD (show ag w0 _ g bi ko kr from qd) JG au) hk mV) oI) (jA (Kd.aD (Kd.ky (ag.apart (show ag w0 _ g bi ko kr from qd) Aq au) hk mV) oI) (jA (uz hk dI rY.o gQ) (jA (uz hk aW qU.o gQ) (jA (aA.trans uB hk (.inl rfl)) (jA (hb) (jC (hi))))))))):p:=h
theorem Z7 (h:p:=by exact jA (Kd.aD (Kd.ky (ag.apart (show ag w0 _ g bi wN wP from qd) Ew au) hk mV) oI) (jA (Kd.gu (Kd.rC (ag.qD (show ag w0 _ g bi wN wP from qd) JG au) hk mV) oI) (jA (Kd.aD (Kd.ky (ag.apart (show ag w0 _ g bi wN wP from qd) Aq au) hk mV) oI) (jA (uz hk dI rY.o gQ) (jA (uz hk aW qU.o gQ) (jA (aA.trans uB hk (.inl rfl)) (jA (hb) (jC (hi))))))))):p:=h
theorem Z8 (h:p:=by exact jA (Kd.bX GK hb) (jA (Kd.kD (Kd.mF JF uC (Nat.le_of_eq hg.symm)) hb) (jA (Kd.bX GL hb) (jA (Kd.bX aiN hb) (jA (Kd.kD (Kd.mF aiO uC (Nat.le_of_eq hg.symm)) hb) (jA (Kd.bX aiP hb) (jA (dE jb hb) (jA (dE oG hb) (jA (ae awp hb) (jA (hbox) (jA ((by rw[hg];exact (ah awp):w.heap.size≤uC)) (jA ((TS:mU≠uC)) (jA ((TT:uC≠mU)) (jA ((adf:uh≠uC)) (jC ((adg:uC≠uh))))))))))))))))):p:=h
theorem Z9 (h:p:=by exact jA (Kd.jo JH (Kd.wK sK) hb) (jA (Kd.bX Ar hb) (jA (Kd.jo Bq (Kd.wK sK) hb) (jA (Kd.bX zb hb) (jA (Kd.oH TU (Kd.wK sK) hb) (jA (Kd.oH TV (Kd.wK sK) hb) (jA (Kd.bX OO hb) (jA (Kd.qP sK (ah rT)) (jA (dE bI hb) (jA (dE bQ hb) (jA (dE dA hb) (jA (dE di hb) (jC (ae rT hb)))))))))))))):p:=h
theorem Z10 (h:p:=by exact jA (Kd.kC GQ (Kd.kI TR) au hg) (jA (Kd.kC Na (Kd.kI TR) au hg) (jA (kQ fP hg (Kd.Ex ic.o fP.o au)) (jA (kQ fK hg (Kd.Ex ic.o fK.o au)) (jA (ag.grown aiM hg (ag.ui HI0.o ic.o au)) (jA (ni xh HL.o hb) (jA (aA.trans wM (aA.qR hg g) (Kd.L_ ic.o)) (jC (ho))))))))):p:=h
theorem Z11 (h:p:=by exact jA (Kd.kC GQ (Kd.ng Na) au hg) (jA (kQ fP hg (Kd.lJ eB.o fP.o au)) (jA (kQ fK hg (Kd.lJ eB.o fK.o au)) (jA (ag.grown aiM hg (ag.own_ne HI0.o eB.o au)) (jA (Kd.sW (ok:=(fun _=>True)) (by refine pS ?_;exact Kd.gu qf.o (fun _ hk=>⟨trivial,hk⟩)) hg hat) (jA (ni xh HL.o hb) (jA (aA.trans wM (aA.qR hg g) (Kd.zC eB.o)) (jC (ho))))))))):p:=h
theorem Z12 (h:p:=by exact (fun k_ hk=>⟨(Nat.le_trans (ah rT) hk),Kd.fresh' (Kd.BO JH) k_ hk,Kd.fresh' (Kd.iY Ar) k_ hk,Kd.fresh' (Kd.iY zb) k_ hk,Kd.fresh' (Kd.iY OO) k_ hk,Kd.kg (g:=bO) (o:=.cells #[.slice none 0 0,.string kE,.slice none 0 0,.slice none 0 0] 28 (0,0)) DY k_ hk,Kd.kg (g:=bV) (o:=.cells #[.int .i64 jc,.int .i64 gW,.int .i64 fQ] 33 (0,0)) DZ k_ hk,Kd.kg (g:=aX) (o:=.cells #[.int .i64 vo,.int .i64 vB,.int .i64 vS] 33 (0,0)) FP k_ hk,Kd.kg (g:=dV) (o:=.cells #[.slice lS kK.length lT,.string (jg ByteArray.empty (aN gz 0) (lU)),.slice oD fo.length oF,.slice jl bK.length jm] 28 (0,0)) Nb k_ hk⟩)):p:=h
theorem Z13 (h:p:=by exact jA (Kd.bX GK hb) (jA (Kd.kD (Kd.mF JF uh (Nat.le_of_eq hg.symm)) hb) (jA (Kd.bX GL hb) (jA (Kd.bX aiN hb) (jA (Kd.kD (Kd.mF aiO uh (Nat.le_of_eq hg.symm)) hb) (jA (Kd.bX aiP hb) (jA (dE jb hb) (jA (ae CQ hb) (jA (hbox) (jA ((awq:w.heap.size≤uh)) (jA ((TS:mU≠uh)) (jC ((TT:uh≠mU)))))))))))))):p:=h
theorem Z14 (h:p:=by exact jA (Kd.qP (Kd.fE (ok':=fun k_=>(w.heap.size≤k_)∧k_≠bO∧k_≠bV) (Kd.S_N (Kd.AL adh)) (fun k_ hk_=>⟨(Nat.le_trans (ah TW) hk_.2.1),(Kd.kg (g:=bO) (o:=.cells #[.slice none 0 0,.string (⟨#[]⟩:ByteArray),.slice none 0 0,.slice none 0 0] 28 (0,0)) DY k_ hk_.2.1),(Kd.kg (g:=bV) (o:=.cells #[.int .i64 0,.int .i64 0,.int .i64 0] 33 (0,0)) DZ k_ hk_.2.1)⟩)) (ah TW)) (jA (dE bI hb) (jA (dE bQ hb) (jC (ae TW hb))))):p:=h
theorem Z15 (h:p:=by exact jA (Kd.qP (Kd.fE (ok':=fun k_=>(w.heap.size≤k_)∧k_≠bO∧k_≠bV) (Kd.S_N (Kd.AL ho0)) (fun k_ hk_=>⟨(Nat.le_trans (ah TW) hk_.2.1),(Kd.kg (g:=bO) (o:=.cells #[.slice none 0 0,.string (⟨#[]⟩:ByteArray),.slice none 0 0,.slice none 0 0] 28 (0,0)) DY k_ hk_.2.1),(Kd.kg (g:=bV) (o:=.cells #[.int .i64 0,.int .i64 0,.int .i64 0] 33 (0,0)) DZ k_ hk_.2.1)⟩)) (ah TW)) (jA (dE bI hb) (jA (dE bQ hb) (jC (ae TW hb))))):p:=h
theorem Z16 (h:p:=by exact jA (Kd.gu (Kd.rC (bU.qD (show bU w _ rQ nO nP from Nc) Lt au) hk mV) oI) (jA (uz hk gY Ff.o gQ) (jA (Kd.aD (Kd.ky (bU.apart (show bU w _ rQ nO nP from Nc) awr au) hk mV) oI) (jA (hb) (jC (hi)))))):p:=h
theorem Z17 (h:p:=by exact jA (Kd.nY aws hb) (jA (Kd.bX awt hb) (jA (oM (g:=jJ) (o:=.cells #[.int .i64 pG,.int .i64 pI,.int .i64 pJ] 33 (0,0)) awu hb) (jA (oM (g:=uD) (o:=.cells #[.int .i64 2,.int .i64 (jw.length:Int),.int .i64 (qg.length:Int)] 33 (0,0)) (by refine bP ?_;exact sH (sH (sH (gy.o)))) hb) (jC (ae BP hb)))))):p:=h
theorem Z18 (h:p:=by exact jA (Kd.kD (Kd.mF apZ aX (Nat.le_of_eq hg.symm)) hb) (jA (dE bI hb) (jA (dE bQ hb) (jA (ae TW hb) (jA (hbox) (jA ((by rw[hg];exact (ah TW):w.heap.size≤aX)) (jA ((aiQ:bO≠aX)) (jA ((aiR:aX≠bO)) (jA ((ap0:bV≠aX)) (jC ((ap1:aX≠bV)))))))))))):p:=h
theorem Z19 (h:p:=by exact jA (Kd.nY OP hb) (jA (dE bM hb) (jA (dE bW hb) (jA (ae abp hb) (jA (hbox) (jA ((by rw[hg];exact (ah abp):w.heap.size≤eX)) (jA ((adi:iX≠eX)) (jA ((adj:eX≠iX)) (jA ((aiS:jK≠eX)) (jC ((aiT:eX≠jK)))))))))))):p:=h
theorem Z20 (h:p:=by exact jA (Kd.gu (Kd.rC (bU.qD (show bU w _ rQ uO qG from CR) Lt au) hk mV) oI) (jA (Kd.aD (Kd.ky (bU.apart (show bU w _ rQ uO qG from CR) Lu au) hk mV) oI) (jA (uz hk gY Ff.o gQ) (jA (hb) (jC (hi)))))):p:=h
theorem Z21 (h:p:=by first|exact of_eq_false adk|exact of_eq_false amH|exact of_eq_false aZ8|exact of_eq_false aNg|exact of_eq_false aZ9|exact of_eq_false adl|(have YI:=of_eq_true vC;have YJ:=of_eq_true yA;have h_:=c12;simp only[ByteArray.size_append,ByteArray.size_extract] at h_ ⊢;omega)|(have h_:=c12;simp only[ByteArray.size_append,ByteArray.size_extract] at h_ ⊢;omega)|(have YI:=of_eq_true vC;have YJ:=of_eq_true yA;have h_:=c9;simp only[ByteArray.size_append,ByteArray.size_extract] at h_ ⊢;omega)|(have h_:=c9;simp only[ByteArray.size_append,ByteArray.size_extract] at h_ ⊢;omega)|(have YI:=of_eq_true vC;have YJ:=of_eq_true yA;have h_:=c7;simp only[ByteArray.size_append,ByteArray.size_extract] at h_ ⊢;omega)|(have h_:=c7;simp only[ByteArray.size_append,ByteArray.size_extract] at h_ ⊢;omega)):p:=h
theorem Z22 (h:p:=by exact jA (Kd.nY GR hb) (jA (Kd.bX Lu hb) (jA (dE dK hb) (jA (ae GU hb) (jA (hbox) (jA ((by rw[hg];exact (ah GU):w.heap.size≤uD)) (jA ((by rw[hg];exact Nat.ne_of_lt (tJ dK):jJ≠uD)) (jC ((by rw[hg];exact Nat.ne_of_gt (tJ dK):uD≠jJ)))))))))):p:=h
theorem Z23 (h:p:=by exact jA (Kd.nY aws hb) (jA (Kd.bX awt hb) (jA (oM (g:=jJ) (o:=.cells #[.int .i64 pG,.int .i64 pI,.int .i64 pJ] 33 (0,0)) awu hb) (jC (ae BP hb))))):p:=h
theorem Z24 (h:p:=by exact jA (Kd.dC D5 (kY (w:=w) (g:=g) (row:=none) qy)) (jA (ag.below nk hb) (jA (aA.trans qy (aA.of_below hb g none) (.inl rfl)) (jC (ae nQ hb))))):p:=h
theorem Z25 (h:p:=by refine bF jd ?_;refine bF jd ?_;refine bF jd ?_;refine bP ?_;refine eH (cs:=#[.slice none 0 0,.string (⟨#[]⟩:ByteArray),.slice none 0 0,.slice none 0 0]) ?_ 3 _ rfl;refine bP ?_;refine eH (cs:=#[.slice none 0 0,.string (⟨#[]⟩:ByteArray),.slice none 0 0,.slice none 0 0]) ?_ 2 _ rfl;refine bP ?_;refine eH (cs:=#[.slice none 0 0,.string (⟨#[]⟩:ByteArray),.slice none 0 0,.slice none 0 0]) ?_ 1 _ rfl;refine bP ?_;refine eH (cs:=#[.slice none 0 0,.string (⟨#[]⟩:ByteArray),.slice none 0 0,.slice none 0 0]) ?_ 0 _ rfl;refine bF jL ?_;refine bF jL ?_;refine bF jL ?_;refine bP ?_;exact bM.o):p:=h
theorem Z26 (h:p:=by exact jA (Kd.gq ap2 (Kd.dJ ho0) hb) (jA (Kd.dC (Kd.jh ho0 (Kd.iY ap2)) (ah qh)) (jA (dE ax hb) (jC (ae qh hb))))):p:=h
theorem Z27 (h:p:=by exact (by skip;exact Kd.N_F (Kd.fE (ok':=(fun k_=>((fun k_=>(w.heap.size≤k_)∧some k_≠(.slice (some lI) kF.length lu:Value).ownBlock∧some k_≠(.slice lS kK.length lT:Value).ownBlock∧some k_≠(.slice jl bK.length jm:Value).ownBlock∧some k_≠(rD:Value).ownBlock∧k_≠bO∧k_≠bV∧k_≠aX∧k_≠dV)) k_∧some k_≠(.slice oD fo.length oF:Value).ownBlock)) (qV.o) (fun k_ hk=>⟨⟨hk.1,⟨hk.2.1,⟨hk.2.2.1,⟨hk.2.2.2.2.1,⟨hk.2.2.2.2.2.1,⟨hk.2.2.2.2.2.2.1,⟨hk.2.2.2.2.2.2.2.1,⟨hk.2.2.2.2.2.2.2.2.1,hk.2.2.2.2.2.2.2.2.2⟩⟩⟩⟩⟩⟩⟩⟩,hk.2.2.2.1⟩)))):p:=h
theorem Z28 (h:p:=by exact jA (bU.grown mW hg (bU.own_ne HI0.o df.o au)) (jA (ni FQ HL.o hb) (jA (aA.trans qy (aA.qR hg g) (Kd.zC df.o)) (jC (ho))))):p:=h
theorem Z29 (h:p:=by exact jA (kQ bM hg (Kd.lJ xq.o bM.o au)) (jA (kQ bW hg (Kd.lJ xq.o bW.o au)) (jA (Kd.sW (ok:=(fun _=>True)) OP hg hat) (jA (kQ dP hg (Kd.lJ xq.o dP.o au)) (jA (Kd.uN (ok:=(fun k_=>some k_≠(.slice (some vY) jy.length z8:Value).ownBlock)) GV hg hat) (jA (kQ eF hg (Kd.lJ xq.o eF.o au)) (jA (hb) (jC (ho))))))))):p:=h
theorem Z30 (h:p:=by exact jA (Kd.bX GK hb) (jA (Kd.kD JF hb) (jA (Kd.bX GL hb) (jA (dE jb hb) (jC (ae CQ hb)))))):p:=h
theorem Z31 (h:p:=by exact jA (bU.below mW hb) (jA (aA.trans qy (aA.of_below hb g none) (.inl rfl)) (jC (ae FQ hb)))):p:=h
theorem Z32 (h:p:=by exact jA (Kd.bX ap3 hb) (jA (Kd.kD awy hb) (jA (Kd.bX ap4 hb) (jA (dE jb hb) (jC (ae CQ hb)))))):p:=h
theorem Z33 (h:p:=by exact jA (dE bM hb) (jA (ae awC hb) (jA (hbox) (jA ((by rw[hg];exact (ah awC):w.heap.size≤jK)) (jA ((adi:iX≠jK)) (jC ((adj:jK≠iX)))))))):p:=h
theorem Z34 (h:p:=by exact jA (dE xu hb) (jA (ae awD hb) (jA (hbox) (jA ((by rw[hg];exact (ah awD):w.heap.size≤PI)) (jA ((by rw[hg];exact Nat.ne_of_lt (tJ xu):PK≠PI)) (jC ((by rw[hg];exact Nat.ne_of_gt (tJ xu):PI≠PK)))))))):p:=h
theorem Z35 (h:p:=by exact jA (dE qW hb) (jA (ae awE hb) (jA (hbox) (jA ((by rw[hg];exact (ah awE):w.heap.size≤PL)) (jA ((by rw[hg];exact Nat.ne_of_lt (tJ qW):PM≠PL)) (jC ((by rw[hg];exact Nat.ne_of_gt (tJ qW):PL≠PM)))))))):p:=h
theorem Z36 (h:p:=by exact jA (dE bI hb) (jA (ae awF hb) (jA (hbox) (jA ((by rw[hg];exact (ah awF):w.heap.size≤bV)) (jA ((aiQ:bO≠bV)) (jC ((aiR:bV≠bO)))))))):p:=h
theorem Z37 (h:p:=by exact jA (Kd.nY OP hb) (jA (Kd.bX GV hb) (jA (dE bM hb) (jA (dE bW hb) (jA (dE dP hb) (jC (ae CS hb))))))):p:=h
theorem Z38 (h:p:=by exact jA (Kd.sZ adh (ah abp)) (jA (dE bM hb) (jA (dE bW hb) (jC (ae abp hb))))):p:=h
theorem Z39 (h:p:=by exact jA (Kd.sZ ho0 (ah abp)) (jA (dE bM hb) (jA (dE bW hb) (jC (ae abp hb))))):p:=h
theorem Z40 (h:p:=by exact jA (ag.below D6 hb) (jC (ae CU hb))):p:=h
theorem Z41 (h:p:=by refine bP ?_;refine eH (cs:=#[.int .i64 JI,.int .i64 Lv,.int .i64 0]) ?_ 2 _ rfl;refine bP ?_;refine eH (cs:=#[.int .i64 JI,.int .i64 0,.int .i64 0]) ?_ 1 _ rfl;refine bP ?_;refine eH (cs:=#[.int .i64 0,.int .i64 0,.int .i64 0]) ?_ 0 _ rfl;refine bF xB ?_;refine bF xB ?_;refine bF xB ?_;refine bF xB ?_;refine bP ?_;exact qX.o):p:=h
theorem Z42 (h:p:=by exact jA (Kd.kD Nf hb) (jA (Kd.bX OQ hb) (jA (dE dN hb) (jC (ae vv hb))))):p:=h
theorem Z43 (h:p:=by exact jA (Kd.dC FR (ah vv)) (jA (dE dN hb) (jC (ae vv hb)))):p:=h
theorem Z44 (h:p:=by exact jA (Kd.dC ho0 (ah qh)) (jA (dE ax hb) (jC (ae qh hb)))):p:=h
theorem Z45 (h:p:=by (try simp only[List.map_toArray,List.map_cons,List.map_nil]);first|done|(rw[show ((aN gz 0).take ((lU):Int).toNat).length=(lU).toNat from (by rw[List.length_take];have h_:((lU):Int)≤((aN gz 0).length:Int):=oT bL;omega)]<;>rfl)|(simp only[Ng];rfl)|rfl|(simp only[List.length_drop,List.length_take];rfl)):p:=h
theorem Z46 (h:p:=by (try simp only[List.map_toArray,List.map_cons,List.map_nil]);first|done|(rw[show ((aN gz 0).take (uY:Int).toNat).length=uY.toNat from (by rw[List.length_take];have h_:(uY:Int)≤((aN gz 0).length:Int):=oT bL;omega)]<;>rfl)|rfl|(simp only[List.length_drop,List.length_take];rfl)):p:=h
theorem Z47 (h:p:=by exact jA (ae dn hb) (jA (hbox) (jC ((H6:w.heap.size≤Ey))))):p:=h
theorem Z48 (h:p:=by exact jA (ae dn hb) (jA (hbox) (jC ((H6:w.heap.size≤gT))))):p:=h
theorem Z49 (h:p:=by exact jA (ae dn hb) (jA (hbox) (jC ((H6:w.heap.size≤iX))))):p:=h
theorem Z50 (h:p:=by exact jA (ae dn hb) (jA (hbox) (jC ((H6:w.heap.size≤PK))))):p:=h
theorem Z51 (h:p:=by exact jA (ae dn hb) (jA (hbox) (jC ((H6:w.heap.size≤PM))))):p:=h
theorem Z52 (h:p:=by exact jA (ae dn hb) (jA (hbox) (jC ((H6:w.heap.size≤bO))))):p:=h
theorem Z53 (h:p:=by exact jA (ae dn hb) (jA (hbox) (jC ((H6:w.heap.size≤KS))))):p:=h
theorem Z54 (h:p:=by exact jA (ae dn hb) (jA (hbox) (jC ((H6:w.heap.size≤jJ))))):p:=h
theorem Z55 (h:p:=by exact jA (ae dn hb) (jA (hbox) (jC ((H6:w.heap.size≤l6))))):p:=h
theorem Z56 (h:p:=by exact jA (ae dn hb) (jA (hbox) (jC ((H6:w.heap.size≤nI))))):p:=h
theorem Z57 (h:p:=by exact jA (ae dn hb) (jA (hbox) (jC ((H6:w.heap.size≤nu))))):p:=h
theorem Z58 (h:p:=by refine pV ?_;exact Kd.r_ ik.o (fun _ hk=>⟨⟨hk.1.1.1.1.1,⟨hk.1.1.1.2,⟨hk.1.1.1.1.2.1,⟨hk.1.1.1.1.2.2.2.1,⟨hk.1.2,⟨hk.2,⟨hk.1.1.1.1.2.2.2.2.1,⟨hk.1.1.1.1.2.2.2.2.2.1,⟨hk.1.1.1.1.2.2.2.2.2.2.1,hk.1.1.1.1.2.2.2.2.2.2.2⟩⟩⟩⟩⟩⟩⟩⟩⟩,hk.1.1.1.1.2.2.1⟩)):p:=h
theorem Z59 (h:p:=by repeat (first|exact (Kd.kR adm.o TY)|(with_reducible refine Kd.dF ?_ _)|(with_reducible refine Kd.dG ?_ _)|(with_reducible refine Kd.eQ ?_))):p:=h
theorem Z60 (h:p:=by repeat (first|exact (Kd.kR zn.o TY)|(with_reducible refine Kd.dF ?_ _)|(with_reducible refine Kd.dG ?_ _)|(with_reducible refine Kd.eQ ?_))):p:=h
theorem Z61 (h:p:=by refine pV ?_;exact Kd.r_ ny.o (fun _ hk=>⟨⟨hk.1.1.1.1.1,⟨hk.1.1.1.2,⟨hk.1.1.1.1.2.1,⟨hk.1.1.1.1.2.2.2.1,⟨hk.1.2,⟨hk.2,⟨hk.1.1.1.1.2.2.2.2.1,⟨hk.1.1.1.1.2.2.2.2.2.1,⟨hk.1.1.1.1.2.2.2.2.2.2.1,hk.1.1.1.1.2.2.2.2.2.2.2⟩⟩⟩⟩⟩⟩⟩⟩⟩,hk.1.1.1.1.2.2.1⟩)):p:=h
theorem Z62 (h:p:=by first|(rw[add_block];exact Kd.qY (ag.ui HI0.o aC.o au))|(show (Addr.add _ _).block≠_;rw[add_block];exact Kd.qY (ag.ui HI0.o aC.o au))|exact Kd.qY (ag.ui HI0.o aC.o au)|(dsimp only;exact Kd.qY (ag.ui HI0.o aC.o au))):p:=h
theorem Z63 (h:p:=by refine bF zN ?_;refine bF zN ?_;refine bF zN ?_;refine bF xC ?_;refine bF xC ?_;refine bF xC ?_;refine bF xC ?_;refine bP ?_;exact jb.o):p:=h
theorem Z64 (h:p:=by exact jA (Kd.sW (ok:=(fun _=>True)) awI hg hat) (jA (kQ dK hg (Kd.lJ iy.o dK.o au)) (jA (kQ gy hg (Kd.lJ iy.o gy.o au)) (jA (hb) (jC (ho)))))):p:=h
theorem Z65 (h:p:=by refine pV ?_;exact Kd.r_ ik.o (fun _ hk=>⟨hk.1.1,⟨hk.1.2.2.2.2.2.1,⟨hk.2,⟨hk.1.2.2.2.2.1,⟨hk.1.2.2.1,⟨hk.1.2.2.2.1,⟨hk.1.2.1,⟨hk.1.2.2.2.2.2.2.1,⟨hk.1.2.2.2.2.2.2.2.1,⟨hk.1.2.2.2.2.2.2.2.2.1,hk.1.2.2.2.2.2.2.2.2.2⟩⟩⟩⟩⟩⟩⟩⟩⟩⟩)):p:=h
theorem Z66 (h:p:=by refine pV ?_;exact Kd.r_ ny.o (fun _ hk=>⟨hk.1.1,⟨hk.1.2.2.2.2.2.1,⟨hk.2,⟨hk.1.2.2.2.2.1,⟨hk.1.2.2.1,⟨hk.1.2.2.2.1,⟨hk.1.2.1,⟨hk.1.2.2.2.2.2.2.1,⟨hk.1.2.2.2.2.2.2.2.1,⟨hk.1.2.2.2.2.2.2.2.2.1,hk.1.2.2.2.2.2.2.2.2.2⟩⟩⟩⟩⟩⟩⟩⟩⟩⟩)):p:=h
theorem Z67 (h:p:=by first|(rw[add_block];exact Kd.qY (ag.ui gZ.o gK.o au))|(show (Addr.add _ _).block≠_;rw[add_block];exact Kd.qY (ag.ui gZ.o gK.o au))|exact Kd.qY (ag.ui gZ.o gK.o au)|(dsimp only;exact Kd.qY (ag.ui gZ.o gK.o au))):p:=h
theorem Z68 (h:p:=by repeat (first|exact (by repeat (first|(with_reducible exact CV.o)|(with_reducible refine Kd.dF ?_ _)|(with_reducible refine Kd.dG ?_ _)|(with_reducible refine Kd.eQ ?_)|exact CV.o))|(with_reducible refine Kd.dF ?_ _)|(with_reducible refine Kd.dG ?_ _)|(with_reducible refine Kd.eQ ?_))):p:=h
theorem Z69 (h:p:=by exact jA (Kd.dC ho3 (ah dn)) (jC (ae dn hb))):p:=h
theorem Z70 (h:p:=by repeat (first|exact adn|(with_reducible refine Kd.dF ?_ _)|(with_reducible refine Kd.dG ?_ _)|(with_reducible refine Kd.eQ ?_))):p:=h
theorem Z71 (h:p:=by repeat (first|exact (Kd.kR zo.o Br)|(with_reducible refine Kd.dF ?_ _)|(with_reducible refine Kd.dG ?_ _)|(with_reducible refine Kd.eQ ?_))):p:=h
theorem Z72 (h:p:=by repeat (first|exact (Kd.kR amJ.o WN)|(with_reducible refine Kd.dF ?_ _)|(with_reducible refine Kd.dG ?_ _)|(with_reducible refine Kd.eQ ?_))):p:=h
theorem Z73 (h:p:=by repeat (first|exact (Kd.kR amK.o Br)|(with_reducible refine Kd.dF ?_ _)|(with_reducible refine Kd.dG ?_ _)|(with_reducible refine Kd.eQ ?_))):p:=h
theorem Z74 (h:p:=by repeat (first|exact (Kd.kR zo.o qh)|(with_reducible refine Kd.dF ?_ _)|(with_reducible refine Kd.dG ?_ _)|(with_reducible refine Kd.eQ ?_))):p:=h
theorem Z75 (h:p:=by repeat (first|exact (Kd.kR DD.o qh)|(with_reducible refine Kd.dF ?_ _)|(with_reducible refine Kd.dG ?_ _)|(with_reducible refine Kd.eQ ?_))):p:=h
theorem Z76 (h:p:=by repeat (first|exact (Kd.kR zn.o qh)|(with_reducible refine Kd.dF ?_ _)|(with_reducible refine Kd.dG ?_ _)|(with_reducible refine Kd.eQ ?_))):p:=h
theorem Z77 (h:p:=by first|exact Kd.qY (Kd.lJ iG.o eF.o au)|(rw[add_block];exact Kd.qY (Kd.lJ iG.o eF.o au))|(show (Addr.add _ _).block≠_;rw[add_block];exact Kd.qY (Kd.lJ iG.o eF.o au))|(dsimp only;exact Kd.qY (Kd.lJ iG.o eF.o au))):p:=h
theorem Z78 (h:p:=by refine pN ?_;exact Kd.fE lc.o (fun _ hk=>⟨⟨hk.1.1.1.1,⟨hk.1.1.1.2.1,⟨hk.1.1.1.2.2.2.1,⟨hk.1.2,⟨hk.2,⟨hk.1.1.1.2.2.2.2.1,⟨hk.1.1.1.2.2.2.2.2.1,⟨hk.1.1.1.2.2.2.2.2.2.1,hk.1.1.1.2.2.2.2.2.2.2⟩⟩⟩⟩⟩⟩⟩⟩,hk.1.1.1.2.2.1⟩)):p:=h
theorem Z79 (h:p:=by repeat (first|(with_reducible first|exact HI0.o|exact ag.far HI0.o qZ.o _|exact ag.far HI0.o qx.o _|apply ag.alloc|apply ag.drewN|apply ag.drew|apply ag.uZ|apply ag.yC|refine ag.far ?_ qZ.o _|refine ag.far ?_ qx.o _)|exact HI0.o)):p:=h
theorem Z80 (h:p:=by refine pN ?_;exact Kd.fE qV.o (fun _ hk=>⟨hk.1.1,⟨hk.2,⟨hk.1.2.2.2.2.1,⟨hk.1.2.2.1,⟨hk.1.2.2.2.1,⟨hk.1.2.1,⟨hk.1.2.2.2.2.2.1,⟨hk.1.2.2.2.2.2.2.1,⟨hk.1.2.2.2.2.2.2.2.1,hk.1.2.2.2.2.2.2.2.2⟩⟩⟩⟩⟩⟩⟩⟩⟩)):p:=h
theorem Z81 (h:p:=by refine pN ?_;exact Kd.fE lc.o (fun _ hk=>⟨hk.1.1,⟨hk.1.2.2.2.2.1,⟨hk.2,⟨hk.1.2.2.2.1,⟨hk.1.2.1,⟨hk.1.2.2.1,⟨hk.1.2.2.2.2.2.1,⟨hk.1.2.2.2.2.2.2.1,⟨hk.1.2.2.2.2.2.2.2.1,hk.1.2.2.2.2.2.2.2.2⟩⟩⟩⟩⟩⟩⟩⟩⟩)):p:=h
theorem Z82 (h:p:=by refine pN ?_;exact Kd.fE qV.o (fun _ hk=>⟨⟨hk.1,⟨hk.2.1,⟨hk.2.2.1,⟨hk.2.2.2.2.1,⟨hk.2.2.2.2.2.1,⟨hk.2.2.2.2.2.2.1,⟨hk.2.2.2.2.2.2.2.1,⟨hk.2.2.2.2.2.2.2.2.1,hk.2.2.2.2.2.2.2.2.2⟩⟩⟩⟩⟩⟩⟩⟩,hk.2.2.2.1⟩)):p:=h
theorem Z83 (h:p:=by exact (fun k_ hk=>⟨Kd.fresh' (Kd.iY OT) k_ hk,Kd.fresh' (Kd.iY Lx) k_ hk⟩)):p:=h
theorem Z84 (h:p:=by exact jA (Kd.bX abq hb) (jC (ae dn hb))):p:=h
theorem Z85 (h:p:=by repeat (first|(with_reducible first|exact HB.o|apply bq|apply ak|apply aU|refine aJ ?_ Nh.o|refine aJ ?_ TZ.o|refine aJ ?_ YK.o|refine aJ ?_ ado.o|refine aJ ?_ amL.o)|exact HB.o)):p:=h
theorem Z86 (h:p:=by rw[hg];exact (ah ap5)):p:=h
theorem Z87 (h:p:=by exact jA (Kd.sW (ok:=(fun _=>True)) awI hg hat) (jA (kQ dK hg (Kd.lJ iy.o dK.o au)) (jA (hb) (jC (ho))))):p:=h
theorem Z88 (h:p:=by refine pN ?_;exact Kd.fE AO.o (fun _ hk=>⟨hk.1,⟨hk.2.2.2.2.1,⟨hk.2.2.1,⟨hk.2.2.2.1,⟨hk.2.1,⟨hk.2.2.2.2.2.1,⟨hk.2.2.2.2.2.2.1,⟨hk.2.2.2.2.2.2.2.1,hk.2.2.2.2.2.2.2.2⟩⟩⟩⟩⟩⟩⟩⟩)):p:=h
theorem Z89 (h:p:=by exact (ah Bt)):p:=h
theorem Z90 (h:p:=by exact (ah rT)):p:=h
theorem Z91 (h:p:=by exact jA (dE qW hb) (jA (dE xw hb) (jC (ae OU hb)))):p:=h
theorem Z92 (h:p:=by exact Kd.WO PN.o (Kd.Fg (Kd.C_F Kd.KT adp.o) OU)):p:=h
theorem Z93 (h:p:=by exact Kd.WO H7.o (Kd.Fg (Kd.C_F Kd.KT zo.o) OU)):p:=h
theorem Z94 (h:p:=by exact Kd.DF (Kd.aD (Kd.yc rfl (Kd.aD (ok':=fun k_=>((fun k_=>some k_≠(mP:Value).ownBlock)) k_∧some k_≠(vH:Value).ownBlock) (Kd.ji (uA.o) (Kd.kI ic.o) au) (fun k_ hk=>⟨hk.1,hk.2⟩))) rE)):p:=h
theorem Z95 (h:p:=by exact Bt):p:=h
theorem Z96 (h:p:=by exact rT):p:=h
theorem Z97 (h:p:=by exact (kY (w:=w) (g:=g) (row:=none) wM)):p:=h
theorem Z98 (h:p:=by exact (kY (w:=w) (g:=g) (row:=none) uB)):p:=h
theorem Z99 (h:p:=by exact (ah OV)):p:=h
theorem abr (h:p:=by rw[hg];exact (ah CS)):p:=h
theorem awO (h:p:=by rw[hg];exact (ah Nl)):p:=h
theorem awP (h:p:=by rw[hg];exact (ah xD)):p:=h
theorem ap6 (h:p:=by repeat (first|(with_reducible first|exact gZ.o|exact ag.far gZ.o BQ.o _|apply ag.alloc|apply ag.drewN|apply ag.drew|apply ag.uZ|apply ag.yC|refine ag.far ?_ BQ.o _)|exact gZ.o)):p:=h
theorem awQ (h:p:=by exact oh HG.o xD):p:=h
theorem WP (h:p:=by rw[←hq_];exact xD):p:=h
theorem awR (h:p:=by exact jA (kQ dN hg (Kd.lJ Ga.o dN.o au)) (jA (Kd.uN (ok:=(fun _=>True)) adq hg hat) (jA (hb) (jC (ho))))):p:=h
theorem aiV (h:p:=by exact OV):p:=h
theorem ap7 (h:p:=by rw[hw];exact CS):p:=h
theorem awS (h:p:=by rw[hw];exact xD):p:=h
theorem awT (h:p:=by rw[hg];exact (kY (w:=w) (g:=g) (row:=none) abt)):p:=h
theorem awU (h:p:=by rw[hg];exact (kY (w:=w) (g:=g) (row:=none) Q0)):p:=h
theorem awV (h:p:=by repeat (first|exact (Kd.qi (h1:=fun _=>rfl) (awW.o _ (Kd.oW (Kd.yD ku.o).2.2)))|(with_reducible refine Kd.dF ?_ _)|(with_reducible refine Kd.dG ?_ _)|(with_reducible refine Kd.eQ ?_))):p:=h
theorem awX (h:p:=by first|(rw[add_block];exact (fun e_=>((wQ.o.1 _ e_.symm).2) rfl))|(show some (Addr.add _ _).block≠_;rw[add_block];exact (fun e_=>((wQ.o.1 _ e_.symm).2) rfl))|exact (fun e_=>((wQ.o.1 _ e_.symm).2) rfl)):p:=h
theorem wz (h:p:=by repeat (first|(with_reducible first|exact HB.o|apply bq|apply ak|apply aU|refine aJ ?_ (ag.ge HI0.o)|refine aJ ?_ PO.o|refine aJ ?_ T_.o)|exact HB.o)):p:=h
theorem awY (h:p:=by refine pN ?_;exact Kd.fE (hN0 sM.o (fun _ hk=>hk.2.2.2.2)) (fun _ hk=>⟨hk.1.1,⟨hk.1.2.1,⟨hk.1.2.2.1,⟨hk.1.2.2.2.1,hk.1.2.2.2.2⟩⟩⟩⟩)):p:=h
theorem awZ (h:p:=by refine pN ?_;exact Kd.fE (hN0 df.o (fun _ hk=>hk.1.2.2.2)) (fun _ hk=>⟨hk.1.1.1,⟨hk.1.2,⟨hk.1.1.2.1,⟨hk.1.1.2.2.1,hk.1.1.2.2.2⟩⟩⟩⟩)):p:=h
theorem ap8 (h:p:=by first|(rw[add_block];exact (fun e_=>((xq.o.1 _ e_.symm).2) rfl))|(show some (Addr.add _ _).block≠_;rw[add_block];exact (fun e_=>((xq.o.1 _ e_.symm).2) rfl))|exact (fun e_=>((xq.o.1 _ e_.symm).2) rfl)):p:=h
theorem WQ (h:p:=by exact jA (Kd.tZ bz.o) (jA (Kd.zZ aC.o) (jA (Kd.tZ aY.o) (jA (ib dI.o) (jA (ib aW.o) (jA (ag.drew HI0.o) (jA (oN HK.o) (jC (aU HB.o))))))))):p:=h
theorem ap9 (h:p:=by repeat (first|(with_reducible first|exact HB.o|apply bq|apply ak|apply aU|refine aJ ?_ Nh.o|refine aJ ?_ amN.o|refine aJ ?_ aw0.o)|exact HB.o)):p:=h
theorem WR (h:p:=by exact (ah BP)):p:=h
theorem abu (h:p:=by rw[←hq_];exact aiW):p:=h
theorem vT (h:p:=by exact jA (aA.trans qy hk (.inl rfl)) (jA (hb) (jC (hi)))):p:=h
theorem aw1 (h:p:=by rw[hw];exact aw2):p:=h
theorem aiX (h:p:=by rw[hg];exact (kY (w:=w) (g:=g) (row:=none) qy)):p:=h
theorem WS (h:p:=by exact BP):p:=h
theorem adr (h:p:=by repeat (first|(with_reducible first|exact HB.o|apply bq|apply ak|apply aU|refine aJ ?_ (ag.ge Ua.o)|refine aJ ?_ amO.o)|exact HB.o)):p:=h
theorem abv (h:p:=by repeat (first|(with_reducible first|exact HI0.o|apply ag.alloc|apply ag.drewN|apply ag.drew|apply ag.uZ|apply ag.yC|refine ag.far ?_ CW.o _)|exact HI0.o)):p:=h
theorem aiY (h:p:=by repeat (first|(with_reducible first|exact HI0.o|apply ag.alloc|apply ag.drewN|apply ag.drew|apply ag.uZ|apply ag.yC|refine ag.far ?_ qZ.o _)|exact HI0.o)):p:=h
theorem ads (h:p:=by repeat (first|(with_reducible first|exact HB.o|apply bq|apply ak|apply aU|refine aJ ?_ (ag.ge HI0.o)|refine aJ ?_ amP.o)|exact HB.o)):p:=h
theorem aw3 (h:p:=by repeat (first|(with_reducible first|exact HB.o|apply bq|apply ak|apply aU|refine aJ ?_ (ag.ge HI0.o)|refine aJ ?_ PO.o)|exact HB.o)):p:=h
theorem aw4 (h:p:=by exact (kY (w:=w) (g:=g) (row:=none) qy)):p:=h
theorem aw5 (h:p:=by repeat (first|(with_reducible first|exact HB.o|apply bq|apply ak|apply aU|refine aJ ?_ Nh.o|refine aJ ?_ amN.o)|exact HB.o)):p:=h
theorem aw6 (h:p:=by repeat (first|(with_reducible exact H8.o)|(with_reducible refine Kd.dF ?_ _)|(with_reducible refine Kd.dG ?_ _)|(with_reducible refine Kd.eQ ?_)|exact H8.o)):p:=h
theorem aw7 (h:p:=by repeat (first|(with_reducible exact H9.o)|(with_reducible refine Kd.dF ?_ _)|(with_reducible refine Kd.dG ?_ _)|(with_reducible refine Kd.eQ ?_)|exact H9.o)):p:=h
theorem WT (h:p:=by refine bF je ?_;refine bF je ?_;refine bF je ?_;refine bP ?_;exact sH (sH (sH (sH (bI.o))))):p:=h
theorem adt (h:p:=by refine bF jd ?_;refine bF jd ?_;refine bF jd ?_;refine bP ?_;exact sH (sH (sH (sH (bM.o))))):p:=h
theorem aiZ (h:p:=by refine bF zO ?_;refine bF zO ?_;refine bF zO ?_;refine bP ?_;exact sH (sH (sH (sH (oG.o))))):p:=h
theorem ai0 (h:p:=by exact oh HG.o CQ):p:=h
theorem aw8 (h:p:=by exact oh HG.o FT):p:=h
theorem aw9 (h:p:=by exact oh HG.o wR):p:=h
theorem axa (h:p:=by repeat (first|(with_reducible exact PP.o)|(with_reducible refine Kd.dF ?_ _)|(with_reducible refine Kd.dG ?_ _)|(with_reducible refine Kd.eQ ?_)|exact PP.o)):p:=h
theorem WU (h:p:=by exact (ah vv)):p:=h
theorem adu (h:p:=by exact (ah qh)):p:=h
theorem aqa (h:p:=by rw[hw];exact ai1):p:=h
theorem aqb (h:p:=by rw[hw];exact ai2):p:=h
theorem aqc (h:p:=by exact (ah wR)):p:=h
theorem axb (h:p:=by rw[hw];exact ai3):p:=h
theorem axc (h:p:=by rw[hw];exact ai4):p:=h
theorem axd (h:p:=by exact (ah FT)):p:=h
theorem D7 (h:p:=by repeat (first|(with_reducible first|exact HB.o|apply bq|apply ak|apply aU|refine aJ ?_ (ag.ge gZ.o))|exact HB.o)):p:=h
theorem D8 (h:p:=by repeat (first|exact (Kd.kR zo.o HB.o)|(with_reducible refine Kd.dF ?_ _)|(with_reducible refine Kd.dG ?_ _)|(with_reducible refine Kd.eQ ?_))):p:=h
theorem WV (h:p:=by exact vv):p:=h
theorem abw (h:p:=by repeat (first|exact (Kd.kR zn.o HB.o)|(with_reducible refine Kd.dF ?_ _)|(with_reducible refine Kd.dG ?_ _)|(with_reducible refine Kd.eQ ?_))):p:=h
theorem adv (h:p:=by exact qh):p:=h
theorem ai5 (h:p:=by repeat (first|exact (Kd.kR adp.o HB.o)|(with_reducible refine Kd.dF ?_ _)|(with_reducible refine Kd.dG ?_ _)|(with_reducible refine Kd.eQ ?_))):p:=h
theorem ai6 (h:p:=by repeat (first|exact (Kd.kR DD.o HB.o)|(with_reducible refine Kd.dF ?_ _)|(with_reducible refine Kd.dG ?_ _)|(with_reducible refine Kd.eQ ?_))):p:=h
theorem aqd (h:p:=by exact wR):p:=h
theorem axe (h:p:=by repeat (first|exact (Kd.kR adm.o HB.o)|(with_reducible refine Kd.dF ?_ _)|(with_reducible refine Kd.dG ?_ _)|(with_reducible refine Kd.eQ ?_))):p:=h
theorem axf (h:p:=by exact FT):p:=h
theorem LA (h:p:=by repeat (first|(with_reducible first|exact gZ.o|apply ag.alloc|apply ag.drewN|apply ag.drew|apply ag.uZ|apply ag.yC)|exact gZ.o)):p:=h
theorem adw (h:p:=by repeat (first|exact (Kd.a_ DI.o).2.2|(with_reducible refine Kd.dF ?_ _)|(with_reducible refine Kd.dG ?_ _)|(with_reducible refine Kd.eQ ?_))):p:=h
theorem adx (h:p:=by repeat (first|exact (Kd.a_ nL.o).2.2|(with_reducible refine Kd.dF ?_ _)|(with_reducible refine Kd.dG ?_ _)|(with_reducible refine Kd.eQ ?_))):p:=h
theorem axg (h:p:=by repeat (first|exact (Kd.yD ny.o).2.2|(with_reducible refine Kd.dF ?_ _)|(with_reducible refine Kd.dG ?_ _)|(with_reducible refine Kd.eQ ?_))):p:=h
theorem axh (h:p:=by repeat (first|exact (Kd.fe KU.o).2.2|(with_reducible refine Kd.dF ?_ _)|(with_reducible refine Kd.dG ?_ _)|(with_reducible refine Kd.eQ ?_))):p:=h
theorem axi (h:p:=by repeat (first|exact (Kd.a_ z_.o).2.2|(with_reducible refine Kd.dF ?_ _)|(with_reducible refine Kd.dG ?_ _)|(with_reducible refine Kd.eQ ?_))):p:=h
theorem axj (h:p:=by repeat (first|exact (Kd.a_ Aa.o).2.2|(with_reducible refine Kd.dF ?_ _)|(with_reducible refine Kd.dG ?_ _)|(with_reducible refine Kd.eQ ?_))):p:=h
theorem axk (h:p:=by repeat (first|exact (Kd.a_ KV.o).2.2|(with_reducible refine Kd.dF ?_ _)|(with_reducible refine Kd.dG ?_ _)|(with_reducible refine Kd.eQ ?_))):p:=h
theorem axl (h:p:=by repeat (first|exact (Kd.a_ BR.o).2.2|(with_reducible refine Kd.dF ?_ _)|(with_reducible refine Kd.dG ?_ _)|(with_reducible refine Kd.eQ ?_))):p:=h
theorem axm (h:p:=by repeat (first|exact (Kd.iK zq.o).2.2|(with_reducible refine Kd.dF ?_ _)|(with_reducible refine Kd.dG ?_ _)|(with_reducible refine Kd.eQ ?_))):p:=h
theorem axn (h:p:=by repeat (first|exact (Kd.kR t_.o HB.o)|(with_reducible refine Kd.dF ?_ _)|(with_reducible refine Kd.dG ?_ _)|(with_reducible refine Kd.eQ ?_))):p:=h
theorem aqe (h:p:=by exact (by refine pS ?_;exact Kd.gu ic.o (fun k_ hk=>⟨hk.2,fun e_=>hk.1 e_⟩))):p:=h
theorem axo (h:p:=by repeat (first|exact (Kd.fe gK.o).2.2|(with_reducible refine Kd.dF ?_ _)|(with_reducible refine Kd.dG ?_ _)|(with_reducible refine Kd.eQ ?_))):p:=h
theorem axp (h:p:=by repeat (first|exact (Kd.iK df.o).2.2|(with_reducible refine Kd.dF ?_ _)|(with_reducible refine Kd.dG ?_ _)|(with_reducible refine Kd.eQ ?_))):p:=h
theorem axq (h:p:=by repeat (first|exact (Kd.iK lv.o).2.2|(with_reducible refine Kd.dF ?_ _)|(with_reducible refine Kd.dG ?_ _)|(with_reducible refine Kd.eQ ?_))):p:=h
theorem ai7 (h:p:=by refine bF nE ?_;refine bF nE ?_;refine bF nE ?_;refine bP ?_;exact gY.o):p:=h
theorem aqf (h:p:=by first|rfl|(simp [jM,jN]<;>rfl)|(simp only[←Nn];first|rfl|(simp [jM,jN]<;>rfl))|(simp [*,jM,jN]<;>rfl)):p:=h
theorem ai8 (h:p:=by rw[hg];exact (ah aqg)):p:=h
theorem ai9 (h:p:=by refine pR ?_;exact (Kd.aD (Kd.aD (YL gB.o oG.o qX.o) oI) oI)):p:=h
theorem aja (h:p:=by refine pR ?_;exact (Kd.aD (Kd.aD (YL gD.o oG.o qX.o) oI) oI)):p:=h
theorem axr (h:p:=by refine pR ?_;exact (Kd.aD (Kd.aD (YL gB.o Ab.o PQ.o) oI) oI)):p:=h
theorem axs (h:p:=by refine pR ?_;exact (Kd.aD (Kd.aD (YL gD.o Ab.o PQ.o) oI) oI)):p:=h
theorem aqh (h:p:=by repeat (first|(with_reducible first|exact HB.o|apply bq|apply ak|apply aU|refine aJ ?_ YM.o)|exact HB.o)):p:=h
theorem ady (h:p:=by refine pR ?_;exact (Kd.aD (Kd.aD (YL si.o oG.o qX.o) oI) oI)):p:=h
theorem adz (h:p:=by refine pR ?_;exact (Kd.aD (Kd.aD (YL sj.o oG.o qX.o) oI) oI)):p:=h
theorem axt (h:p:=by refine pS ?_;exact Kd.gu aC.o (fun k_ hk=>⟨hk.1,fun e_=>hk.2 e_⟩)):p:=h
theorem axu (h:p:=by refine pS ?_;exact Kd.gu (hS3 gK.o oO.o) (fun _ hk=>⟨trivial,hk.1⟩)):p:=h
theorem axv (h:p:=by refine pR ?_;exact (Kd.aD (Kd.aD (YL si.o zt.o PR.o) oI) oI)):p:=h
theorem axw (h:p:=by refine pR ?_;exact (Kd.aD (Kd.aD (YL sj.o zt.o PR.o) oI) oI)):p:=h
theorem axx (h:p:=by refine pR ?_;exact (Kd.aD (Kd.aD (YL BS.o Ab.o PQ.o) oI) oI)):p:=h
theorem axy (h:p:=by refine pR ?_;exact (Kd.aD (Kd.aD (YL BU.o Ab.o PQ.o) oI) oI)):p:=h
theorem axz (h:p:=by exact (by refine pN ?_;exact Kd.fE lv.o (fun _ hk=>⟨hk.1.1.1,hk.1.1.2⟩))):p:=h
theorem adA (h:p:=by exact oh HG.o dn):p:=h
theorem adB (h:p:=by exact (fun k_ hk=>Kd.fresh' (Kd.iY Na) k_ hk)):p:=h
theorem abx (h:p:=by repeat (first|exact YN.o|(with_reducible refine Kd.dF ?_ _)|(with_reducible refine Kd.dG ?_ _)|(with_reducible refine Kd.eQ ?_))):p:=h
theorem aby (h:p:=by repeat (first|exact YO.o|(with_reducible refine Kd.dF ?_ _)|(with_reducible refine Kd.dG ?_ _)|(with_reducible refine Kd.eQ ?_))):p:=h
theorem aqi (h:p:=by exact (fun k_ hk=>Kd.fresh' (Kd.iY GV) k_ hk)):p:=h
theorem axA (h:p:=by refine pN ?_;exact Kd.fE lv.o (fun _ hk=>⟨⟨hk.2,hk.1.2⟩,hk.1.1⟩)):p:=h
theorem axB (h:p:=by repeat (first|exact YP.o|(with_reducible refine Kd.dF ?_ _)|(with_reducible refine Kd.dG ?_ _)|(with_reducible refine Kd.eQ ?_))):p:=h
theorem axC (h:p:=by repeat (first|exact YQ.o|(with_reducible refine Kd.dF ?_ _)|(with_reducible refine Kd.dG ?_ _)|(with_reducible refine Kd.eQ ?_))):p:=h
theorem ze (h:p:=by exact (ah dn)):p:=h
theorem ajb (h:p:=by first|exact YR.o|(rw[add_block];exact YR.o)|(show (Addr.add _ _).block≠_;rw[add_block];exact YR.o)|(dsimp only;exact YR.o)):p:=h
theorem adC (h:p:=by exact (fun k_ hk=>Kd.fresh' (Kd.iY ap2) k_ hk)):p:=h
theorem ajc (h:p:=by refine pN ?_;exact (Kd.fE (Kd.fE (hN3 gM.o LB LB) oI) oI)):p:=h
theorem aqj (h:p:=by exact (fun k_ hk=>Kd.fresh' (Kd.iY adq) k_ hk)):p:=h
theorem axD (h:p:=by repeat (first|exact amQ.o|(with_reducible refine Kd.dF ?_ _)|(with_reducible refine Kd.dG ?_ _)|(with_reducible refine Kd.eQ ?_))):p:=h
theorem axE (h:p:=by repeat (first|exact amR.o|(with_reducible refine Kd.dF ?_ _)|(with_reducible refine Kd.dG ?_ _)|(with_reducible refine Kd.eQ ?_))):p:=h
theorem Ub (h:p:=by repeat (first|exact t_.o|(with_reducible refine Kd.dF ?_ _)|(with_reducible refine Kd.dG ?_ _)|(with_reducible refine Kd.eQ ?_))):p:=h
theorem axF (h:p:=by repeat (first|exact HR1.o|(with_reducible refine Kd.dF ?_ _)|(with_reducible refine Kd.dG ?_ _)|(with_reducible refine Kd.eQ ?_))):p:=h
theorem aqk (h:p:=by rw[hw];exact ajd):p:=h
theorem adD (h:p:=by refine pN ?_;exact (Kd.fE (Kd.fE (hN3 sN.o LB LB) oI) oI)):p:=h
theorem axG (h:p:=by refine pN ?_;exact (Kd.fE (Kd.fE (hN3 BV.o LB LB) oI) oI)):p:=h
theorem aql (h:p:=by refine pR ?_;exact Kd.aD fC.o (fun _ hk=>⟨hk.1.1,hk.2⟩)):p:=h
theorem axH (h:p:=by refine pR ?_;exact Kd.aD u_.o (fun _ hk=>⟨hk.1.1.1,hk.1.2⟩)):p:=h
theorem aqm (h:p:=by refine pS ?_;exact Kd.gu jk.o (fun _ hk=>⟨hk.2,hk.1⟩)):p:=h
theorem axI (h:p:=by refine pR ?_;exact Kd.aD (hR2 bz.o aW.o dI.o) o8):p:=h
theorem axJ (h:p:=by first|exact Uc|exact oT bL|(have e_:=(Kd.fe iL.o).1;omega)):p:=h
theorem axK (h:p:=by refine pR ?_;exact Kd.aD u_.o (fun _ hk=>⟨hk.1.1,hk.2⟩)):p:=h
theorem axL (h:p:=by first|exact Ud|exact oT bL|(have e_:=(Kd.fe df.o).1;omega)):p:=h
theorem axM (h:p:=by first|exact Ue|exact oT bL|(have e_:=(Kd.fe df.o).1;omega)):p:=h
theorem zf (h:p:=by exact dn):p:=h
theorem aje (h:p:=by exact (d_.one (show Kd.M (Kd.int .i64) _ _ _ (rd (gP kF qj) lU) [.int .i64 (rd (gP kF qj) lU)] from rfl) (d_.none _ _))):p:=h
theorem aqn (h:p:=by exact axN):p:=h
theorem aqo (h:p:=by exact jA (Kd.zZ df.o) (jA (Kd.tZ vZ.o) (jA (ib dK.o) (jA (ib gy.o) (jC (aU HB.o)))))):p:=h
theorem wB (h:p:=by first|exact Kd.Np _ _ _ _ _|exact Kd.amS _ _ _ _ _|exact Kd.amT _ _ _ _ _|exact Kd.amU _ _ _ _ _|exact Kd.amV _ _ _ _ _):p:=h
theorem Bu (h:p:=by first|exact Kd.amV _ _ _ _ _|exact Kd.amS _ _ _ _ _|exact Kd.amT _ _ _ _ _|exact Kd.amU _ _ _ _ _|exact Kd.Np _ _ _ _ _):p:=h
theorem WW (h:p:=by refine pR ?_;exact Kd.aD (hR1 aY.o dI.o) o8):p:=h
theorem WX (h:p:=by refine pR ?_;exact Kd.aD (hR1 bz.o dI.o) o8):p:=h
theorem aqp (h:p:=by refine pR ?_;exact Kd.aD (hR0 eD.o fK.o) o8):p:=h
theorem axO (h:p:=by refine pR ?_;exact Kd.aD (hR0 jf.o eF.o) o8):p:=h
theorem axP (h:p:=by refine pR ?_;exact Kd.aD (hR3 iG.o dP.o) LB):p:=h
theorem aqr (h:p:=by refine pR ?_;exact (fR1 eB.o fK.o au)):p:=h
theorem aqs (h:p:=by refine pR ?_;exact (fR1 eD.o fK.o au)):p:=h
theorem ql (h:p:=by (try simp only[List.map_toArray,List.map_cons,List.map_nil]);first|done|rfl|(simp only[List.length_drop,List.length_take];rfl)):p:=h
theorem aqt (h:p:=by refine pS ?_;exact Kd.gu (hS0 qf.o fK.o) LB):p:=h
theorem abz (h:p:=by refine pS ?_;exact fS4 aC.o dI.o au):p:=h
theorem aqu (h:p:=by exact (by refine pR ?_;exact Kd.aD eB.o o8)):p:=h
theorem aqv (h:p:=by refine pS ?_;exact (fS1 qf.o fK.o au)):p:=h
theorem axS (h:p:=by refine pR ?_;exact (fR4 z_.o jb.o au)):p:=h
theorem axT (h:p:=by refine pR ?_;exact (fR4 Aa.o jb.o au)):p:=h
theorem abA (h:p:=by rw[←hq_];exact WY):p:=h
theorem adE (h:p:=by obtain ⟨ad_,e_,h_⟩:=Kd.oP (Kd.yD ku.o).2.2 (lU) (of_eq_true ajf) (of_eq_true ajg);cases e_;exact h_):p:=h
theorem axU (h:p:=by refine pN ?_;exact (Kd.fE (hN1 zq.o mV) oI)):p:=h
theorem aqw (h:p:=by exact (by refine pR ?_;exact Kd.aD xq.o mV)):p:=h
theorem axV (h:p:=by refine pS ?_;exact fS1 df.o eF.o au):p:=h
theorem axW (h:p:=by exact (by refine pR ?_;exact Kd.aD Ga.o mV)):p:=h
theorem axX (h:p:=by exact (by refine pR ?_;exact Kd.aD gK.o mV)):p:=h
theorem axY (h:p:=by exact (Kd.o6 abq)):p:=h
theorem abB (h:p:=by rw[←hq_];exact OW):p:=h
theorem aqx (h:p:=by refine pR ?_;exact Kd.aD eB.o mV):p:=h
theorem axZ (h:p:=by refine pR ?_;exact Kd.aD fV.o mV):p:=h
theorem OX (h:p:=by refine pR ?_;exact Kd.aD nL.o mV):p:=h
theorem OY (h:p:=by refine pR ?_;exact Kd.aD pE.o mV):p:=h
theorem aqy (h:p:=by refine pS ?_;exact Kd.gu iL.o mV):p:=h
theorem aqz (h:p:=by refine pR ?_;exact Kd.aD yE.o mV):p:=h
theorem ax0 (h:p:=by refine pR ?_;exact Kd.aD Gb.o oI):p:=h
theorem ax1 (h:p:=by refine pR ?_;exact Kd.aD DJ.o mV):p:=h
theorem ax2 (h:p:=by refine pR ?_;exact Kd.aD KW.o mV):p:=h
theorem ax3 (h:p:=by refine pR ?_;exact Kd.aD DK.o o8):p:=h
theorem adF (h:p:=by refine pS ?_;exact Kd.gu df.o mV):p:=h
theorem ax4 (h:p:=by refine pS ?_;exact Kd.gu iy.o mV):p:=h
theorem ax5 (h:p:=by exact jA (ib gY.o) (jA (ib oO.o) (jA (bU.drew jQ.o) (jC (aU HB.o))))):p:=h
theorem adG (h:p:=by exact Nq):p:=h
theorem ax6 (h:p:=by exact jA (ib bM.o) (jA (ib bW.o) (jA (ib dP.o) (jC (aU HB.o))))):p:=h
theorem ax7 (h:p:=by exact jA (ib bI.o) (jA (ib bQ.o) (jA (ib dA.o) (jC (aU HB.o))))):p:=h
theorem OZ (h:p:=by exact (by refine pR ?_;exact df.o)):p:=h
theorem WZ (h:p:=by exact Lu):p:=h
theorem adH (h:p:=by exact abq):p:=h
theorem aqA (h:p:=by exact W9):p:=h
theorem ax8 (h:p:=by exact abo):p:=h
theorem ax9 (h:p:=by exact OQ):p:=h
theorem LC (h:p:=by exact jA (Kd.tZ df.o) (jA (bU.drew HI0.o) (jA (oN HK.o) (jC (aU HB.o))))):p:=h
theorem aya (h:p:=by first|(rw[add_block];exact hf1 _ rfl bG)|exact hf1 _ rfl bG|exact hf1 ayb rfl bG):p:=h
theorem Q3 (h:p:=by refine pR ?_;exact jf.o):p:=h
theorem Uf (h:p:=by refine pS ?_;exact jk.o):p:=h
theorem aqB (h:p:=by refine pR ?_;exact zF.o):p:=h
theorem aqC (h:p:=by refine pR ?_;exact H_.o):p:=h
theorem aqD (h:p:=by refine pR ?_;exact uP.o):p:=h
theorem W_ (h:p:=by refine pR ?_;exact vZ.o):p:=h
theorem adI (h:p:=by refine pR ?_;exact KX.o):p:=h
theorem adJ (h:p:=by refine pR ?_;exact Ia.o):p:=h
theorem adK (h:p:=by refine pR ?_;exact KY.o):p:=h
theorem ajh (h:p:=by refine pR ?_;exact BX.o):p:=h
theorem aji (h:p:=by refine pR ?_;exact BZ.o):p:=h
theorem ajj (h:p:=by refine pR ?_;exact Ez.o):p:=h
theorem ajk (h:p:=by refine pR ?_;exact DJ.o):p:=h
theorem ajl (h:p:=by refine pN ?_;exact B_.o):p:=h
theorem ajm (h:p:=by refine pN ?_;exact sM.o):p:=h
theorem aqE (h:p:=by refine pS ?_;exact Ac.o):p:=h
theorem aqF (h:p:=by refine pS ?_;exact qf.o):p:=h
theorem aqG (h:p:=by refine pR ?_;exact BR.o):p:=h
theorem aqH (h:p:=by refine pR ?_;exact Ga.o):p:=h
theorem aqI (h:p:=by refine pR ?_;exact KZ.o):p:=h
theorem aqJ (h:p:=by refine pR ?_;exact KW.o):p:=h
theorem aqK (h:p:=by refine pR ?_;exact DK.o):p:=h
theorem aqL (h:p:=by refine pS ?_;exact Ib.o):p:=h
theorem aqM (h:p:=by refine pR ?_;exact Ic.o):p:=h
theorem aqN (h:p:=by refine pR ?_;exact Ie.o):p:=h
theorem aqO (h:p:=by refine pR ?_;exact Ug.o):p:=h
theorem ayc (h:p:=by refine pR ?_;exact BS.o):p:=h
theorem ayd (h:p:=by refine pR ?_;exact BU.o):p:=h
theorem aye (h:p:=by refine pR ?_;exact Nr.o):p:=h
theorem ayf (h:p:=by refine pR ?_;exact AJ.o):p:=h
theorem ayg (h:p:=by refine pR ?_;exact YS.o):p:=h
theorem ayh (h:p:=by refine pR ?_;exact YT.o):p:=h
theorem ayi (h:p:=by refine pR ?_;exact K3.o):p:=h
theorem ayj (h:p:=by refine pN ?_;exact BV.o):p:=h
theorem ayk (h:p:=by refine pN ?_;exact PS.o):p:=h
theorem ayl (h:p:=by refine pN ?_;exact qV.o):p:=h
theorem aym (h:p:=by refine pR ?_;exact adL.o):p:=h
theorem ayn (h:p:=by refine pR ?_;exact adM.o):p:=h
theorem ayo (h:p:=by refine pR ?_;exact ayp.o):p:=h
theorem ayq (h:p:=by refine pS ?_;exact iy.o):p:=h
theorem ayr (h:p:=by refine pR ?_;exact O0.o):p:=h
theorem adN (h:p:=by exact jA (kQ ax hg (Kd.lJ pE.o ax.o au)) (jA (hb) (jC (ho)))):p:=h
theorem fT (h:p:=by first|rfl|(simp [jM,jN]<;>rfl)|(simp [*,jM,jN]<;>rfl)):p:=h
theorem zG (h:p:=by simp only[wS,Act.put,List.setIfInBounds_toArray,List.set_cons_zero,List.set_cons_succ]):p:=h
theorem GX (h:p:=by exact (d_.one (show Kd.M Kd.string _ _ _ fA [.string fA] from rfl) (d_.none _ _))):p:=h
theorem abC (h:p:=by exact jA (bU.drew HI0.o) (jA (oN HK.o) (jC (aU HB.o)))):p:=h
theorem ays (h:p:=by have:=YU.o;have:=vD.o;have:=Xa.o;have:=aqP.o;have:=HK5.o;omega):p:=h
theorem ayt (h:p:=by have:=rF.o;have:=adO.o;have:=ajn.o;first|omega|exact Nat.le_refl _):p:=h
theorem ayu (h:p:=by have:=YU.o;have:=vD.o;have:=Xa.o;first|omega|exact Nat.le_refl _):p:=h
theorem ayv (h:p:=by have:=YU.o;have:=HJ6.o;have:=Xa.o;first|omega|exact Nat.le_refl _):p:=h
theorem abD (h:p:=by refine bF tV ?_;refine bP ?_;exact fP.o):p:=h
theorem ayw (h:p:=by refine bF lV ?_;refine bP ?_;exact dI.o):p:=h
theorem ayx (h:p:=by refine bF l9 ?_;refine bP ?_;exact dP.o):p:=h
theorem ayy (h:p:=by refine bF lC ?_;refine bP ?_;exact bW.o):p:=h
theorem ayz (h:p:=by refine bF lD ?_;refine bP ?_;exact bM.o):p:=h
theorem ayA (h:p:=by have:=rF.o;have:=adO.o;have:=ajn.o;have:=aqQ.o;omega):p:=h
theorem ayB (h:p:=by have:=rF.o;have:=adO.o;first|omega|exact Nat.le_refl _):p:=h
theorem ayC (h:p:=by have:=HJ5.o;have:=aNu.o;first|omega|exact Nat.le_refl _):p:=h
theorem ajp (h:p:=by have:=HJ2.o;have:=vD.o;first|omega|exact Nat.le_refl _):p:=h
theorem ayD (h:p:=by have:=HJ2.o;have:=HJ6.o;first|omega|exact Nat.le_refl _):p:=h
theorem aqR (h:p:=by rw[hw];exact ajq):p:=h
theorem ayE (h:p:=by rw[hw];exact ajr):p:=h
theorem abE (h:p:=by exact jA (ib ax.o) (jC (aU HB.o))):p:=h
theorem ayF (h:p:=by rw[hg];exact Nat.ne_of_lt (World.block_lt_of_cell? _ _ hHeld)):p:=h
theorem ayG (h:p:=by have hq:=hc 0 _ rfl;rwa [Nat.mul_one,Nat.add_zero] at hq):p:=h
theorem jR (h:p:=by repeat (first|exact iI.refl _|apply iI.step)):p:=h
theorem adP (h:p:=by have:=HJ8.o;have:=vD.o;have:=Xa.o;omega):p:=h
theorem Xb (h:p:=by refine bP ?_;exact sH (sH (sH (sH (dI.o))))):p:=h
theorem Xc (h:p:=by rw[←hq_];exact FP):p:=h
theorem Xd (h:p:=by rw[←hq_];exact DZ):p:=h
theorem Xe (h:p:=by rw[←hq_];exact DY):p:=h
theorem ayH (h:p:=by have:=rF.o;first|omega|exact Nat.le_refl _):p:=h
theorem ayI (h:p:=by have:=HJ5.o;first|omega|exact Nat.le_refl _):p:=h
theorem ayJ (h:p:=by have:=HJ2.o;first|omega|exact Nat.le_refl _):p:=h
theorem ayK (h:p:=by have:=YU.o;first|omega|exact Nat.le_refl _):p:=h
theorem abF (h:p:=by refine bP ?_;exact sH (sH (sH (dK.o)))):p:=h
theorem ajs (h:p:=by refine bP ?_;exact sH (sH (sH (AP.o)))):p:=h
theorem ajt (h:p:=by refine bP ?_;exact sH (sH (sH (gY.o)))):p:=h
theorem aqS (h:p:=by refine bP ?_;exact sH (sH (sH (rR.o)))):p:=h
theorem ayL (h:p:=by refine bP ?_;exact sH (sH (sH (oO.o)))):p:=h
theorem bT (h:p:=by first|rfl|(simp;done)|(simp [*];done)):p:=h
theorem aju (h:p:=by rw[hg];exact Nat.ne_of_lt (tJ qX)):p:=h
theorem ajv (h:p:=by rw[hg];exact Nat.ne_of_gt (tJ qX)):p:=h
theorem aqT (h:p:=by rw[hg];exact Nat.ne_of_lt (tJ dP)):p:=h
theorem aqU (h:p:=by rw[hg];exact Nat.ne_of_gt (tJ dP)):p:=h
theorem kz (h:p:=by first|(go_simp;done)|(go_simp;rfl)):p:=h
theorem Ca (h:p:=by have:=rF.o;have:=vD.o;omega):p:=h
theorem aqV (h:p:=by have:=YU.o;have:=vD.o;omega):p:=h
theorem Au (h:p:=by first|omega|exact Nat.le_refl _):p:=h
theorem abG (h:p:=by refine bP ?_;exact sH (fK.o)):p:=h
theorem adQ (h:p:=by exact (Kd.a_ DI.o).2.1):p:=h
theorem Uh (h:p:=by rw[iA];exact HLS.o):p:=h
theorem JJ (h:p:=by refine bP ?_;exact uj.o):p:=h
theorem LD (h:p:=by refine bP ?_;exact ax.o):p:=h
theorem O1 (h:p:=by refine bP ?_;exact dN.o):p:=h
theorem Q4 (h:p:=by refine bP ?_;exact gY.o):p:=h
theorem Xf (h:p:=by refine bP ?_;exact dW.o):p:=h
theorem Xg (h:p:=by refine bP ?_;exact dK.o):p:=h
theorem abH (h:p:=by refine bP ?_;exact dP.o):p:=h
theorem abI (h:p:=by refine bP ?_;exact bW.o):p:=h
theorem abJ (h:p:=by refine bP ?_;exact bM.o):p:=h
theorem abK (h:p:=by refine bP ?_;exact fK.o):p:=h
theorem abL (h:p:=by refine bP ?_;exact fP.o):p:=h
theorem adR (h:p:=by refine bP ?_;exact eF.o):p:=h
theorem ajw (h:p:=by refine bP ?_;exact rR.o):p:=h
theorem ajx (h:p:=by rw[iA];exact hlt):p:=h
theorem Ns (h:p:=by have:=YV.o;omega):p:=h
theorem ajy (h:p:=by rw[iA];omega):p:=h
theorem Xh (h:p:=by have:=aqW.o;omega):p:=h
theorem vE (h:p:=by have:=rF.o;omega):p:=h
theorem xk (h:p:=by exact (d_.none _ _)):p:=h
theorem aqX (h:p:=by simp [Value.ownBlock]):p:=h
theorem xm (h:p:=by dsimp only;omega):p:=h
theorem wT (h:p:=by exact H7.o):p:=h
theorem abM (h:p:=by go_simp;rfl):p:=h
theorem EA (h:p:=by rw[e_];rfl):p:=h
theorem bD (h:p:=by kernel_rfl):p:=h
theorem ek (h:p:=by rfl):p:=h
theorem aiM (h:p:=by repeat (first|(with_reducible first|exact HI0.o|exact ag.far HI0.o CW.o _|exact ag.far HI0.o AQ.o _|apply ag.alloc|apply ag.drewN|apply ag.drew|apply ag.uZ|apply ag.yC|refine ag.far ?_ CW.o _|refine ag.far ?_ AQ.o _)|exact HI0.o)):p:=h
theorem rT (h:p:=by repeat (first|(with_reducible first|exact HB.o|apply bq|apply ak|apply aU|refine aJ ?_ Nt.o|refine aJ ?_ PT.o|refine aJ ?_ Ui.o|refine aJ ?_ Uj.o)|exact HB.o)):p:=h
theorem Bt (h:p:=by repeat (first|(with_reducible first|exact HB.o|apply bq|apply ak|apply aU|refine aJ ?_ K4.o|refine aJ ?_ Nu.o|refine aJ ?_ PU.o|refine aJ ?_ Nv.o)|exact HB.o)):p:=h
theorem ap5 (h:p:=by repeat (first|(with_reducible first|exact HB.o|apply bq|apply ak|apply aU|refine aJ ?_ Nh.o|refine aJ ?_ TZ.o|refine aJ ?_ YK.o|refine aJ ?_ ado.o)|exact HB.o)):p:=h
theorem Nc (h:p:=by repeat (first|(with_reducible first|exact jQ.o|apply bU.alloc|apply bU.drewN|apply bU.drew|apply bU.YW|apply bU.uZ|refine bU.far ?_ Cb.o _|refine bU.far ?_ tX.o _)|exact jQ.o)):p:=h
theorem nK (h:p:=by repeat (first|(with_reducible first|exact HI0.o|apply ag.alloc|apply ag.drewN|apply ag.drew|apply ag.uZ|apply ag.yC|refine ag.far ?_ CW.o _|refine ag.far ?_ AQ.o _)|exact HI0.o)):p:=h
theorem qd (h:p:=by repeat (first|(with_reducible first|exact HI0.o|apply ag.alloc|apply ag.drewN|apply ag.drew|apply ag.uZ|apply ag.yC|refine ag.far ?_ qZ.o _|refine ag.far ?_ qx.o _)|exact HI0.o)):p:=h
theorem OV (h:p:=by repeat (first|(with_reducible first|exact HB.o|apply bq|apply ak|apply aU|refine aJ ?_ (bU.ge jQ.o)|refine aJ ?_ YM.o|refine aJ ?_ YX.o)|exact HB.o)):p:=h
theorem awo (h:p:=by rw[hg];exact (ah Eu)):p:=h
theorem xh (h:p:=by repeat (first|(with_reducible first|exact HB.o|apply bq|apply ak|apply aU|refine aJ ?_ (ag.ge HI0.o)|refine aJ ?_ amP.o|refine aJ ?_ ayM.o)|exact HB.o)):p:=h
theorem xD (h:p:=by repeat (first|(with_reducible first|exact HB.o|apply bq|apply ak|apply aU|refine aJ ?_ Nt.o|refine aJ ?_ PT.o|refine aJ ?_ Ui.o)|exact HB.o)):p:=h
theorem CS (h:p:=by repeat (first|(with_reducible first|exact HB.o|apply bq|apply ak|apply aU|refine aJ ?_ K4.o|refine aJ ?_ Nu.o|refine aJ ?_ PU.o)|exact HB.o)):p:=h
theorem Nl (h:p:=by repeat (first|(with_reducible first|exact HB.o|apply bq|apply ak|apply aU|refine aJ ?_ Nh.o|refine aJ ?_ TZ.o|refine aJ ?_ YK.o)|exact HB.o)):p:=h
theorem uB (h:p:=by repeat (first|(with_reducible first|exact HK.o|apply aA.O3|apply tq|apply oN|apply tu|refine nM ?_ PV.o _|refine nM ?_ Uk.o _)|exact HK.o)):p:=h
theorem wM (h:p:=by repeat (first|(with_reducible first|exact HK.o|apply aA.O3|apply tq|apply oN|apply tu|refine nM ?_ amW.o _|refine nM ?_ ayN.o _)|exact HK.o)):p:=h
theorem CR (h:p:=by repeat (first|(with_reducible first|exact jQ.o|apply bU.alloc|apply bU.drewN|apply bU.drew|apply bU.YW|apply bU.uZ|refine bU.far ?_ Cb.o _)|exact jQ.o)):p:=h
theorem D6 (h:p:=by repeat (first|(with_reducible first|exact gZ.o|apply ag.alloc|apply ag.drewN|apply ag.drew|apply ag.uZ|apply ag.yC|refine ag.far ?_ BQ.o _)|exact gZ.o)):p:=h
theorem CU (h:p:=by repeat (first|(with_reducible first|exact HB.o|apply bq|apply ak|apply aU|refine aJ ?_ (ag.ge gZ.o)|refine aJ ?_ amX.o)|exact HB.o)):p:=h
theorem BP (h:p:=by repeat (first|(with_reducible first|exact HB.o|apply bq|apply ak|apply aU|refine aJ ?_ adS.o|refine aJ ?_ K5.o)|exact HB.o)):p:=h
theorem OU (h:p:=by repeat (first|(with_reducible first|exact HB.o|apply bq|apply ak|apply aU|refine aJ ?_ Ul.o|refine aJ ?_ YY.o)|exact HB.o)):p:=h
theorem TW (h:p:=by repeat (first|(with_reducible first|exact HB.o|apply bq|apply ak|apply aU|refine aJ ?_ Nt.o|refine aJ ?_ PT.o)|exact HB.o)):p:=h
theorem TY (h:p:=by repeat (first|(with_reducible first|exact HB.o|apply bq|apply ak|apply aU|refine aJ ?_ Um.o|refine aJ ?_ YZ.o)|exact HB.o)):p:=h
theorem abp (h:p:=by repeat (first|(with_reducible first|exact HB.o|apply bq|apply ak|apply aU|refine aJ ?_ K4.o|refine aJ ?_ Nu.o)|exact HB.o)):p:=h
theorem awp (h:p:=by repeat (first|(with_reducible first|exact HB.o|apply bq|apply ak|apply aU|refine aJ ?_ Nh.o|refine aJ ?_ TZ.o)|exact HB.o)):p:=h
theorem awq (h:p:=by rw[hg];exact (ah CQ)):p:=h
theorem aiW (h:p:=by repeat (first|(with_reducible exact l7.o)|(with_reducible refine Kd.dF ?_ _)|(with_reducible refine Kd.dG ?_ _)|(with_reducible refine Kd.eQ ?_)|exact l7.o)):p:=h
theorem aw2 (h:p:=by refine pN ?_;exact Kd.fE (hN0 oQ.o mV) (fun _ hk=>⟨hk.1.1.1,⟨hk.1.1.2.1,⟨hk.1.1.2.2,hk.1.2⟩⟩⟩)):p:=h
theorem adn (h:p:=by repeat (first|(with_reducible exact EB.o)|(with_reducible refine Kd.dF ?_ _)|(with_reducible refine Kd.dG ?_ _)|(with_reducible refine Kd.eQ ?_)|exact EB.o)):p:=h
theorem Q0 (h:p:=by repeat (first|(with_reducible first|exact HK.o|apply aA.O3|apply tq|apply oN|apply tu|refine nM ?_ amW.o _)|exact HK.o)):p:=h
theorem abt (h:p:=by repeat (first|(with_reducible first|exact HK.o|apply aA.O3|apply tq|apply oN|apply tu|refine nM ?_ PV.o _)|exact HK.o)):p:=h
theorem nQ (h:p:=by repeat (first|(with_reducible first|exact HB.o|apply bq|apply ak|apply aU|refine aJ ?_ (ag.ge HI0.o))|exact HB.o)):p:=h
theorem FQ (h:p:=by repeat (first|(with_reducible first|exact HB.o|apply bq|apply ak|apply aU|refine aJ ?_ (bU.ge HI0.o))|exact HB.o)):p:=h
theorem mW (h:p:=by repeat (first|(with_reducible first|exact HI0.o|apply bU.alloc|apply bU.drewN|apply bU.drew|apply bU.YW|apply bU.uZ)|exact HI0.o)):p:=h
theorem nk (h:p:=by repeat (first|(with_reducible first|exact HI0.o|apply ag.alloc|apply ag.drewN|apply ag.drew|apply ag.uZ|apply ag.yC)|exact HI0.o)):p:=h
theorem ai1 (h:p:=by refine bF jq ?_;refine bF jq ?_;refine bF jq ?_;refine bP ?_;exact bW.o):p:=h
theorem ai2 (h:p:=by refine bF jL ?_;refine bF jL ?_;refine bF jL ?_;refine bP ?_;exact bM.o):p:=h
theorem ai3 (h:p:=by refine bF jW ?_;refine bF jW ?_;refine bF jW ?_;refine bP ?_;exact bQ.o):p:=h
theorem ai4 (h:p:=by refine bF jr ?_;refine bF jr ?_;refine bF jr ?_;refine bP ?_;exact bI.o):p:=h
theorem awu (h:p:=by refine bF iM ?_;refine bF iM ?_;refine bF iM ?_;refine bP ?_;exact dK.o):p:=h
theorem qh (h:p:=by repeat (first|(with_reducible first|exact HB.o|apply bq|apply ak|apply aU|refine aJ ?_ PW.o)|exact HB.o)):p:=h
theorem vv (h:p:=by repeat (first|(with_reducible first|exact HB.o|apply bq|apply ak|apply aU|refine aJ ?_ amY.o)|exact HB.o)):p:=h
theorem wR (h:p:=by repeat (first|(with_reducible first|exact HB.o|apply bq|apply ak|apply aU|refine aJ ?_ amZ.o)|exact HB.o)):p:=h
theorem Br (h:p:=by repeat (first|(with_reducible first|exact HB.o|apply bq|apply ak|apply aU|refine aJ ?_ adT.o)|exact HB.o)):p:=h
theorem FT (h:p:=by repeat (first|(with_reducible first|exact HB.o|apply bq|apply ak|apply aU|refine aJ ?_ ayO.o)|exact HB.o)):p:=h
theorem GU (h:p:=by repeat (first|(with_reducible first|exact HB.o|apply bq|apply ak|apply aU|refine aJ ?_ adS.o)|exact HB.o)):p:=h
theorem H6 (h:p:=by rw[hg];exact (ah dn)):p:=h
theorem WN (h:p:=by repeat (first|(with_reducible first|exact HB.o|apply bq|apply ak|apply aU|refine aJ ?_ PX.o)|exact HB.o)):p:=h
theorem awC (h:p:=by repeat (first|(with_reducible first|exact HB.o|apply bq|apply ak|apply aU|refine aJ ?_ K4.o)|exact HB.o)):p:=h
theorem awD (h:p:=by repeat (first|(with_reducible first|exact HB.o|apply bq|apply ak|apply aU|refine aJ ?_ Um.o)|exact HB.o)):p:=h
theorem awE (h:p:=by repeat (first|(with_reducible first|exact HB.o|apply bq|apply ak|apply aU|refine aJ ?_ Ul.o)|exact HB.o)):p:=h
theorem awF (h:p:=by repeat (first|(with_reducible first|exact HB.o|apply bq|apply ak|apply aU|refine aJ ?_ Nt.o)|exact HB.o)):p:=h
theorem aiL (h:p:=by refine pS ?_;exact Kd.gu ic.o (fun _ hk=>⟨hk.2,hk.1⟩)):p:=h
theorem qy (h:p:=by repeat (first|(with_reducible first|exact HK.o|apply aA.O3|apply tq|apply oN|apply tu)|exact HK.o)):p:=h
theorem awI (h:p:=by refine pS ?_;exact Kd.gu df.o (fun _ hk=>⟨trivial,hk⟩)):p:=h
theorem aqg (h:p:=by repeat (first|(with_reducible first|exact HBW.o|apply bq|apply ak|apply aU)|exact HBW.o)):p:=h
theorem ajd (h:p:=by refine pS ?_;exact Kd.gu (hS3 iL.o dP.o) o8):p:=h
theorem axN (h:p:=by refine pR ?_;exact Kd.aD (hR3 iy.o oO.o) o8):p:=h
theorem aws (h:p:=by refine pS ?_;exact (fS3 df.o gy.o au)):p:=h
theorem awt (h:p:=by refine pR ?_;exact (fR3 iy.o gy.o au)):p:=h
theorem zb (h:p:=by refine pR ?_;exact fC.o):p:=h
theorem Ar (h:p:=by refine pR ?_;exact fH.o):p:=h
theorem Aq (h:p:=by refine pR ?_;exact aY.o):p:=h
theorem Bq (h:p:=by refine pN ?_;exact dR.o):p:=h
theorem Ew (h:p:=by refine pR ?_;exact bz.o):p:=h
theorem GL (h:p:=by refine pR ?_;exact gB.o):p:=h
theorem GK (h:p:=by refine pR ?_;exact gD.o):p:=h
theorem GQ (h:p:=by refine pR ?_;exact eD.o):p:=h
theorem JG (h:p:=by refine pS ?_;exact aC.o):p:=h
theorem JF (h:p:=by refine pN ?_;exact gM.o):p:=h
theorem Lx (h:p:=by refine pR ?_;exact fV.o):p:=h
theorem Na (h:p:=by refine pR ?_;exact eB.o):p:=h
theorem TR (h:p:=by refine pS ?_;exact ic.o):p:=h
theorem GV (h:p:=by refine pR ?_;exact iG.o):p:=h
theorem TU (h:p:=by refine pV ?_;exact ik.o):p:=h
theorem WY (h:p:=by refine pV ?_;exact ku.o):p:=h
theorem JH (h:p:=by refine pN ?_;exact lc.o):p:=h
theorem Nq (h:p:=by refine pR ?_;exact pE.o):p:=h
theorem OP (h:p:=by refine pS ?_;exact iL.o):p:=h
theorem OT (h:p:=by refine pR ?_;exact qm.o):p:=h
theorem OO (h:p:=by refine pR ?_;exact u_.o):p:=h
theorem TV (h:p:=by refine pV ?_;exact ny.o):p:=h
theorem adq (h:p:=by refine pR ?_;exact yE.o):p:=h
theorem aiP (h:p:=by refine pR ?_;exact si.o):p:=h
theorem aiN (h:p:=by refine pR ?_;exact sj.o):p:=h
theorem aiO (h:p:=by refine pN ?_;exact sN.o):p:=h
theorem ap2 (h:p:=by refine pR ?_;exact nL.o):p:=h
theorem ap4 (h:p:=by refine pR ?_;exact z_.o):p:=h
theorem ap3 (h:p:=by refine pR ?_;exact Aa.o):p:=h
theorem apZ (h:p:=by refine pN ?_;exact oQ.o):p:=h
theorem awy (h:p:=by refine pN ?_;exact zq.o):p:=h
theorem awr (h:p:=by refine pR ?_;exact Gc.o):p:=h
theorem GR (h:p:=by refine pS ?_;exact df.o):p:=h
theorem Lt (h:p:=by refine pS ?_;exact gK.o):p:=h
theorem Lu (h:p:=by refine pR ?_;exact iy.o):p:=h
theorem Nf (h:p:=by refine pN ?_;exact lv.o):p:=h
theorem OW (h:p:=by refine pN ?_;exact df.o):p:=h
theorem OQ (h:p:=by refine pR ?_;exact gK.o):p:=h
theorem W9 (h:p:=by refine pR ?_;exact O4.o):p:=h
theorem abo (h:p:=by refine pR ?_;exact uA.o):p:=h
theorem abq (h:p:=by refine pR ?_;exact lv.o):p:=h
theorem bL (h:p:=by first|(with_reducible assumption)|assumption):p:=h
theorem ajq (h:p:=by refine bP ?_;exact sH (sH (sH (dP.o)))):p:=h
theorem ajr (h:p:=by refine bP ?_;exact sH (sH (sH (dA.o)))):p:=h
theorem TS (h:p:=by rw[hg];exact Nat.ne_of_lt (tJ jb)):p:=h
theorem TT (h:p:=by rw[hg];exact Nat.ne_of_gt (tJ jb)):p:=h
theorem adf (h:p:=by rw[hg];exact Nat.ne_of_lt (tJ oG)):p:=h
theorem adi (h:p:=by rw[hg];exact Nat.ne_of_lt (tJ bM)):p:=h
theorem adg (h:p:=by rw[hg];exact Nat.ne_of_gt (tJ oG)):p:=h
theorem adj (h:p:=by rw[hg];exact Nat.ne_of_gt (tJ bM)):p:=h
theorem aiS (h:p:=by rw[hg];exact Nat.ne_of_lt (tJ bW)):p:=h
theorem aiQ (h:p:=by rw[hg];exact Nat.ne_of_lt (tJ bI)):p:=h
theorem aiT (h:p:=by rw[hg];exact Nat.ne_of_gt (tJ bW)):p:=h
theorem aiR (h:p:=by rw[hg];exact Nat.ne_of_gt (tJ bI)):p:=h
theorem ap0 (h:p:=by rw[hg];exact Nat.ne_of_lt (tJ bQ)):p:=h
theorem apW (h:p:=by rw[hg];exact Nat.ne_of_lt (tJ gY)):p:=h
theorem ap1 (h:p:=by rw[hg];exact Nat.ne_of_gt (tJ bQ)):p:=h
theorem apX (h:p:=by rw[hg];exact Nat.ne_of_gt (tJ gY)):p:=h
theorem DZ (h:p:=by refine bP ?_;exact bQ.o):p:=h
theorem DY (h:p:=by refine bP ?_;exact bI.o):p:=h
theorem FP (h:p:=by refine bP ?_;exact dA.o):p:=h
theorem Nb (h:p:=by refine bP ?_;exact di.o):p:=h
theorem WM (h:p:=by refine bP ?_;exact jb.o):p:=h
theorem bG (h:p:=by omega):p:=h
theorem gQ (h:p:=by simp):p:=h
theorem Eu (h:p:=by repeat (first|(with_reducible first|exact HB.o|apply bq|apply ak|apply aU|refine aJ ?_ (bU.ge jQ.o)|refine aJ ?_ YM.o)|exact HB.o)):p:=h
theorem CQ (h:p:=by repeat (first|(with_reducible first|exact HB.o|apply bq|apply ak|apply aU|refine aJ ?_ Nh.o)|exact HB.o)):p:=h
theorem dn (h:p:=by repeat (first|(with_reducible first|exact HB.o|apply bq|apply ak|apply aU)|exact HB.o)):p:=h
theorem au (h:p:=by decide):p:=h
end
theorem oI {a q:Nat→Prop}:∀k,q k∧a k→q k:=fun _ h=>h.1
theorem mV {a q:Nat→Prop}:∀k,a k∧q k→q k:=fun _ h=>h.2
theorem Un {a b q:Nat→Prop}:∀k,(q k∧b k)∧a k→q k:=fun _ h=>h.1.1
theorem LB {a b q:Nat→Prop}:∀k,(b k∧q k)∧a k→q k:=fun _ h=>h.1.2
theorem am0 {a b c q:Nat→Prop}:∀k,((c k∧q k)∧b k)∧a k→q k:=fun _ h=>h.1.1.2
theorem adU {a b c q:Nat→Prop}:∀k,a k∧(b k∧(c k∧q k))→q k:=fun _ h=>h.2.2.2
theorem rE {q:Nat→Prop}:∀k,q k→q k:=fun _ h=>h
theorem o8 {q:Nat→Prop}:∀k,q k→True:=fun _ _=>trivial
def ayP:Option Int→Value
 |none=>.nilIface
 |some c=>.iface 0 (.int .i64 c)
theorem jM:ayP none=.nilIface:=rfl
theorem jN (c:Int):ayP (some c)=.iface 0 (.int .i64 c):=rfl
theorem info3:(Tryz.prog.info? 3).map (fun i=>(i.zero,i.size,i.bytes))=some (some (.int .i64 0),1,8):=by kernel_rfl
theorem info5:(Tryz.prog.info? 5).map (fun i=>(i.zero,i.size,i.bytes))=some (some (.int .u8 0),1,1):=by kernel_rfl
theorem l_:(Tryz.prog.info? 9).map (fun i=>(i.zero,i.size,i.bytes))=some (some (.string ⟨#[]⟩),1,16):=by kernel_rfl
theorem JK:(Tryz.prog.info? 24).map (fun i=>(i.zero,i.size,i.bytes))=some (some (.slice none 0 0),1,24):=by kernel_rfl
theorem Bv:(Tryz.prog.info? 26).map (fun i=>(i.zero,i.size,i.bytes))=some (some (.slice none 0 0),1,24):=by kernel_rfl
def gP (xs:List (List Int)) (i:Int):(List Int):=xs.getD i.toNat ([]:List Int)
theorem Uo {w:World} {A:Option Addr} {n:Nat} {xs:List (List Int)} (h:Kd.C (Kd.slice 3 (Kd.int .i64)) w A n xs) (i:Int) (h0:0≤i) (h1:i<n):∃ad A0 c0,A=some ad∧w.cell? (ad.add i.toNat)=some (.slice A0 (gP xs i).length c0)∧(gP xs i).length≤c0∧(Kd.int .i64).C w A0 (gP xs i).length (gP xs i):=by
 obtain ⟨ad,c,e,_,hK,hc0⟩:=Kd.Uq h ([]:List Int) i h0 h1
 have hc:∀j u,c[j]?=some u→w.cell? (ad.add (i.toNat * 1+j))=some u:=hc0
 obtain ⟨A0,c0,rfl,l0,g0⟩:=hK;exact ⟨ad,A0,c0,e,ayG,l0,g0⟩
def aN (xs:List (List ByteArray)) (i:Int):(List ByteArray):=xs.getD i.toNat ([]:List ByteArray)
theorem zu {w:World} {A:Option Addr} {n:Nat} {xs:List (List ByteArray)} (h:Kd.C (Kd.slice 9 Kd.string) w A n xs) (i:Int) (h0:0≤i) (h1:i<n):∃ad A0 c0,A=some ad∧w.cell? (ad.add i.toNat)=some (.slice A0 (aN xs i).length c0)∧(aN xs i).length≤c0∧Kd.string.C w A0 (aN xs i).length (aN xs i):=by
 obtain ⟨ad,c,e,_,hK,hc0⟩:=Kd.Uq h ([]:List ByteArray) i h0 h1
 have hc:∀j u,c[j]?=some u→w.cell? (ad.add (i.toNat * 1+j))=some u:=hc0
 obtain ⟨A0,c0,rfl,l0,g0⟩:=hK;exact ⟨ad,A0,c0,e,ayG,l0,g0⟩
theorem V8 {w:World} {A:Option Addr} {n:Nat} {xs:List (List Int)} (h:Kd.C (Kd.slice 3 (Kd.int .i64)) w A n xs) (i:Int) (h0:decide (0≤i)=true:=by first|(with_reducible assumption)|assumption) (h1:decide (i<(n:Int))=true:=by first|(with_reducible assumption)|assumption):(0≤i)=True∧(i<(n:Int))=True∧∃ad A0 c0,A=some ad∧w.cell? (ad.add i.toNat)=some (.slice A0 (gP xs i).length c0)∧aa ((gP xs i).length≤c0)∧aa ((Kd.int .i64).C w A0 (gP xs i).length (gP xs i)):=let ⟨ad,A0,c0,e,x,l,k⟩:=Uo h i (oT h0) (oT h1);⟨fO (oT h0),fO (oT h1),ad,A0,c0,e,x,⟨l⟩,⟨k⟩⟩
theorem S9 {w:World} {A:Option Addr} {n:Nat} {xs:List (List ByteArray)} (h:Kd.C (Kd.slice 9 Kd.string) w A n xs) (i:Int) (h0:decide (0≤i)=true:=by first|(with_reducible assumption)|assumption) (h1:decide (i<(n:Int))=true:=by first|(with_reducible assumption)|assumption):(0≤i)=True∧(i<(n:Int))=True∧∃ad A0 c0,A=some ad∧w.cell? (ad.add i.toNat)=some (.slice A0 (aN xs i).length c0)∧aa ((aN xs i).length≤c0)∧aa (Kd.string.C w A0 (aN xs i).length (aN xs i)):=let ⟨ad,A0,c0,e,x,l,k⟩:=zu h i (oT h0) (oT h1);⟨fO (oT h0),fO (oT h1),ad,A0,c0,e,x,⟨l⟩,⟨k⟩⟩
theorem gS {w:World} {A:Option Addr} {n:Nat} {xs:List ByteArray} (h:Kd.string.C w A n xs) (i:Int) (h0:decide (0≤i)=true:=by first|(with_reducible assumption)|assumption) (h1:decide (i<(n:Int))=true:=by first|(with_reducible assumption)|assumption):(0≤i)=True∧(i<(n:Int))=True∧∃ad,A=some ad∧w.cell? (ad.add i.toNat)=some (.string (jg ByteArray.empty xs i)):=let ⟨ad,e,x⟩:=Kd.oP h i (oT h0) (oT h1);⟨fO (oT h0),fO (oT h1),ad,e,x⟩
theorem gI {w:World} {A:Option Addr} {n:Nat} {k:IntKind} {xs:List Int} (h:(Kd.int k).C w A n xs) (i:Int) (h0:decide (0≤i)=true:=by first|(with_reducible assumption)|assumption) (h1:decide (i<(n:Int))=true:=by first|(with_reducible assumption)|assumption):(0≤i)=True∧(i<(n:Int))=True∧∃ad,A=some ad∧w.cell? (ad.add i.toNat)=some (.int k (rd xs i)):=let ⟨ad,e,x⟩:=Kd.JL h i (oT h0) (oT h1);⟨fO (oT h0),fO (oT h1),ad,e,x⟩
theorem bA {w:World} {g:Nat} {o:Obj} (h:w.heap[g]?=some o) (n:Nat):(w.drewN n).heap[g]?=some o:=abN h n
theorem bB {w:World} {g:Nat} {o:Obj} (h:w.heap[g]?=some o):w.drew.heap[g]?=some o:=ib h
theorem bC {w:World} {g:Nat} {o:Obj} (h:w.heap[g]?=some o) (o':Obj):(w.alloc o').heap[g]?=some o:=lW h o'
theorem bP {p q:Prop} (x:q) (h:q→p:=by (intro h_;(with_reducible repeat (first|refine bA ?_ _|refine bB ?_|refine bC ?_ _));exact h_)):p:=h x
theorem rf {α:Type} {P:Program} {f:Nat} {A:Option Addr} {c:Nat} {v:Value} {w:World} {Q:Ending→World→Prop} {xs:List α} {j:Int} (h0:0≤j) (hm:j≤(xs.length:Int)) (g:Calls P f #[.slice A (xs.take j.toNat).length c,v] w Q):Calls P f #[.slice A j.toNat c,v] w Q:=by
 have h:(xs.take j.toNat).length=j.toNat:=by rw[List.length_take];omega
 rwa [h] at g
theorem yB {α β:Type} {e:α} {f:α→Option β} {r:Option β} (h:(some e).bind f=r):∃y,aa (y=e)∧f y=r:=⟨e,⟨rfl⟩,h⟩
theorem bd {α β:Type} {x:Option α} {f:α→Option β} {r:β} (h:x.bind f=some r):∃a,aa (x=some a)∧f a=some r:=(Option.bind_eq_some_iff.mp h).imp fun _ g=>⟨⟨g.1⟩,g.2⟩
theorem eqT {α:Type} [BEq α] [LawfulBEq α] {a b:α} (h:a=b):(a==b)=true:=beq_iff_eq.mpr h
theorem eqF {α:Type} [BEq α] [LawfulBEq α] {a b:α} (h:¬a=b):(a==b)=false:=beq_eq_false_iff_ne.mpr h
theorem neT {α:Type} [BEq α] [LawfulBEq α] {a b:α} (h:¬a=b):(a !=b)=true:=bne_iff_ne.mpr h
theorem neF {α:Type} [BEq α] [LawfulBEq α] {a b:α} (h:a=b):(a !=b)=false:=bne_eq_false_iff_eq.mpr h
theorem uw {s:ByteArray} {i:Int} (h0:decide (0≤i)=true:=by first|(with_reducible assumption)|assumption) (h1:decide (i<(s.size:Int))=true:=by first|(with_reducible assumption)|assumption):((0≤i)=True)∧((i<(s.size:Int))=True):=⟨fO (oT h0),fO (oT h1)⟩
theorem zdL {α:Type} {l:List α} {i:Int} (h0:decide (0≤i)=true:=by first|(with_reducible assumption)|assumption) (h1:decide (i<(l.length:Int))=true:=by first|(with_reducible assumption)|assumption):(0≤i)∧(i<(l.length:Int)):=⟨oT h0,oT h1⟩
theorem gC {P:Program} {ops:Array Oper} {Q:Exit→Act→World→Prop} {rest:List Oper} {oi:Oper} {a:Act} {w:World} {f:FuncId} {fn:Func} {ps:Array Operand} {ts:Array TypeId} {E:Ending→World→Prop} (N:Tmp) (hf:P.funcs[f]?=some fn) (args:Array Value) (hc:Calls P f args w E) (hop:oi.op=.call {callee:=.value (.func f),args:=ps,argTypes:=ts}:=by rfl) (hd:oi.dst=some N:=by rfl) (hg:oi.guard=none:=by rfl) (hname:(fn.name== "runtime.NumGoroutine")=false:=by kernel_rfl) (hb:fn.body.isSome=true:=by rfl)
 (hargs:ps.map a.eval=args:=by (try simp only[List.map_toArray,List.map_cons,List.map_nil]);first|done|rfl|(simp only[List.length_drop,List.length_take];rfl)) (h:∀e w',E e w'→∃v,e=.returned v∧wpList P ops Q rest (a.put (some N) v) w'):wpList P ops Q (oi::rest) a w:=JM (some N) hd hg hf hname hb args hop hargs (hc.mono h)
theorem dE {w0 w w1:World} {g:Nat} {o:Obj} (b:aa (w0.heap[g]?=some o)) (hb:Below w.heap.size w w1) (p:w0.heap[g]?=some o→w.heap[g]?=some o:=by (intro h_;(with_reducible repeat (first|refine bA ?_ _|refine bB ?_|refine bC ?_ _));exact h_)):w1.heap[g]?=some o:=oM (p b.o) hb
theorem kQ {w0 w w1:World} {g:Nat} {o:Obj} {row:Option Nat} (b:aa (w0.heap[g]?=some o)) (hg:w.grownBy w1 row) (hne:some g≠row) (p:w0.heap[g]?=some o→w.heap[g]?=some o:=by (intro h_;(with_reducible repeat (first|refine bA ?_ _|refine bB ?_|refine bC ?_ _));exact h_)):w1.heap[g]?=some o:=uQ (p b.o) hg hne
theorem tJ {w0 w:World} {g:Nat} {o:Obj} (b:aa (w0.heap[g]?=some o)) (p:w0.heap[g]?=some o→w.heap[g]?=some o:=by (intro h_;(with_reducible repeat (first|refine bA ?_ _|refine bB ?_|refine bC ?_ _));exact h_)):g<w.heap.size:=CX (p b.o)
theorem uz {w0 w w1:World} {g g':Nat} {row:Option Nat} {o:Obj} (h:aA w w1 g row) (b:aa (w0.heap[g']?=some o)) (hg:g'≠g) (hr:some g'≠row) (p:w0.heap[g']?=some o→w.heap[g']?=some o:=by (intro h_;(with_reducible repeat (first|refine bA ?_ _|refine bB ?_|refine bC ?_ _));exact h_)):w1.heap[g']?=some o:=h.blk (p b.o) hg hr
theorem sH {w:World} {g:Nat} {t:TypeId} {cs cs':Array Value} {i:Nat} {u:Value} (h:w.heap[g]?=some (.cells cs t (0,0))) (e:cs.setIfInBounds i u=cs':=by rfl):(w.setCell ⟨g,i,none⟩ u).heap[g]?=some (.cells cs' t (0,0)):=eH h i u e
theorem fR1 {α:Type} {d:Kd α} {e:Nat} {w:World} {base:Nat} {ok:Nat→Prop} {v:Value} {xs:List α} {g t:Nat} {cells:Array Value} {u0:Value} {j0:Nat} (h:Kd.R d e w base ok v xs) (hb:w.heap[g]?=some (.cells cells t (0,0))) (ht:∀q,q ∈ e::d.E→q≠t):Kd.R d e (w.setCell ⟨g,j0,none⟩ u0) base ok v xs:=Kd.aD (Kd.l8 (p:=⟨g,j0,none⟩) (Kd.iW h hb ht) mV u0) oI
theorem fR2 {α:Type} {d:Kd α} {e:Nat} {w:World} {base:Nat} {ok:Nat→Prop} {v:Value} {xs:List α} {g t:Nat} {cells:Array Value} {u0:Value} {j0:Nat} {u1:Value} {j1:Nat} (h:Kd.R d e w base ok v xs) (hb:w.heap[g]?=some (.cells cells t (0,0))) (ht:∀q,q ∈ e::d.E→q≠t):Kd.R d e ((w.setCell ⟨g,j0,none⟩ u0).setCell ⟨g,j1,none⟩ u1) base ok v xs:=Kd.aD (Kd.l8 (p:=⟨g,j1,none⟩) (Kd.l8 (p:=⟨g,j0,none⟩) (Kd.iW h hb ht) mV u0) mV u1) oI
theorem fR3 {α:Type} {d:Kd α} {e:Nat} {w:World} {base:Nat} {ok:Nat→Prop} {v:Value} {xs:List α} {g t:Nat} {cells:Array Value} {u0:Value} {j0:Nat} {u1:Value} {j1:Nat} {u2:Value} {j2:Nat} (h:Kd.R d e w base ok v xs) (hb:w.heap[g]?=some (.cells cells t (0,0))) (ht:∀q,q ∈ e::d.E→q≠t):Kd.R d e (((w.setCell ⟨g,j0,none⟩ u0).setCell ⟨g,j1,none⟩ u1).setCell ⟨g,j2,none⟩ u2) base ok v xs:=Kd.aD (Kd.l8 (p:=⟨g,j2,none⟩) (Kd.l8 (p:=⟨g,j1,none⟩) (Kd.l8 (p:=⟨g,j0,none⟩) (Kd.iW h hb ht) mV u0) mV u1) mV u2) oI
theorem fR4 {α:Type} {d:Kd α} {e:Nat} {w:World} {base:Nat} {ok:Nat→Prop} {v:Value} {xs:List α} {g t:Nat} {cells:Array Value} {u0:Value} {j0:Nat} {u1:Value} {j1:Nat} {u2:Value} {j2:Nat} {u3:Value} {j3:Nat} (h:Kd.R d e w base ok v xs) (hb:w.heap[g]?=some (.cells cells t (0,0))) (ht:∀q,q ∈ e::d.E→q≠t):Kd.R d e ((((w.setCell ⟨g,j0,none⟩ u0).setCell ⟨g,j1,none⟩ u1).setCell ⟨g,j2,none⟩ u2).setCell ⟨g,j3,none⟩ u3) base ok v xs:=Kd.aD (Kd.l8 (p:=⟨g,j3,none⟩) (Kd.l8 (p:=⟨g,j2,none⟩) (Kd.l8 (p:=⟨g,j1,none⟩) (Kd.l8 (p:=⟨g,j0,none⟩) (Kd.iW h hb ht) mV u0) mV u1) mV u2) mV u3) oI
theorem fS1 {α:Type} {d:Kd α} {e:Nat} {w:World} {base:Nat} {ok:Nat→Prop} {v:Value} {xs:List α} {g t:Nat} {cells:Array Value} {u0:Value} {j0:Nat} (h:Kd.S d e w base ok v xs) (hb:w.heap[g]?=some (.cells cells t (0,0))) (ht:∀q,q ∈ e::d.E→q≠t):Kd.S d e (w.setCell ⟨g,j0,none⟩ u0) base ok v xs:=Kd.gu (Kd.rq (p:=⟨g,j0,none⟩) (Kd.vI h hb ht) mV u0) oI
theorem fS3 {α:Type} {d:Kd α} {e:Nat} {w:World} {base:Nat} {ok:Nat→Prop} {v:Value} {xs:List α} {g t:Nat} {cells:Array Value} {u0:Value} {j0:Nat} {u1:Value} {j1:Nat} {u2:Value} {j2:Nat} (h:Kd.S d e w base ok v xs) (hb:w.heap[g]?=some (.cells cells t (0,0))) (ht:∀q,q ∈ e::d.E→q≠t):Kd.S d e (((w.setCell ⟨g,j0,none⟩ u0).setCell ⟨g,j1,none⟩ u1).setCell ⟨g,j2,none⟩ u2) base ok v xs:=Kd.gu (Kd.rq (p:=⟨g,j2,none⟩) (Kd.rq (p:=⟨g,j1,none⟩) (Kd.rq (p:=⟨g,j0,none⟩) (Kd.vI h hb ht) mV u0) mV u1) mV u2) oI
theorem fS4 {α:Type} {d:Kd α} {e:Nat} {w:World} {base:Nat} {ok:Nat→Prop} {v:Value} {xs:List α} {g t:Nat} {cells:Array Value} {u0:Value} {j0:Nat} {u1:Value} {j1:Nat} {u2:Value} {j2:Nat} {u3:Value} {j3:Nat} (h:Kd.S d e w base ok v xs) (hb:w.heap[g]?=some (.cells cells t (0,0))) (ht:∀q,q ∈ e::d.E→q≠t):Kd.S d e ((((w.setCell ⟨g,j0,none⟩ u0).setCell ⟨g,j1,none⟩ u1).setCell ⟨g,j2,none⟩ u2).setCell ⟨g,j3,none⟩ u3) base ok v xs:=Kd.gu (Kd.rq (p:=⟨g,j3,none⟩) (Kd.rq (p:=⟨g,j2,none⟩) (Kd.rq (p:=⟨g,j1,none⟩) (Kd.rq (p:=⟨g,j0,none⟩) (Kd.vI h hb ht) mV u0) mV u1) mV u2) mV u3) oI
theorem hR0 {α:Type} {d:Kd α} {e:Nat} {w:World} {base:Nat} {ok:Nat→Prop} {v:Value} {xs:List α} {g0 t0:Nat} {c0:Array Value} {u0:Value} {j0:Nat} (h:Kd.R d e w base ok v xs) (b0:w.heap[g0]?=some (.cells c0 t0 (0,0))) (q0:∀q,q ∈ e::d.E→q≠t0:=by decide):Kd.R d e (w.setCell ⟨g0,j0,none⟩ u0) base (fun k=>ok k∧k≠g0) v xs:=Kd.l8 (p:=⟨g0,j0,none⟩) (Kd.iW h b0 q0) (fun _ hk=>hk.2) u0
theorem hS0 {α:Type} {d:Kd α} {e:Nat} {w:World} {base:Nat} {ok:Nat→Prop} {v:Value} {xs:List α} {g0 t0:Nat} {c0:Array Value} {u0:Value} {j0:Nat} (h:Kd.S d e w base ok v xs) (b0:w.heap[g0]?=some (.cells c0 t0 (0,0))) (q0:∀q,q ∈ e::d.E→q≠t0:=by decide):Kd.S d e (w.setCell ⟨g0,j0,none⟩ u0) base (fun k=>ok k∧k≠g0) v xs:=Kd.rq (p:=⟨g0,j0,none⟩) (Kd.vI h b0 q0) (fun _ hk=>hk.2) u0
theorem hR1 {α:Type} {d:Kd α} {e:Nat} {w:World} {base:Nat} {ok:Nat→Prop} {v:Value} {xs:List α} {g0 t0:Nat} {c0:Array Value} {u0:Value} {j0:Nat} {u1:Value} {j1:Nat} {u2:Value} {j2:Nat} {u3:Value} {j3:Nat} (h:Kd.R d e w base ok v xs) (b0:w.heap[g0]?=some (.cells c0 t0 (0,0))) (q0:∀q,q ∈ e::d.E→q≠t0:=by decide):Kd.R d e ((((w.setCell ⟨g0,j0,none⟩ u0).setCell ⟨g0,j1,none⟩ u1).setCell ⟨g0,j2,none⟩ u2).setCell ⟨g0,j3,none⟩ u3) base (fun k=>ok k∧k≠g0) v xs:=Kd.l8 (p:=⟨g0,j3,none⟩) (Kd.l8 (p:=⟨g0,j2,none⟩) (Kd.l8 (p:=⟨g0,j1,none⟩) (Kd.l8 (p:=⟨g0,j0,none⟩) (Kd.iW h b0 q0) (fun _ hk=>hk.2) u0) (fun _ hk=>hk.2) u1) (fun _ hk=>hk.2) u2) (fun _ hk=>hk.2) u3
theorem hR2 {α:Type} {d:Kd α} {e:Nat} {w:World} {base:Nat} {ok:Nat→Prop} {v:Value} {xs:List α} {g0 t0:Nat} {c0:Array Value} {g1 t1:Nat} {c1:Array Value} {u0:Value} {j0:Nat} {u1:Value} {j1:Nat} {u2:Value} {j2:Nat} {u3:Value} {j3:Nat} {u4:Value} {j4:Nat} (h:Kd.R d e w base ok v xs) (b0:w.heap[g0]?=some (.cells c0 t0 (0,0))) (b1:w.heap[g1]?=some (.cells c1 t1 (0,0))) (q0:∀q,q ∈ e::d.E→q≠t0:=by decide) (q1:∀q,q ∈ e::d.E→q≠t1:=by decide):Kd.R d e (((((w.setCell ⟨g0,j0,none⟩ u0).setCell ⟨g1,j1,none⟩ u1).setCell ⟨g1,j2,none⟩ u2).setCell ⟨g1,j3,none⟩ u3).setCell ⟨g1,j4,none⟩ u4) base (fun k=>(ok k∧k≠g0)∧k≠g1) v xs:=Kd.l8 (p:=⟨g1,j4,none⟩) (Kd.l8 (p:=⟨g1,j3,none⟩) (Kd.l8 (p:=⟨g1,j2,none⟩) (Kd.l8 (p:=⟨g1,j1,none⟩) (Kd.l8 (p:=⟨g0,j0,none⟩) (Kd.iW (Kd.iW h b0 q0) b1 q1) (fun _ hk=>hk.1.2) u0) (fun _ hk=>hk.2) u1) (fun _ hk=>hk.2) u2) (fun _ hk=>hk.2) u3) (fun _ hk=>hk.2) u4
theorem hS1 {α:Type} {d:Kd α} {e:Nat} {w:World} {base:Nat} {ok:Nat→Prop} {v:Value} {xs:List α} {g0 t0:Nat} {c0:Array Value} {g1 t1:Nat} {c1:Array Value} {u0:Value} {j0:Nat} {u1:Value} {j1:Nat} {u2:Value} {j2:Nat} {u3:Value} {j3:Nat} {u4:Value} {j4:Nat} (h:Kd.S d e w base ok v xs) (b0:w.heap[g0]?=some (.cells c0 t0 (0,0))) (b1:w.heap[g1]?=some (.cells c1 t1 (0,0))) (q0:∀q,q ∈ e::d.E→q≠t0:=by decide) (q1:∀q,q ∈ e::d.E→q≠t1:=by decide):Kd.S d e (((((w.setCell ⟨g0,j0,none⟩ u0).setCell ⟨g1,j1,none⟩ u1).setCell ⟨g1,j2,none⟩ u2).setCell ⟨g1,j3,none⟩ u3).setCell ⟨g1,j4,none⟩ u4) base (fun k=>(ok k∧k≠g0)∧k≠g1) v xs:=Kd.rq (p:=⟨g1,j4,none⟩) (Kd.rq (p:=⟨g1,j3,none⟩) (Kd.rq (p:=⟨g1,j2,none⟩) (Kd.rq (p:=⟨g1,j1,none⟩) (Kd.rq (p:=⟨g0,j0,none⟩) (Kd.vI (Kd.vI h b0 q0) b1 q1) (fun _ hk=>hk.1.2) u0) (fun _ hk=>hk.2) u1) (fun _ hk=>hk.2) u2) (fun _ hk=>hk.2) u3) (fun _ hk=>hk.2) u4
theorem hS2 {α:Type} {d:Kd α} {e:Nat} {w:World} {base:Nat} {ok:Nat→Prop} {v:Value} {xs:List α} {g0 t0:Nat} {c0:Array Value} {u0:Value} {j0:Nat} {u1:Value} {j1:Nat} {u2:Value} {j2:Nat} {u3:Value} {j3:Nat} (h:Kd.S d e w base ok v xs) (b0:w.heap[g0]?=some (.cells c0 t0 (0,0))) (q0:∀q,q ∈ e::d.E→q≠t0:=by decide):Kd.S d e ((((w.setCell ⟨g0,j0,none⟩ u0).setCell ⟨g0,j1,none⟩ u1).setCell ⟨g0,j2,none⟩ u2).setCell ⟨g0,j3,none⟩ u3) base (fun k=>ok k∧k≠g0) v xs:=Kd.rq (p:=⟨g0,j3,none⟩) (Kd.rq (p:=⟨g0,j2,none⟩) (Kd.rq (p:=⟨g0,j1,none⟩) (Kd.rq (p:=⟨g0,j0,none⟩) (Kd.vI h b0 q0) (fun _ hk=>hk.2) u0) (fun _ hk=>hk.2) u1) (fun _ hk=>hk.2) u2) (fun _ hk=>hk.2) u3
theorem hR3 {α:Type} {d:Kd α} {e:Nat} {w:World} {base:Nat} {ok:Nat→Prop} {v:Value} {xs:List α} {g0 t0:Nat} {c0:Array Value} {u0:Value} {j0:Nat} {u1:Value} {j1:Nat} {u2:Value} {j2:Nat} (h:Kd.R d e w base ok v xs) (b0:w.heap[g0]?=some (.cells c0 t0 (0,0))) (q0:∀q,q ∈ e::d.E→q≠t0:=by decide):Kd.R d e (((w.setCell ⟨g0,j0,none⟩ u0).setCell ⟨g0,j1,none⟩ u1).setCell ⟨g0,j2,none⟩ u2) base (fun k=>ok k∧k≠g0) v xs:=Kd.l8 (p:=⟨g0,j2,none⟩) (Kd.l8 (p:=⟨g0,j1,none⟩) (Kd.l8 (p:=⟨g0,j0,none⟩) (Kd.iW h b0 q0) (fun _ hk=>hk.2) u0) (fun _ hk=>hk.2) u1) (fun _ hk=>hk.2) u2
theorem hS3 {α:Type} {d:Kd α} {e:Nat} {w:World} {base:Nat} {ok:Nat→Prop} {v:Value} {xs:List α} {g0 t0:Nat} {c0:Array Value} {u0:Value} {j0:Nat} {u1:Value} {j1:Nat} {u2:Value} {j2:Nat} (h:Kd.S d e w base ok v xs) (b0:w.heap[g0]?=some (.cells c0 t0 (0,0))) (q0:∀q,q ∈ e::d.E→q≠t0:=by decide):Kd.S d e (((w.setCell ⟨g0,j0,none⟩ u0).setCell ⟨g0,j1,none⟩ u1).setCell ⟨g0,j2,none⟩ u2) base (fun k=>ok k∧k≠g0) v xs:=Kd.rq (p:=⟨g0,j2,none⟩) (Kd.rq (p:=⟨g0,j1,none⟩) (Kd.rq (p:=⟨g0,j0,none⟩) (Kd.vI h b0 q0) (fun _ hk=>hk.2) u0) (fun _ hk=>hk.2) u1) (fun _ hk=>hk.2) u2
theorem hN0 {α:Type} {d:Kd α} {e:Nat} {w:World} {base:Nat} {ok:Nat→Prop} {v:Value} {xs:List α} {g0:Nat} {u0:Value} {j0:Nat} {u1:Value} {j1:Nat} {u2:Value} {j2:Nat} (h:Kd.N d e w base ok v xs) (m0:∀k,ok k→k≠g0):Kd.N d e (((w.setCell ⟨g0,j0,none⟩ u0).setCell ⟨g0,j1,none⟩ u1).setCell ⟨g0,j2,none⟩ u2) base (fun k=>ok k∧k≠g0) v xs:=Kd.zw (p:=⟨g0,j2,none⟩) (Kd.zw (p:=⟨g0,j1,none⟩) (Kd.zw (p:=⟨g0,j0,none⟩) (Kd.fE h (fun k hk=>(⟨hk,m0 k hk⟩:_∧k≠g0))) (fun _ hk=>hk.2) u0) (fun _ hk=>hk.2) u1) (fun _ hk=>hk.2) u2
theorem hN1 {α:Type} {d:Kd α} {e:Nat} {w:World} {base:Nat} {ok:Nat→Prop} {v:Value} {xs:List α} {g0:Nat} {u0:Value} {j0:Nat} {u1:Value} {j1:Nat} {u2:Value} {j2:Nat} {u3:Value} {j3:Nat} (h:Kd.N d e w base ok v xs) (m0:∀k,ok k→k≠g0):Kd.N d e ((((w.setCell ⟨g0,j0,none⟩ u0).setCell ⟨g0,j1,none⟩ u1).setCell ⟨g0,j2,none⟩ u2).setCell ⟨g0,j3,none⟩ u3) base (fun k=>ok k∧k≠g0) v xs:=Kd.zw (p:=⟨g0,j3,none⟩) (Kd.zw (p:=⟨g0,j2,none⟩) (Kd.zw (p:=⟨g0,j1,none⟩) (Kd.zw (p:=⟨g0,j0,none⟩) (Kd.fE h (fun k hk=>(⟨hk,m0 k hk⟩:_∧k≠g0))) (fun _ hk=>hk.2) u0) (fun _ hk=>hk.2) u1) (fun _ hk=>hk.2) u2) (fun _ hk=>hk.2) u3
theorem hN2 {α:Type} {d:Kd α} {e:Nat} {w:World} {base:Nat} {ok:Nat→Prop} {v:Value} {xs:List α} {g0:Nat} {u0:Value} {j0:Nat} {u1:Value} {j1:Nat} (h:Kd.N d e w base ok v xs) (m0:∀k,ok k→k≠g0):Kd.N d e ((w.setCell ⟨g0,j0,none⟩ u0).setCell ⟨g0,j1,none⟩ u1) base (fun k=>ok k∧k≠g0) v xs:=Kd.zw (p:=⟨g0,j1,none⟩) (Kd.zw (p:=⟨g0,j0,none⟩) (Kd.fE h (fun k hk=>(⟨hk,m0 k hk⟩:_∧k≠g0))) (fun _ hk=>hk.2) u0) (fun _ hk=>hk.2) u1
theorem hR4 {α:Type} {d:Kd α} {e:Nat} {w:World} {base:Nat} {ok:Nat→Prop} {v:Value} {xs:List α} {g0 t0:Nat} {c0:Array Value} {u0:Value} {j0:Nat} {u1:Value} {j1:Nat} (h:Kd.R d e w base ok v xs) (b0:w.heap[g0]?=some (.cells c0 t0 (0,0))) (q0:∀q,q ∈ e::d.E→q≠t0:=by decide):Kd.R d e ((w.setCell ⟨g0,j0,none⟩ u0).setCell ⟨g0,j1,none⟩ u1) base (fun k=>ok k∧k≠g0) v xs:=Kd.l8 (p:=⟨g0,j1,none⟩) (Kd.l8 (p:=⟨g0,j0,none⟩) (Kd.iW h b0 q0) (fun _ hk=>hk.2) u0) (fun _ hk=>hk.2) u1
theorem YL {α:Type} {d:Kd α} {e:Nat} {w:World} {base:Nat} {ok:Nat→Prop} {v:Value} {xs:List α} {g0 t0:Nat} {c0:Array Value} {g1 t1:Nat} {c1:Array Value} {u0:Value} {j0:Nat} {u1:Value} {j1:Nat} {u2:Value} {j2:Nat} {u3:Value} {j3:Nat} {u4:Value} {j4:Nat} {u5:Value} {j5:Nat} {u6:Value} {j6:Nat} (h:Kd.R d e w base ok v xs) (b0:w.heap[g0]?=some (.cells c0 t0 (0,0))) (b1:w.heap[g1]?=some (.cells c1 t1 (0,0))) (q0:∀q,q ∈ e::d.E→q≠t0:=by decide) (q1:∀q,q ∈ e::d.E→q≠t1:=by decide):Kd.R d e (((((((w.setCell ⟨g0,j0,none⟩ u0).setCell ⟨g0,j1,none⟩ u1).setCell ⟨g0,j2,none⟩ u2).setCell ⟨g0,j3,none⟩ u3).setCell ⟨g1,j4,none⟩ u4).setCell ⟨g1,j5,none⟩ u5).setCell ⟨g1,j6,none⟩ u6) base (fun k=>(ok k∧k≠g0)∧k≠g1) v xs:=Kd.l8 (p:=⟨g1,j6,none⟩) (Kd.l8 (p:=⟨g1,j5,none⟩) (Kd.l8 (p:=⟨g1,j4,none⟩) (Kd.l8 (p:=⟨g0,j3,none⟩) (Kd.l8 (p:=⟨g0,j2,none⟩) (Kd.l8 (p:=⟨g0,j1,none⟩) (Kd.l8 (p:=⟨g0,j0,none⟩) (Kd.iW (Kd.iW h b0 q0) b1 q1) (fun _ hk=>hk.1.2) u0) (fun _ hk=>hk.1.2) u1) (fun _ hk=>hk.1.2) u2) (fun _ hk=>hk.1.2) u3) (fun _ hk=>hk.2) u4) (fun _ hk=>hk.2) u5) (fun _ hk=>hk.2) u6
theorem hN3 {α:Type} {d:Kd α} {e:Nat} {w:World} {base:Nat} {ok:Nat→Prop} {v:Value} {xs:List α} {g0:Nat} {g1:Nat} {u0:Value} {j0:Nat} {u1:Value} {j1:Nat} {u2:Value} {j2:Nat} {u3:Value} {j3:Nat} {u4:Value} {j4:Nat} {u5:Value} {j5:Nat} {u6:Value} {j6:Nat} (h:Kd.N d e w base ok v xs) (m0:∀k,ok k→k≠g0) (m1:∀k,(ok k∧k≠g0)→k≠g1):Kd.N d e (((((((w.setCell ⟨g0,j0,none⟩ u0).setCell ⟨g0,j1,none⟩ u1).setCell ⟨g0,j2,none⟩ u2).setCell ⟨g0,j3,none⟩ u3).setCell ⟨g1,j4,none⟩ u4).setCell ⟨g1,j5,none⟩ u5).setCell ⟨g1,j6,none⟩ u6) base (fun k=>(ok k∧k≠g0)∧k≠g1) v xs:=Kd.zw (p:=⟨g1,j6,none⟩) (Kd.zw (p:=⟨g1,j5,none⟩) (Kd.zw (p:=⟨g1,j4,none⟩) (Kd.zw (p:=⟨g0,j3,none⟩) (Kd.zw (p:=⟨g0,j2,none⟩) (Kd.zw (p:=⟨g0,j1,none⟩) (Kd.zw (p:=⟨g0,j0,none⟩) (Kd.fE (Kd.fE h (fun k hk=>(⟨hk,m0 k hk⟩:_∧k≠g0))) (fun k hk=>(⟨hk,m1 k hk⟩:_∧k≠g1))) (fun _ hk=>hk.1.2) u0) (fun _ hk=>hk.1.2) u1) (fun _ hk=>hk.1.2) u2) (fun _ hk=>hk.1.2) u3) (fun _ hk=>hk.2) u4) (fun _ hk=>hk.2) u5) (fun _ hk=>hk.2) u6
theorem hS4 {α:Type} {d:Kd α} {e:Nat} {w:World} {base:Nat} {ok:Nat→Prop} {v:Value} {xs:List α} {g0 t0:Nat} {c0:Array Value} {g1 t1:Nat} {c1:Array Value} {u0:Value} {j0:Nat} {u1:Value} {j1:Nat} {u2:Value} {j2:Nat} {u3:Value} {j3:Nat} {u4:Value} {j4:Nat} {u5:Value} {j5:Nat} {u6:Value} {j6:Nat} (h:Kd.S d e w base ok v xs) (b0:w.heap[g0]?=some (.cells c0 t0 (0,0))) (b1:w.heap[g1]?=some (.cells c1 t1 (0,0))) (q0:∀q,q ∈ e::d.E→q≠t0:=by decide) (q1:∀q,q ∈ e::d.E→q≠t1:=by decide):Kd.S d e (((((((w.setCell ⟨g0,j0,none⟩ u0).setCell ⟨g0,j1,none⟩ u1).setCell ⟨g0,j2,none⟩ u2).setCell ⟨g0,j3,none⟩ u3).setCell ⟨g1,j4,none⟩ u4).setCell ⟨g1,j5,none⟩ u5).setCell ⟨g1,j6,none⟩ u6) base (fun k=>(ok k∧k≠g0)∧k≠g1) v xs:=Kd.rq (p:=⟨g1,j6,none⟩) (Kd.rq (p:=⟨g1,j5,none⟩) (Kd.rq (p:=⟨g1,j4,none⟩) (Kd.rq (p:=⟨g0,j3,none⟩) (Kd.rq (p:=⟨g0,j2,none⟩) (Kd.rq (p:=⟨g0,j1,none⟩) (Kd.rq (p:=⟨g0,j0,none⟩) (Kd.vI (Kd.vI h b0 q0) b1 q1) (fun _ hk=>hk.1.2) u0) (fun _ hk=>hk.1.2) u1) (fun _ hk=>hk.1.2) u2) (fun _ hk=>hk.1.2) u3) (fun _ hk=>hk.2) u4) (fun _ hk=>hk.2) u5) (fun _ hk=>hk.2) u6
theorem iP {α:Type} {c:Prop} [Decidable c] {x y:α} {r:α} (h:(if c then x else y)=r):(¬c∧y=r)∨(c∧x=r):=by
 by_cases k:c
 ·rw[if_pos k] at h;exact .inr ⟨k,h⟩
 ·rw[if_neg k] at h;exact .inl ⟨k,h⟩
theorem iD {α:Type} {c:Prop} [Decidable c] {x y:α} {r:α} (h:(if c then x else y)=r):(decide c=false∧¬c∧y=r)∨(decide c=true∧c∧x=r):=(iP h).imp (fun g=>⟨decide_eq_false g.1,g⟩) (fun g=>⟨decide_eq_true g.1,g⟩)
theorem iE {α β:Type} [BEq β] [LawfulBEq β] {a b:β} [Decidable (a=b)] {x y:α} {r:α} (h:(if a=b then x else y)=r):((a==b)=false∧(a !=b)=true∧¬a=b∧y=r)∨((a==b)=true∧(a !=b)=false∧a=b∧x=r):=(iP h).imp (fun g=>⟨eqF g.1,neT g.1,g⟩) (fun g=>⟨eqT g.1,neF g.1,g⟩)
theorem iB {α:Type} {t:Bool} {x y:α} {r:α} (h:(if t=true then x else y)=r):(t=false∧y=r)∨(t=true∧x=r):=(iP h).imp (fun g=>⟨Bool.eq_false_iff.mpr g.1,g.2⟩) id
theorem jP {α:Type} {c:Prop} [Decidable c] {x y:α} {r:α} (h:(if c then x else y)=r):(c∧x=r)∨(¬c∧y=r):=(iP h).symm
theorem jD {α:Type} {c:Prop} [Decidable c] {x y:α} {r:α} (h:(if c then x else y)=r):(decide c=true∧c∧x=r)∨(decide c=false∧¬c∧y=r):=(iD h).symm
theorem jE {α β:Type} [BEq β] [LawfulBEq β] {a b:β} [Decidable (a=b)] {x y:α} {r:α} (h:(if a=b then x else y)=r):((a==b)=true∧(a !=b)=false∧a=b∧x=r)∨((a==b)=false∧(a !=b)=true∧¬a=b∧y=r):=(iE h).symm
theorem jB {α:Type} {t:Bool} {x y:α} {r:α} (h:(if t=true then x else y)=r):(t=true∧x=r)∨(t=false∧y=r):=(iB h).symm
theorem l5 {α:Type} {c:Prop} [Decidable c] {x:Option α} {r:α} (h:(if c then x else none)=some r):decide c=true∧c∧x=some r:=⟨decide_eq_true (nD h).1,nD h⟩
theorem ifE {α β:Type} [BEq β] [LawfulBEq β] {a b:β} [Decidable (a=b)] {x:Option α} {r:α} (h:(if a=b then x else none)=some r):(a==b)=true∧(a !=b)=false∧a=b∧x=some r:=⟨eqT (nD h).1,neF (nD h).1,nD h⟩
theorem zD {p:Prop} (h:p:=by first|exact ⟨rfl,_,dD⟩|exact ⟨rfl,_,dT⟩):p:=h
theorem bF {p:Prop} {w:World} {g t:Nat} {cs:Array Value} {a:Addr} {u:Value} (n:aa (g≠a.block)) (x:w.heap[g]?=some (.cells cs t (0,0))) (h:(w.setCell a u).heap[g]?=some (.cells cs t (0,0))→p:=by (intro h_;(with_reducible repeat (first|refine bA ?_ _|refine bB ?_|refine bC ?_ _));exact h_)):p:=h (zH x n.o u)
theorem gR {P:Program} {ops:Array Oper} {Q:Exit→Act→World→Prop} {rest:List Oper} {oi:Oper} {a:Act} {w:World} {f:FuncId} {fn:Func} {ps:Array Operand} {ts:Array TypeId} {v:Value} {R:World→Prop} (N:Tmp) (hf:P.funcs[f]?=some fn) (args:Array Value) (hc:Calls P f args w (fun e w'=>e=.returned v∧R w')) (hop:oi.op=.call {callee:=.value (.func f),args:=ps,argTypes:=ts}:=by rfl) (hd:oi.dst=some N:=by rfl) (hg:oi.guard=none:=by rfl) (hname:(fn.name== "runtime.NumGoroutine")=false:=by kernel_rfl) (hb:fn.body.isSome=true:=by rfl)
 (hargs:ps.map a.eval=args:=by (try simp only[List.map_toArray,List.map_cons,List.map_nil]);first|done|rfl|(simp only[List.length_drop,List.length_take];rfl)) (h:∀w',R w'→wpList P ops Q rest (a.put (some N) v) w'):wpList P ops Q (oi::rest) a w:=gC N hf args hc hop hd hg hname hb hargs (fun _ w' g=>⟨v,g.1,h w' g.2⟩)
end Go.Proofs.YtkjbbnijhpldhaaGreatDoor.QFnTable
