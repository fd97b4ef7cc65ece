/- Rows of rows whose inner rows lie apart from each other and are told by a colour: the words that FnExactGridOf's machine texts need. Conditions: none. -/
import Derived.Test.YtepnbcdbagjmbaaDoorWMore
import Derived.Test.YtepnbcdbagjmbaaDoorWNEv
set_option linter.unusedVariables false
set_option linter.unusedSimpArgs false
namespace Go.Proofs.YtepnbcdbagjmbaaDoorW.PrintWords
open Go.RowKit
open Kd
def Zn {α : Type} (rb : Nat) (C : Nat → Prop) (d : Kd α) (e : Nat) (w : World) (base : Nat) (ok : Nat → Prop) (v : Value) (xs : List α) : Prop :=
 (∀ k,v.ownBlock = some k → ok k) ∧ ∃ (f : Nat → Nat) (rows : List (List Value)),rows.length = xs.length ∧ (raw d.sz).R e w base (fun k => some k = v.ownBlock) v rows ∧ ∀ (j : Nat) (x : α) (c : List Value),xs[j]? = some x → rows[j]? = some c → d.M w rb (fun k => (ok k ∧ some k ≠ v.ownBlock) ∧ C k ∧ f k = j) x c
section
variable {α : Type} {d : Kd α} {e base rb : Nat} {ok ok' okp S C C' Ca Cb : Nat → Prop} {w w1 W : World} {A : Option Addr} {u v v1 : Value} {xs ys : List α}
theorem Zn_N (h : Zn rb C d e w base ok v xs) : Kd.N d e w base ok v xs := by
 obtain ⟨h0,f,rows,hl,hR,hf⟩ := h
 exact ⟨h0,rows,hl,hR,fun j x c hx hc => FK_mono (FK_of_M (hf j x c hx hc)) (fun k hk => hk.1)⟩
theorem Zn_nil (rb : Nat) (C : Nat → Prop) (d : Kd α) (e : Nat) (w : World) (base : Nat) (ok : Nat → Prop) : Zn rb C d e w base ok (.slice none 0 0) [] :=
 ⟨fun k hk => by simp [Value.ownBlock] at hk,fun _ => 0,[],rfl,R_nil _ _ _ _ _,fun j x c hx _ => by simp at hx⟩
theorem Zn_mono (h : Zn rb C d e w base ok v xs) (hok : ∀ k,ok k → ok' k) : Zn rb C d e w base ok' v xs := by
 obtain ⟨h0,f,rows,hl,hR,hf⟩ := h
 exact ⟨fun k hk => hok k (h0 k hk),f,rows,hl,hR,fun j x c hx hc => d.M_mono (fun k hk => ⟨⟨hok k hk.1.1,hk.1.2⟩,hk.2⟩) (hf j x c hx hc)⟩
theorem Zn_color (h : Zn rb C d e w base ok v xs) (hC : ∀ k,ok k → C k → C' k) : Zn rb C' d e w base ok v xs := by
 obtain ⟨h0,f,rows,hl,hR,hf⟩ := h
 exact ⟨h0,f,rows,hl,hR,fun j x c hx hc => d.M_mono (fun k hk => ⟨hk.1,hC k hk.1.1 hk.2.1,hk.2.2⟩) (hf j x c hx hc)⟩
theorem Zn_lt (h : Zn rb C d e w base ok v xs) : ∀ k,v.ownBlock = some k → k < w.heap.size := N_lt (Zn_N h)
theorem Zn_base (h : Zn rb C d e w base ok v xs) : ∀ k,v.ownBlock = some k → base ≤ k := N_base (Zn_N h)
theorem Zn_typed (h : Zn rb C d e w base ok v xs) : ∀ k,v.ownBlock = some k → ∃ cells,w.heap[k]? = some (.cells cells e (0,0)) := N_typed (Zn_N h)
theorem Zn_ne (h : Zn rb C d e w base ok v xs) {g : Nat} {t : Nat} {cells : Array Value} (hb : w.heap[g]? = some (.cells cells t (0,0))) (ht : e ≠ t) : some g ≠ v.ownBlock := N_ne (Zn_N h) hb ht
theorem Zn_slice (h : Zn rb C d e w base ok v xs) : ∃ A c,v = .slice A xs.length c := N_slice (Zn_N h)
theorem Zn_F (h : Zn rb C d e w base ok v xs) : Zn rb C d e w base ok v xs := h
theorem Zn_bound (h : Zn rb C d e w base ok v xs) : Zn rb C d e w base (fun k => ok k ∧ k < w.heap.size) v xs := by
 have hlt := Zn_lt h
 obtain ⟨h0,f,rows,hl,hR,hf⟩ := h
 exact ⟨fun k hk => ⟨h0 k hk,hlt k hk⟩,f,rows,hl,hR,fun j x c hx hc => d.M_mono (fun k hk => ⟨⟨⟨hk.1.1.1,hk.2.2.1⟩,hk.1.1.2⟩,hk.1.2⟩) (d.M_bound (hf j x c hx hc))⟩
theorem Zn_lower {base' : Nat} (h : Zn rb C d e w base ok v xs) (hb : base' ≤ base) : Zn rb C d e w base' ok v xs := by
 obtain ⟨h0,f,rows,hl,hR,hf⟩ := h
 exact ⟨h0,f,rows,hl,R_lower hR hb,hf⟩
theorem M_stepB {x : α} {c : List Value} {o : Nat → Prop} (h : d.M w rb o x c) (hm : ∀ k,o k → k < w.heap.size → w1.heap[k]? = w.heap[k]?) : d.M w1 rb (fun k => o k ∧ k < w.heap.size) x c :=
 d.M_move (fun k hk => hm k hk.1 hk.2) (d.M_mono (fun k hk => ⟨hk.1,hk.2.2.1⟩) (d.M_bound h))
theorem Zn_step (h : Zn rb C d e w base ok v xs) (hm : ∀ k,ok k → k < w.heap.size → w1.heap[k]? = w.heap[k]?) : Zn rb C d e w1 base ok v xs := by
 obtain ⟨h0,f,rows,hl,hR,hf⟩ := h
 exact ⟨h0,f,rows,hl,R_step hR (fun k hk hlt => hm k (h0 k hk.symm) hlt),fun j x c hx hc => d.M_mono (fun k hk => hk.1) (M_stepB (hf j x c hx hc) (fun k hk hlt => hm k hk.1.1 hlt))⟩
theorem Zn_below (h : Zn rb C d e w base ok v xs) (hb : Below w.heap.size w w1) : Zn rb C d e w1 base ok v xs := Zn_step h (fun k _ hk => hb.block k hk)
theorem Zn_alloc (h : Zn rb C d e w base ok v xs) (o : Obj) : Zn rb C d e (w.alloc o) base ok v xs := Zn_below h (below_alloc (Below.refl _ _) o)
theorem Zn_drew (h : Zn rb C d e w base ok v xs) : Zn rb C d e w.drew base ok v xs := Zn_below h (below_drew (Below.refl _ _))
theorem Zn_drewN (h : Zn rb C d e w base ok v xs) (m : Nat) : Zn rb C d e (w.drewN m) base ok v xs := Zn_below h (pw_below_drewN (Below.refl _ _) m)
theorem Zn_far (h : Zn rb C d e w base ok v xs) {p : Addr} (hok : ∀ k,ok k → k ≠ p.block) (u : Value) : Zn rb C d e (w.setCell p u) base ok v xs := Zn_step h (fun k ho _ => Below.heap_setCell w p u k (hok k ho))
theorem Zn_elder' (h : Zn rb C d e W base ok v xs) (hbase : ∀ k,u.ownBlock = some k → W.heap.size ≤ k) (hb : Below W.heap.size W w1) : Zn rb C d e w1 base (fun k => ok k ∧ some k ≠ u.ownBlock) v xs :=
 Zn_mono (Zn_below (Zn_bound h) hb) (fun k hk => ⟨hk.1,fun he => by have := hbase k he.symm;have := hk.2;omega⟩)
theorem Zn_afterv (h : Zn rb C d e W base (fun k => ok k ∧ some k ≠ u.ownBlock) v xs) {u1 : Value} (hg : W.grownBy w1 u.ownBlock) (hat : u1.ownBlock = u.ownBlock ∨ ∃ b,u1.ownBlock = some b ∧ W.heap.size ≤ b) : Zn rb C d e w1 base (fun k => ok k ∧ some k ≠ u1.ownBlock) v xs := by
 refine Zn_mono (Zn_step (Zn_bound h) (fun k hk hlt => hg.block k hlt hk.1.2)) (fun k hk => ⟨hk.1.1,?_⟩)
 rcases hat with hat | ⟨b,hb,hle⟩
 ·rw [hat];exact hk.1.2
 ·rw [hb]
  intro he
  injection he with he
  have := hk.2
  omega
open Classical in
theorem Zn_appended {rows news : List (List Value)} {f f2 : Nat → Nat} (h0 : ∀ k,v.ownBlock = some k → ok k) (hl : rows.length = xs.length) (hf : ∀ (j : Nat) (x : α) (c : List Value),xs[j]? = some x → rows[j]? = some c → d.M W rb (fun k => (ok k ∧ some k ≠ v.ownBlock) ∧ Ca k ∧ f k = j) x c)
  (hl2 : news.length = ys.length) (hf2 : ∀ (j : Nat) (x : α) (c : List Value),ys[j]? = some x → news[j]? = some c → d.M W rb (fun k => okp k ∧ Cb k ∧ f2 k = j) x c) (hokp : ∀ k,okp k → ok k ∧ some k ≠ v.ownBlock) (hfresh : ∀ k,W.heap.size ≤ k → ok k)
  (hR : (raw d.sz).R e w1 base (fun _ => True) v1 (rows ++ news)) (hg : W.grownBy w1 v.ownBlock) (hat : v1.ownBlock = v.ownBlock ∨ ∃ b,v1.ownBlock = some b ∧ W.heap.size ≤ b) (hap : ∀ k,Cb k → ¬ Ca k) : Zn rb (fun k => Ca k ∨ Cb k) d e w1 base ok v1 (xs ++ ys) := by
 have hne : ∀ k,some k ≠ v.ownBlock → k < W.heap.size → some k ≠ v1.ownBlock := by
  intro k hk hlt
  rcases hat with hat | ⟨b,hb,hle⟩
  ·rw [hat];exact hk
  ·rw [hb]
   intro he
   injection he with he
   omega
 have step : ∀ {x : α} {c : List Value} {o o' : Nat → Prop},d.M W rb o x c → (∀ k,o k → (ok k ∧ some k ≠ v.ownBlock) ∧ o' k) → d.M w1 rb (fun k => (ok k ∧ some k ≠ v1.ownBlock) ∧ o' k) x c := by
  intro x c o o' hq ho
  exact d.M_mono (fun k hk => ⟨⟨(ho k hk.1).1.1,hne k (ho k hk.1).1.2 hk.2⟩,(ho k hk.1).2⟩) (M_stepB hq (fun k hk hlt => hg.block k hlt (ho k hk).1.2))
 refine ⟨fun k hk => ?_,fun k => if Cb k then xs.length + f2 k else f k,rows ++ news,by rw [List.length_append,List.length_append,hl,hl2],raw_tight hR,fun j x c hx hc => ?_⟩
 ·rcases hat with hat | ⟨b,hb,hle⟩
  ·exact h0 k (hat ▸ hk)
  ·rw [hb] at hk
   injection hk with hk
   exact hfresh k (by omega)
 ·rcases Nat.lt_or_ge j xs.length with hlt | hge
  ·rw [List.getElem?_append_left hlt] at hx
   rw [List.getElem?_append_left (by omega)] at hc
   exact step (hf j x c hx hc) (fun k hk => ⟨hk.1,.inl hk.2.1,by dsimp only;rw [if_neg (fun hb => hap k hb hk.2.1)];exact hk.2.2⟩)
  ·rw [List.getElem?_append_right hge] at hx
   rw [List.getElem?_append_right (by omega),hl] at hc
   exact step (hf2 _ x c hx hc) (fun k hk => ⟨hokp k hk.1,.inr hk.2.1,by dsimp only;rw [if_pos hk.2.1,hk.2.2];omega⟩)
theorem Zn_S (h : Zn base C d e w base ok v xs) : Kd.S d e w base (fun k => ok k ∧ (some k = v.ownBlock ∨ C k)) v xs := by
 obtain ⟨h0,f,rows,hl,⟨_,inner,ho,hr⟩,hf⟩ := h
 refine ⟨f,fun k hk => ⟨h0 k hk,.inl hk.symm⟩,inner,by rw [List.length_zipIdx,← hl];exact ho,by rw [List.length_zipIdx,← hl];exact hr.1,fun j p hj => ?_⟩
 rw [List.getElem?_zipIdx,Nat.zero_add] at hj
 obtain ⟨x,hx,rfl⟩ := Option.map_eq_some_iff.1 hj
 have hjl : j < rows.length := by have := (List.getElem?_eq_some_iff.1 hx).1;omega
 have h1 := (hr.2 j _ (List.getElem?_eq_getElem hjl)).1
 have h2 := hf j x _ hx (List.getElem?_eq_getElem hjl)
 rw [← h1] at h2
 exact d.M_mono (fun k hk => ⟨⟨⟨hk.1.1,.inr hk.2.1⟩,hk.1.2⟩,hk.2.2⟩) h2
end
section
variable {P : Program} {ops : Array Oper} {o : Oper} {a : Act} {Q : Exit → Act → World → Prop} {Kc : Act → World → Prop} {α : Type} {rb : Nat}
theorem Zn_append_rows_step (d : Kd α) {w0 W : World} (base : Nat) (hw : Region.wanted o (yielded ops a.tmps) = true) (s x : Operand) (t e : TypeId) (z : Value) (bytes : Nat)
  (ho : o.op = .call { callee := .builtin .append,args := #[s,x],argTypes := #[t,t] })
  (ht : P.underlying t = some (.slice e)) (hinfo : (P.info? e).map (fun i => (i.zero,i.size,i.bytes)) = some (some z,d.sz,bytes)) (hz : z.cells.size = d.sz) (hs0 : 0 < d.sz) (hb0 : 0 < bytes)
  (v : Value) (xs ys : List α) (A : Option Addr) (m c : Nat) (ok okp : Nat → Prop) (hs : a.eval s = v) (hx : a.eval x = .slice A m c) {base2 : Nat} {Ca Cb : Nat → Prop}
  (HO : Zn rb Ca d e W base ok v xs) (HR : Zn rb Cb d e W base2 okp (.slice A m c) ys) (hokp : ∀ k,okp k → ok k ∧ some k ≠ v.ownBlock) (hfresh : ∀ k,W.heap.size ≤ k → ok k)
  (HB : Below base w0 W) (hbase : base ≤ W.heap.size) (hl : (xs.length + m) * bytes ≤ 140737488355328) (hap : ∀ k,Cb k → ¬ Ca k)
  (h : ∀ v1 w1,Zn rb (fun k => Ca k ∨ Cb k) d e w1 base ok v1 (xs ++ ys) → Below base w0 w1 → W.grownBy w1 v.ownBlock → (v1.ownBlock = v.ownBlock ∨ ∃ b,v1.ownBlock = some b ∧ W.heap.size ≤ b) → Kc (a.put o.dst v1) w1) :
  if Region.wanted o (yielded ops a.tmps) = true then Oper.wp P o a W Kc Q else Kc (a.put o.dst undef) W := by
 obtain ⟨h0,f,rows,hlr,hR,hf⟩ := HO
 obtain ⟨_,f2,news,hnl,hnR,hnf⟩ := HR
 obtain ⟨hm,_,hnr⟩ := R_reads' hnR
 rw [← hm] at hnr
 refine R_append_rows_step (raw d.sz) base hw s x t e z bytes ho ht hinfo hz hs0 hb0 v rows news A m c (fun _ => True) (fun _ => False) hs hx (raw_any hR) hnr (fun _ _ hk => hk) (fun _ hk => hk.elim) (fun _ _ => trivial) HB hbase (by rw [hlr];exact hl) ?_
 intro v1 w1 hr hb hg hat
 exact h v1 w1 (Zn_appended h0 hlr hf hnl (fun j y cc hy hc => d.M_mono (fun k hk => ⟨hk.1.1,hk.2⟩) (hnf j y cc hy hc)) hokp hfresh hr hg hat hap) hb hg hat
theorem Zn_lit_step (d : Kd α) {w0 W : World} (base e : Nat) (hw : Region.wanted o (yielded ops a.tmps) = true) {N' : Tmp} (_hd : o.dst = some N') {xs : List α} {inner : List Value} {ok okp C : Nat → Prop}
  (hrun : (execOp a.eval o).run P W = .ok (.value (.slice (some ⟨W.heap.size,0,none⟩) xs.length xs.length)) (W.alloc (.cells inner.toArray e)))
  (hrep : Reps (d.M W rb (fun k => okp k ∧ C k)) d.sz xs inner) (hok : ∀ k,okp k → ok k) (hfresh : ok W.heap.size) (HB : Below base w0 W) (hbase : base ≤ W.heap.size) (hm : xs.length ≤ 1)
  (h : ∀ v1 w1,Zn rb C d e w1 base ok v1 xs → Below base w0 w1 → W.grownBy w1 none → (∃ b,v1.ownBlock = some b ∧ W.heap.size ≤ b) → Kc (a.put o.dst v1) w1) :
  if Region.wanted o (yielded ops a.tmps) = true then Oper.wp P o a W Kc Q else Kc (a.put o.dst undef) W := by
 refine R_lit_step (raw d.sz) base e hw _hd (xs := chunks d.sz xs.length inner) (inner := inner) (ok := fun k => k = W.heap.size) (okp := fun _ => False) (by rw [chunks_length];exact hrun) (reps_raw hrep (fun y c hk => ⟨d.K_len (d.K_of_M hk),d.K_one (d.K_of_M hk)⟩)) (fun _ hk => hk.elim) rfl HB hbase (by rw [chunks_length];omega) ?_
 intro v1 w1 hr hb hg hat
 refine h v1 w1 ?_ hb hg hat
 obtain ⟨b,hbb,hle⟩ := hat
 refine ⟨fun k hk => by rw [hr.1 k hk];exact hfresh,fun _ => 0,_,chunks_length _ _ _,raw_tight hr,fun j x c hx hc => ?_⟩
 have hj0 : j = 0 := by have := (List.getElem?_eq_some_iff.1 hx).1;omega
 have hq := hrep.2 j x hx
 rw [← chunks_get hc] at hq
 refine d.M_mono (fun k hk => ⟨⟨hok k hk.1.1,fun he => ?_⟩,hk.1.2,hj0.symm⟩) (M_stepB hq (fun k hk hlt => hg.block k hlt (by simp)))
 rw [hbb] at he
 injection he with he
 have := hk.2
 omega
end
section
variable {α β : Type} {d : Kd α} {d' : Kd β} {e e' base b : Nat} {ok ok' S C C' CL CN P0 P1 X X' : Nat → Prop} {w w1 W W2 : World} {A : Option Addr} {u v v0 v1 : Value} {xs : List α} {ys' : List β}
def Sc {α : Type} (C : Nat → Prop) (d : Kd α) (e : Nat) (w : World) (base : Nat) (ok : Nat → Prop) (v : Value) (xs : List α) : Prop := Kd.S d e w base (fun k => ok k ∧ C k) v xs
theorem Sc_of (h : Sc C d e w base ok v xs) : Kd.S d e w base (fun k => ok k ∧ C k) v xs := h
theorem Sc_to (h : Kd.S d e w base (fun k => ok k ∧ C k) v xs) : Sc C d e w base ok v xs := h
theorem Sc_re {O : Nat → Prop} (h : Kd.S d e w base O v xs) (hO : ∀ k,O k → ok k ∧ C k) : Sc C d e w base ok v xs := S_mono h hO
theorem Sc_nil (C : Nat → Prop) (d : Kd α) (e : Nat) (w : World) (base : Nat) (ok : Nat → Prop) : Sc C d e w base ok (.slice none 0 0) [] := S_nil _ _ _ _ _
theorem Sc_mono (h : Sc C d e w base ok v xs) (hok : ∀ k,ok k → ok' k) : Sc C d e w base ok' v xs := S_mono h (fun k hk => ⟨hok k hk.1,hk.2⟩)
theorem Sc_below (h : Sc C d e w base ok v xs) (hb : Below w.heap.size w w1) : Sc C d e w1 base ok v xs := S_below h hb
theorem Sc_alloc (h : Sc C d e w base ok v xs) (o : Obj) : Sc C d e (w.alloc o) base ok v xs := S_alloc h o
theorem Sc_drew (h : Sc C d e w base ok v xs) : Sc C d e w.drew base ok v xs := S_drew h
theorem Sc_drewN (h : Sc C d e w base ok v xs) (m : Nat) : Sc C d e (w.drewN m) base ok v xs := S_drewN h m
theorem Sc_far (h : Sc C d e w base ok v xs) {p : Addr} (hok : ∀ k,ok k → k ≠ p.block) (u : Value) : Sc C d e (w.setCell p u) base ok v xs := S_far h (fun k hk => hok k hk.1) u
theorem Sc_lower {base' : Nat} (h : Sc C d e w base ok v xs) (hb : base' ≤ base) : Sc C d e w base' ok v xs := S_lower h hb
theorem Sc_lt (h : Sc C d e w base ok v xs) : ∀ k,v.ownBlock = some k → k < w.heap.size := S_lt h
theorem Sc_base (h : Sc C d e w base ok v xs) : ∀ k,v.ownBlock = some k → base ≤ k := S_base h
theorem Sc_typed (h : Sc C d e w base ok v xs) : ∀ k,v.ownBlock = some k → ∃ cells,w.heap[k]? = some (.cells cells e (0,0)) := S_typed h
theorem Sc_slice (h : Sc C d e w base ok v xs) : ∃ A c,v = .slice A xs.length c := S_slice h
theorem Sc_reads' {n c : Nat} (h : Sc C d e w base ok (.slice A n c) xs) : n = xs.length ∧ n ≤ c ∧ d.C w A xs.length xs := S_reads' h
theorem Sc_apart' (h : Sc C d e W base ok u xs) (hty : ∀ k,v.ownBlock = some k → ∃ cells,W.heap[k]? = some (.cells cells e' (0,0))) (ht : ∀ q,q ∈ e :: d.E → q ≠ e') : Sc C d e W base (fun k => ok k ∧ some k ≠ v.ownBlock) u xs :=
 S_mono (S_apart' h hty ht) (fun k hk => ⟨⟨hk.1.1,hk.2⟩,hk.1.2⟩)
theorem Sc_types (h : Sc C d e w base ok v xs) {g t : Nat} {cells : Array Value} (hb : w.heap[g]? = some (.cells cells t (0,0))) (ht : ∀ q,q ∈ e :: d.E → q ≠ t) : Sc C d e w base (fun k => ok k ∧ k ≠ g) v xs :=
 S_mono (S_types h hb ht) (fun k hk => ⟨⟨hk.1.1,hk.2⟩,hk.1.2⟩)
theorem Sc_new' (h : Sc C d e w1 W.heap.size ok v xs) (hlt : ∀ k,u.ownBlock = some k → k < W.heap.size) : Sc C d e w1 W.heap.size (fun k => ok k ∧ some k ≠ u.ownBlock) v xs :=
 S_mono (S_new' h hlt) (fun k hk => ⟨⟨hk.1.1,hk.2⟩,hk.1.2⟩)
theorem Sc_old (hL : ∀ k,k < W.heap.size → CL k) (h : Sc C d e W base ok u xs) (hb : Below W.heap.size W w1) : Sc (fun k => C k ∧ CL k) d e w1 base (fun k => ok k ∧ k < W.heap.size) u xs :=
 S_mono (S_old h hb) (fun k hk => ⟨⟨hk.1.1,hk.2⟩,hk.1.2,hL k hk.2⟩)
theorem Sc_told {N : Nat} (h : Sc C d e w1 base (fun k => ok k ∧ k < N) u xs) (hbase : ∀ k,v.ownBlock = some k → N ≤ k) : Sc C d e w1 base (fun k => (ok k ∧ some k ≠ v.ownBlock) ∧ k < N) u xs :=
 S_mono h (fun k hk => ⟨⟨⟨hk.1.1,fun e => Nat.lt_irrefl _ (Nat.lt_of_lt_of_le hk.1.2 (hbase k e.symm))⟩,hk.1.2⟩,hk.2⟩)
theorem Sc_keptC (h : Sc C d e W base ok v xs) (hk : Kept W W2 S) (hne : ∀ k,ok k → C k → ¬ S k) : Sc C d e W2 base (fun k => (ok k ∧ True) ∧ True) v xs :=
 S_mono (S_keptB h hk (fun k hk => hne k hk.1 hk.2)) (fun k hk => ⟨⟨⟨hk.1.1,trivial⟩,trivial⟩,hk.1.2⟩)
theorem Sc_keptC2 (h : Sc C d e W base ok v xs) (hk : Kept W W2 S) (hne : ∀ k,ok k → C k → ¬ S k) : Sc C d e W2 base (fun k => ((ok k ∧ True) ∧ True) ∧ True) v xs :=
 Sc_mono (Sc_keptC h hk hne) (fun k hk => ⟨hk,trivial⟩)
theorem Sc_new (h : Kd.S d e w base ok v xs) (hN : ∀ k,base ≤ k → CN k) : Sc CN d e w base ok v xs := S_mono (S_bound h) (fun k hk => ⟨hk.1,hN k hk.2.1⟩)
theorem Sc_up (h : Sc C d e w base ok v xs) (hN : ∀ k,base ≤ k → CN k) : Sc (fun k => C k ∧ CN k) d e w base ok v xs := S_mono (S_bound (Sc_of h)) (fun k hk => ⟨hk.1.1,hk.1.2,hN k hk.2.1⟩)
theorem col_pair (hb : Below b w w1) : ∃ CL CN : Nat → Prop,(∀ k,CL k → ¬ CN k) ∧ (∀ k,k < b → CL k) ∧ (∀ k,b ≤ k → CN k) := ⟨fun k => k < b,fun k => b ≤ k,fun k h h2 => by omega,fun _ h => h,fun _ h => h⟩
theorem Zn_out {e2 : Nat} (hP : ∀ k,P0 k → ¬ P1 k) (h0 : Zn base P0 d e w base (fun k => X k ∧ some k ≠ v1.ownBlock) v0 xs) (h1 : Zn base P1 d' e2 w base (fun k => X' k ∧ some k ≠ v0.ownBlock) v1 ys') :
  ∃ Q0 Q1 : Nat → Prop,(∀ k,Q0 k → ¬ Q1 k) ∧ Sc Q0 d e w base (fun k => some k ≠ v1.ownBlock) v0 xs ∧ Sc Q1 d' e2 w base (fun k => some k ≠ v0.ownBlock) v1 ys' := by
 refine ⟨fun k => some k ≠ v1.ownBlock ∧ (some k = v0.ownBlock ∨ P0 k),fun k => some k ≠ v0.ownBlock ∧ (some k = v1.ownBlock ∨ P1 k),fun k h h2 => ?_,S_mono (Zn_S h0) (fun k hk => ⟨hk.1.2,hk.1.2,hk.2⟩),S_mono (Zn_S h1) (fun k hk => ⟨hk.1.2,hk.1.2,hk.2⟩)⟩
 rcases h.2 with h3 | h3
 ·exact h2.1 h3
 ·rcases h2.2 with h4 | h4
  ·exact h.1 h4
  ·exact hP k h3 h4
end
end Go.Proofs.YtepnbcdbagjmbaaDoorW.PrintWords
