/- the grid is the reference's; that of a right table is right and has its rows and columns, all others are empty. Conditions: none but the row's own.
-/
import Derived.Test.YtlflcgdcegohjabQFnGridx20
set_option linter.unusedVariables false
set_option linter.unusedSimpArgs false
namespace Go.Proofs.Ytlflcgdcegohjab.Pure
open Go.RowKit Go.Proofs.Ytlflcgdcegohjab.QFnGrid Go.Proofs.YtlflcgdcegohjabW.PrintWords Go.Proofs.YtlflcgdcegohjabW.PrintLast Go.Proofs.YtlflcgdcegohjabW.PrintMore
theorem w64 {x : Int} (h1 : -9223372036854775808 ≤ x) (h2 : x ≤ 9223372036854775807) : wrap64 x = x := by unfold wrap64;omega
theorem i64_wf {x : Int} (h : (Lit.int .i64 x).wf = true) : -9223372036854775808 ≤ x ∧ x ≤ 9223372036854775807 := by
 simpa [Lit.wf,IntKind.min,IntKind.max,IntKind.signed,IntKind.bits] using h
theorem u8_wf {x : Int} (h : (Lit.int .u8 x).wf = true) : 0 ≤ x ∧ x ≤ 255 := by
 simpa [Lit.wf,IntKind.min,IntKind.max,IntKind.signed,IntKind.bits] using h
theorem rd_eq {xs : List Int} {i : Int} (h0 : 0 ≤ i) (h : i < (xs.length : Int)) : xs[i.toNat]? = some (rd xs i) := by
 unfold rd
 rw [List.getD_eq_getElem?_getD,List.getElem?_eq_getElem (by omega)]
 rfl
theorem rd_mem {xs : List Int} {i : Int} (h0 : 0 ≤ i) (h : i < (xs.length : Int)) : rd xs i ∈ xs := List.mem_of_getElem? (rd_eq h0 h)
theorem rd_of {xs : List Int} {n : Nat} {v : Int} (h : xs[n]? = some v) : rd xs (n : Int) = v := by
 unfold rd
 rw [List.getD_eq_getElem?_getD,Int.toNat_natCast,h]
 rfl
theorem ev_of {α : Type} {r : α} {p : Option α} (h : p = some r) : Ev (fun _ => p) r := ⟨0,fun _ _ => h⟩
theorem ev_end {α : Type} {g : Nat → Option α} {r : α} (h : ∀ k,g (k + 1) = some r) : Ev g r := Ev.step (f := fun _ => some r) h (Ev.now r)
theorem ev_pos {α : Type} {c : Prop} [Decidable c] {f g : Nat → Option α} {r : α} (hc : c) (h : Ev f r) : Ev (fun k => if c then f k else g k) r := Ev.congr (fun _ => if_pos hc) h
theorem ev_neg {α : Type} {c : Prop} [Decidable c] {f g : Nat → Option α} {r : α} (hc : ¬ c) (h : Ev g r) : Ev (fun k => if c then f k else g k) r := Ev.congr (fun _ => if_neg hc) h
theorem rd_drop {xs : List Int} {n : Nat} (h : n < xs.length) : xs.drop n = rd xs (n : Int) :: xs.drop (n + 1) := by
 rw [List.drop_eq_getElem_cons h]
 congr 1
 unfold rd
 rw [List.getD_eq_getElem?_getD,Int.toNat_natCast,List.getElem?_eq_getElem h]
 rfl
noncomputable def dec (p : Prop) : Bool := @decide p (Classical.propDecidable p)
theorem dec_true {p : Prop} (h : p) : dec p = true := @decide_eq_true p (Classical.propDecidable p) h
theorem dec_false {p : Prop} (h : ¬ p) : dec p = false := @decide_eq_false p (Classical.propDecidable p) h
theorem dec_iff {p : Prop} : dec p = true ↔ p := @decide_eq_true_iff p (Classical.propDecidable p)
theorem dec_congr {p q : Prop} (h : p ↔ q) : dec p = dec q := by rw [propext h]
theorem dec_eq {p : Prop} [Decidable p] : dec p = decide p := by
 by_cases h : p
 ·rw [dec_true h,decide_eq_true h]
 ·rw [dec_false h,decide_eq_false h]
theorem ev_succ {α : Type} {g : Nat → Option α} {r : α} (h : Ev (fun k => g (k + 1)) r) : Ev g r := by
 obtain ⟨K,h⟩ := h
 refine ⟨K + 1,fun n hn => ?_⟩
 obtain ⟨m,rfl⟩ : ∃ m,n = m + 1 := ⟨n - 1,by omega⟩
 exact h m (by omega)
theorem ev_eq {α : Type} {g : Nat → Option α} {r r' : α} (h : Ev g r) (e : r = r') : Ev g r' := e ▸ h
theorem gd_eq {α : Type} (z : α) {xs : List α} {i : Int} (h0 : 0 ≤ i) (h : i < (xs.length : Int)) : xs[i.toNat]? = some (xs.getD i.toNat z) := by
 rw [List.getD_eq_getElem?_getD,List.getElem?_eq_getElem (by omega)]
 rfl
theorem gd_nat {α : Type} (z : α) {xs : List α} {n : Nat} {v : α} (h : xs[n]? = some v) : xs.getD ((n : Int)).toNat z = v := by
 rw [List.getD_eq_getElem?_getD,Int.toNat_natCast,h]
 rfl
theorem gd_drop {α : Type} (z : α) {xs : List α} {n : Nat} (h : n < xs.length) : xs.drop n = xs.getD ((n : Int)).toNat z :: xs.drop (n + 1) := by
 rw [List.drop_eq_getElem_cons h]
 congr 1
 exact (gd_nat z (List.getElem?_eq_getElem h)).symm
theorem copy_loop {α β : Type} (F : Nat → List β → Int → Option (List β)) (l : List α) (g : α → β)
  (hend : ∀ acc : List β,acc.length = l.length → Ev (fun k => F k acc (l.length : Int)) acc)
  (hstep : ∀ (acc : List β) (n : Nat) (x : α) (r : List β),n < l.length → acc.length = l.length → l[n]? = some x → Ev (fun k => F k (acc.set n (g x)) ((n + 1 : Nat) : Int)) r → Ev (fun k => F k acc (n : Int)) r) :
  ∀ (d n : Nat) (acc : List β),n + d = l.length → acc.length = l.length → (∀ j,j < n → acc[j]? = (l.map g)[j]?) → Ev (fun k => F k acc (n : Int)) (l.map g) := by
 intro d
 induction d with
 | zero =>
  intro n acc hn ha hp
  obtain rfl : n = l.length := by omega
  refine ev_eq (hend acc ha) (List.ext_getElem? fun j => ?_)
  by_cases h : j < l.length
  ·exact hp j h
  ·rw [List.getElem?_eq_none (by omega),List.getElem?_eq_none (by simp;omega)]
 | succ d ih =>
  intro n acc hn ha hp
  have hx : l[n]? = some l[n] := List.getElem?_eq_getElem (by omega)
  refine hstep acc n l[n] _ (by omega) ha hx (ih (n + 1) _ (by omega) (by simpa using ha) ?_)
  intro j hj
  rw [List.getElem?_set]
  by_cases h : n = j
  ·subst h
   rw [if_pos rfl,if_pos (by omega),List.getElem?_map,hx]
   rfl
  ·rw [if_neg h]
   exact hp j (by omega)
theorem all_loop (F : Nat → Int → Option Bool) (L : Nat) (p : Nat → Prop) (hend : Ev (fun k => F k (L : Int)) true)
  (hyes : ∀ (n : Nat) (r : Bool),n < L → p n → Ev (fun k => F k ((n + 1 : Nat) : Int)) r → Ev (fun k => F k (n : Int)) r)
  (hno : ∀ n : Nat,n < L → ¬ p n → Ev (fun k => F k (n : Int)) false) :
  ∀ (d n : Nat),n + d = L → Ev (fun k => F k (n : Int)) (dec (∀ j,n ≤ j → j < L → p j)) := by
 intro d
 induction d with
 | zero =>
  intro n hn
  obtain rfl : n = L := by omega
  exact ev_eq hend (dec_true (fun j h1 h2 => by omega)).symm
 | succ d ih =>
  intro n hn
  by_cases h : p n
  ·refine hyes n _ (by omega) h (ev_eq (ih (n + 1) (by omega)) (dec_congr ⟨fun g j h1 h2 => ?_,fun g j h1 h2 => g j (by omega) h2⟩))
   by_cases e : j = n
   ·exact e ▸ h
   ·exact g j (by omega) h2
  ·exact ev_eq (hno n (by omega) h) (dec_false (fun g => h (g n (Nat.le_refl _) (by omega)))).symm
theorem fold_loop {σ ρ : Type} (F : Nat → σ → Int → Option ρ) (L : Nat) (S : Nat → σ) (r : ρ) (hend : Ev (fun k => F k (S L) (L : Int)) r)
  (hstep : ∀ n : Nat,n < L → Ev (fun k => F k (S (n + 1)) ((n + 1 : Nat) : Int)) r → Ev (fun k => F k (S n) (n : Int)) r) :
  ∀ (d n : Nat),n + d = L → Ev (fun k => F k (S n) (n : Int)) r := by
 intro d
 induction d with
 | zero =>
  intro n hn
  obtain rfl : n = L := by omega
  exact hend
 | succ d ih =>
  intro n hn
  exact hstep n (by omega) (ih (n + 1) (by omega))
theorem set_mid {α : Type} (a b : List α) (x v : α) {n : Nat} (h : a.length = n) : (a ++ x :: b).set n v = a ++ v :: b := by
 subst h
 rw [List.set_append_right _ _ (Nat.le_refl _),Nat.sub_self]
 rfl
theorem get_mid {α : Type} (a b : List α) (x : α) {n : Nat} (h : a.length = n) : (a ++ x :: b)[n]? = some x := by
 subst h
 rw [List.getElem?_append_right (Nat.le_refl _),Nat.sub_self]
 rfl
theorem all_loop2 (F : Nat → Int → Option Bool) (L : Nat) (p : Nat → Prop) (E : Prop) (hend : Ev (fun k => F k (L : Int)) (dec E))
  (hyes : ∀ (n : Nat) (r : Bool),n < L → p n → Ev (fun k => F k ((n + 1 : Nat) : Int)) r → Ev (fun k => F k (n : Int)) r)
  (hno : ∀ n : Nat,n < L → ¬ p n → Ev (fun k => F k (n : Int)) false) :
  ∀ (d n : Nat),n + d = L → Ev (fun k => F k (n : Int)) (dec ((∀ j,n ≤ j → j < L → p j) ∧ E)) := by
 intro d
 induction d with
 | zero =>
  intro n hn
  obtain rfl : n = L := by omega
  exact ev_eq hend (dec_congr ⟨fun h => ⟨fun j h1 h2 => by omega,h⟩,fun h => h.2⟩)
 | succ d ih =>
  intro n hn
  by_cases h : p n
  ·refine hyes n _ (by omega) h (ev_eq (ih (n + 1) (by omega)) (dec_congr ⟨fun g => ⟨fun j h1 h2 => ?_,g.2⟩,fun g => ⟨fun j h1 h2 => g.1 j (by omega) h2,g.2⟩⟩))
   by_cases e : j = n
   ·exact e ▸ h
   ·exact g.1 j (by omega) h2
  ·exact ev_eq (hno n (by omega) h) (dec_false (fun g => h (g.1 n (Nat.le_refl _) (by omega)))).symm
theorem lawsBig (l : List Int) : laws_big.f l = some (decide ((l.length : Int) > 1048576)) := rfl
theorem and255 (x : Int) : 0 ≤ Go.bits .and .i64 x 255 ∧ Go.bits .and .i64 x 255 ≤ 255 := by
 simp only [Go.bits]
 have h : (BitVec.ofInt IntKind.i64.bits x &&& BitVec.ofInt IntKind.i64.bits 255).toNat ≤ 255 := by
  rw [BitVec.toNat_and]
  exact Nat.le_trans Nat.and_le_right (by decide)
 rw [IntKind.wrap_i64]
 omega
theorem l1New_l0 (l : List Int) (hl : l.length ≤ 35184372088832) : ∀ (d n : Nat) (x : Int),n + d = l.length → ∃ h,Ev (fun k => spec_l1New.l0 k l x (n : Int)) (l,0,h) := by
 intro d
 induction d with
 | zero =>
  intro n x hn
  refine ⟨x,ev_end fun k => ?_⟩
  simp only [spec_l1New.l0]
  rw [if_neg (by omega)]
 | succ d ih =>
  intro n x hn
  by_cases h4 : (n : Int) < 4000
  ·obtain ⟨h,e⟩ := ih (n + 1) (Go.bits .and .i64 (wrap64 ((wrap64 ((wrap64 (x * 131)) + (wrap64 (rd l n)))) + 7)) 1073741823) (by omega)
   refine ⟨h,Ev.step (fun k => ?_) e⟩
   simp only [spec_l1New.l0]
   rw [if_pos (by omega),if_pos h4,if_pos (by omega),w64 (x := (n : Int) + 1) (by omega) (by omega)]
   rfl
  ·refine ⟨x,ev_end fun k => ?_⟩
   simp only [spec_l1New.l0]
   rw [if_pos (by omega),if_neg h4]
theorem l1New (l : List Int) (hl : l.length ≤ 35184372088832) : ∃ h,Ev (fun k => spec_l1New.f k l) (l,0,h) := l1New_l0 l hl l.length 0 _ (by omega)
def Cur (l : List Int) (i : Int) : Prop := 0 ≤ i ∧ i ≤ l.length ∧ l.length ≤ 35184372088832
theorem cur0 (l : List Int) (hl : l.length ≤ 35184372088832) : Cur l 0 := ⟨by omega,by omega,hl⟩
theorem l1Byte {l : List Int} {i : Int} (h : Int) (hc : Cur l i) : ∃ r i' h',spec_l1Byte.f l i h = some (r,i',h') ∧ Cur l i' ∧ 0 ≤ r ∧ r ≤ 255 := by
 unfold Cur at *
 unfold spec_l1Byte.f
 by_cases h1 : i < (l.length : Int)
 ·rw [if_pos h1,if_pos hc.1,w64 (x := i + 1) (by omega) (by omega)]
  exact ⟨_,_,_,rfl,by omega,and255 _⟩
 ·rw [if_neg h1]
  exact ⟨_,_,_,rfl,by omega,and255 _⟩
theorem l1Below {l : List Int} {i : Int} (h : Int) (n : Int) (hc : Cur l i) : ∃ r i' h',spec_l1Below.f l i h n = some (r,i',h') ∧ Cur l i' ∧ 0 ≤ r ∧ (0 < n → r < n) ∧ (n ≤ 0 → r = 0) := by
 unfold spec_l1Below.f
 by_cases h1 : n ≤ 0
 ·rw [if_pos h1]
  exact ⟨0,_,_,rfl,hc,by omega,by omega,fun _ => rfl⟩
 rw [if_neg h1]
 by_cases h2 : n ≤ 256
 ·rw [if_pos h2]
  obtain ⟨r,i',h',e,hc',h3,h4⟩ := l1Byte h hc
  rw [e]
  simp only [Option.bind_some]
  rw [if_neg (by omega)]
  refine ⟨_,_,_,rfl,hc',?_,?_,by omega⟩
  ·rw [Int.tmod_eq_emod_of_nonneg h3];exact Int.emod_nonneg _ (by omega)
  ·intro _;rw [Int.tmod_eq_emod_of_nonneg h3];exact Int.emod_lt_of_pos _ (by omega)
 ·rw [if_neg h2]
  obtain ⟨x,i1,h1,e1,hc1,x1,x2⟩ := l1Byte h hc
  obtain ⟨y,i2,h2,e2,hc2,y1,y2⟩ := l1Byte h1 hc1
  obtain ⟨z,i3,h3,e3,hc3,z1,z2⟩ := l1Byte h2 hc2
  obtain ⟨w,i4,h4,e4,hc4,w1,w2⟩ := l1Byte h3 hc3
  simp only [e1,e2,e3,e4,Option.bind_some]
  rw [if_neg (by omega),w64 (x := x * 16777216) (by omega) (by omega),w64 (x := y * 65536) (by omega) (by omega),w64 (x := x * 16777216 + y * 65536) (by omega) (by omega),w64 (x := z * 256) (by omega) (by omega),w64 (x := x * 16777216 + y * 65536 + z * 256) (by omega) (by omega),w64 (x := x * 16777216 + y * 65536 + z * 256 + w) (by omega) (by omega)]
  have h5 : 0 ≤ x * 16777216 + y * 65536 + z * 256 + w := by omega
  refine ⟨_,_,_,rfl,hc4,?_,?_,by omega⟩
  ·rw [Int.tmod_eq_emod_of_nonneg h5];exact Int.emod_nonneg _ (by omega)
  ·intro _;rw [Int.tmod_eq_emod_of_nonneg h5];exact Int.emod_lt_of_pos _ (by omega)
theorem l1Once {l : List Int} {i : Int} (h : Int) (n : Int) (hc : Cur l i) : ∃ r i' h',spec_l1Once.f l i h n = some (r,i',h') ∧ Cur l i' := by
 unfold spec_l1Once.f
 obtain ⟨a,i1,h1,e1,c1,_⟩ := l1Below h n hc
 rw [e1]
 exact ⟨_,_,_,rfl,c1⟩
theorem l1PickInt {l : List Int} {i : Int} (h : Int) (xs : List Int) (hc : Cur l i) (hx : 0 < xs.length) : ∃ r i' h',spec_l1PickInt.f l i h xs = some (r,i',h') ∧ Cur l i' ∧ r ∈ xs := by
 unfold spec_l1PickInt.f
 obtain ⟨r,i',h',e,hc',h1,h2,_⟩ := l1Below h (xs.length : Int) hc
 rw [e]
 simp only [Option.bind_some]
 have h3 := h2 (by omega)
 rw [if_pos h1,if_pos h3]
 exact ⟨_,_,_,rfl,hc',rd_mem h1 h3⟩
def addI (a b : Int) : Int × Bool := if -9223372036854775808 ≤ a + b ∧ a + b ≤ 9223372036854775807 then (a + b,true) else (0,false)
def subI (a b : Int) : Int × Bool := if -9223372036854775808 ≤ a - b ∧ a - b ≤ 9223372036854775807 then (a - b,true) else (0,false)
def I64 (a : Int) : Prop := -9223372036854775808 ≤ a ∧ a ≤ 9223372036854775807
theorem addI_i64 (a b : Int) : I64 (addI a b).1 := by
 unfold addI I64
 split
 ·assumption
 ·exact ⟨by decide,by decide⟩
theorem subI_i64 (a b : Int) : I64 (subI a b).1 := by
 unfold subI I64
 split
 ·assumption
 ·exact ⟨by decide,by decide⟩
theorem wrap_over {x : Int} (h1 : 9223372036854775807 < x) (h2 : x < 27670116110564327424) : wrap64 x = x - 18446744073709551616 := by unfold wrap64;omega
theorem wrap_under {x : Int} (h1 : x < -9223372036854775808) (h2 : -27670116110564327424 ≤ x) : wrap64 x = x + 18446744073709551616 := by unfold wrap64;omega
theorem wrap_i64_range (x : Int) : I64 (wrap64 x) := by unfold I64 wrap64;omega
theorem l1Whole_l0 {l : List Int} : ∀ (d n : Nat) (x i h : Int),n + d = 8 → I64 x → Cur l i → ∃ r i' h',Ev (fun k => spec_l1Whole.l0 k x (n : Int) l i h) (r,i',h') ∧ Cur l i' ∧ I64 r := by
 intro d
 induction d with
 | zero =>
  intro n x i h hn hx hc
  refine ⟨x,i,h,ev_end fun k => ?_,hc,hx⟩
  simp only [spec_l1Whole.l0]
  rw [if_neg (by omega)]
 | succ d ih =>
  intro n x i h hn hx hc
  obtain ⟨b,i1,h1,e1,hc1,_⟩ := l1Byte h hc
  obtain ⟨r,i2,h2,e2,hc2,hr⟩ := ih (n + 1) (wrap64 ((wrap64 (x * 256)) + b)) i1 h1 (by omega) (wrap_i64_range _) hc1
  refine ⟨r,i2,h2,Ev.step (fun k => ?_) e2,hc2,hr⟩
  simp only [spec_l1Whole.l0,e1,Option.bind_some]
  rw [if_pos (by omega),w64 (x := (n : Int) + 1) (by omega) (by omega)]
  rfl
theorem l1Whole {l : List Int} {i : Int} (h : Int) (hc : Cur l i) : ∃ r i' h',Ev (fun k => spec_l1Whole.f k l i h) (r,i',h') ∧ Cur l i' ∧ I64 r := by
 unfold spec_l1Whole.f
 obtain ⟨a,i1,h1,e1,hc1,a1,a2,_⟩ := l1Below h 4 hc
 rw [e1]
 simp only [Option.bind_some]
 by_cases c0 : a = 0
 ·obtain ⟨r,i2,h2,e2,hc2,hr⟩ := l1PickInt h1 ([0,1,(-1),9,10,999,1000,2147483647,(-2147483648),3037000499,3037000500,9223372036854775807,(-9223372036854775807),(-9223372036854775808)] : List Int) hc1 (by simp)
  refine ⟨r,i2,h2,ev_pos c0 ?_,hc2,?_⟩
  ·rw [e2];exact Ev.now _
  ·simp only [List.mem_cons,List.not_mem_nil,or_false] at hr
   unfold I64;omega
 by_cases c1 : a = 1
 ·obtain ⟨r,i2,h2,e2,hc2,hr⟩ := l1Whole_l0 8 0 0 i1 h1 (by omega) ⟨by decide,by decide⟩ hc1
  exact ⟨r,i2,h2,ev_neg c0 (ev_pos c1 e2),hc2,hr⟩
 by_cases c2 : a = 2
 ·obtain ⟨r,i2,h2,e2,hc2,_⟩ := l1Below h1 1000000 hc1
  refine ⟨wrap64 (r - 500000),i2,h2,ev_neg c0 (ev_neg c1 (ev_pos c2 ?_)),hc2,wrap_i64_range _⟩
  rw [e2];exact Ev.now _
 ·obtain ⟨r,i2,h2,e2,hc2,_⟩ := l1Below h1 41 hc1
  refine ⟨wrap64 (r - 20),i2,h2,ev_neg c0 (ev_neg c1 (ev_neg c2 ?_)),hc2,wrap_i64_range _⟩
  rw [e2];exact Ev.now _
def IOk (l : List Int) : Prop := ∀ x ∈ l,I64 x
theorem IOk.snoc {l : List Int} (h : IOk l) {x : Int} (hx : I64 x) : IOk (l ++ [x]) := by
 intro y hy
 rcases List.mem_append.1 hy with hy | hy
 ·exact h y hy
 ·simp only [List.mem_singleton] at hy
  subst hy;exact hx
theorem l6Small {l : List Int} {i : Int} (h : Int) (hc : Cur l i) : ∃ r i' h',spec_l6Small.f l i h = some (r,i',h') ∧ Cur l i' ∧ I64 r := by
 unfold spec_l6Small.f
 obtain ⟨a,i1,h1,e1,c1⟩ := l1Once h 20 hc
 rw [e1]
 simp only [Option.bind_some]
 by_cases g : a = true
 ·obtain ⟨r,i2,h2,e2,c2,hr⟩ := l1PickInt h1 ([2147483647,(-2147483647),1,(-1),1000000000] : List Int) c1 (by simp)
  rw [if_pos g,e2]
  refine ⟨_,_,_,rfl,c2,?_⟩
  simp only [List.mem_cons,List.not_mem_nil,or_false] at hr
  unfold I64;dsimp only;omega
 ·rw [if_neg g]
  obtain ⟨b,i2,h2,e2,c2⟩ := l1Once h1 2 c1
  rw [e2]
  simp only [Option.bind_some]
  by_cases g2 : b = true
  ·obtain ⟨r,i3,h3,e3,c3,_⟩ := l1Below h2 9 c2
   rw [if_pos g2,e3]
   exact ⟨_,_,_,rfl,c3,wrap_i64_range _⟩
  ·obtain ⟨r,i3,h3,e3,c3,_⟩ := l1Below h2 41 c2
   rw [if_neg g2,e3]
   exact ⟨_,_,_,rfl,c3,wrap_i64_range _⟩
theorem l1Pick {l : List Int} {i : Int} (h : Int) (xs : List ByteArray) (hc : Cur l i) (hx : 0 < xs.length) : ∃ r i' h',spec_l1Pick.f l i h xs = some (r,i',h') ∧ Cur l i' ∧ r ∈ xs := by
 unfold spec_l1Pick.f
 obtain ⟨r,i',h',e,hc',h1,h2,_⟩ := l1Below h (xs.length : Int) hc
 rw [e]
 simp only [Option.bind_some]
 have h3 := h2 (by omega)
 rw [if_pos h1,if_pos h3]
 refine ⟨_,_,_,rfl,hc',?_⟩
 exact List.mem_of_getElem? (gd_eq ByteArray.empty h1 h3)
def RowsOf (n : Nat) (R : List (List Int)) : Prop := ∀ r ∈ R,r.length = n ∧ IOk r
theorem RowsOf.snoc {n : Nat} {R : List (List Int)} (h : RowsOf n R) {r : List Int} (hl : r.length = n) (hr : IOk r) : RowsOf n (R ++ [r]) := by
 intro y hy
 rcases List.mem_append.1 hy with hy | hy
 ·exact h y hy
 ·obtain rfl := List.mem_singleton.1 hy
  exact ⟨hl,hr⟩
theorem l9Right_l1 {l : List Int} (N M : Nat) (hN : N ≤ 4) (hN0 : 0 < N) (far : Bool) (names : List ByteArray) (t : ByteArray) (m : Nat) (hm : m < M) (hM : M ≤ 40) (R : List (List Int)) (Y : List Int) (hR : RowsOf N R) (hRl : R.length = m) (hY : IOk Y) (hYl : Y.length = m)
  (next : ∀ (R' : List (List Int)) (Y' : List Int) (i h : Int),RowsOf N R' → R'.length = m + 1 → IOk Y' → Y'.length = m + 1 → Cur l i → ∃ R2 Y2 i' h',Ev (fun k => spec_l9Right.l0 k (N : Int) (M : Int) far ((m + 1 : Nat) : Int) l i h names t R' Y') (names,t,R2,Y2,i',h') ∧ Cur l i' ∧ RowsOf N R2 ∧ R2.length = M ∧ IOk Y2 ∧ Y2.length = M) :
  ∀ (d n : Nat) (xs : List Int) (i h : Int),n + d = N → xs.length = n → IOk xs → Cur l i →
  ∃ R2 Y2 i' h',Ev (fun k => spec_l9Right.l1 k (N : Int) (M : Int) far (m : Int) xs (n : Int) l i h names t R Y) (names,t,R2,Y2,i',h') ∧ Cur l i' ∧ RowsOf N R2 ∧ R2.length = M ∧ IOk Y2 ∧ Y2.length = M := by
 intro d
 induction d with
 | zero =>
  intro n xs i h hn hl hx hc
  obtain ⟨y,i1,h1,e1,c1,hy⟩ := l6Small h hc
  have hw : wrap64 ((m : Int) + 1) = ((m + 1 : Nat) : Int) := w64 (by omega) (by omega)
  have hRs : RowsOf N (R ++ [xs]) := hR.snoc (by omega) hx
  by_cases g : far = true
  ·obtain ⟨R2,Y2,i2,h2,e2,r⟩ := next (R ++ [xs]) (Y ++ [y]) i1 h1 hRs (by simp [hRl]) (hY.snoc hy) (by simp [hYl]) c1
   refine ⟨R2,Y2,i2,h2,ev_succ ?_,r⟩
   simp only [spec_l9Right.l1,e1,Option.bind_some,hw]
   exact ev_neg (by omega) (ev_pos (by omega) (ev_pos g (ev_pos (by omega) e2)))
  ·obtain ⟨b,i2,h2,e2,c2⟩ := l1Once h1 4 c1
   by_cases g2 : b = true
   ·obtain ⟨R2,Y2,i3,h3,e3,r⟩ := next (R ++ [xs]) (Y ++ [y]) i2 h2 hRs (by simp [hRl]) (hY.snoc hy) (by simp [hYl]) c2
    refine ⟨R2,Y2,i3,h3,ev_succ ?_,r⟩
    simp only [spec_l9Right.l1,e1,e2,Option.bind_some,hw]
    exact ev_neg (by omega) (ev_pos (by omega) (ev_neg g (ev_pos g2 (ev_pos (by omega) e3))))
   ·obtain ⟨z,i3,h3,e3,c3,_⟩ := l1Below h2 5 c2
    obtain ⟨R2,Y2,i4,h4,e4,r⟩ := next (R ++ [xs]) (Y ++ [wrap64 ((wrap64 ((rd xs 0) * 2)) + (wrap64 (100 * z)))]) i3 h3 hRs (by simp [hRl]) (hY.snoc (wrap_i64_range _)) (by simp [hYl]) c3
    refine ⟨R2,Y2,i4,h4,ev_succ ?_,r⟩
    simp only [spec_l9Right.l1,e1,e2,e3,Option.bind_some,hw]
    exact ev_neg (by omega) (ev_pos (by omega) (ev_neg g (ev_neg g2 (ev_pos (by omega) (ev_pos (by omega) e4)))))
 | succ d ih =>
  intro n xs i h hn hl hx hc
  obtain ⟨y,i1,h1,e1,c1,hy⟩ := l6Small h hc
  have hw : wrap64 ((n : Int) + 1) = ((n + 1 : Nat) : Int) := w64 (by omega) (by omega)
  by_cases g : far = true
  ·obtain ⟨R2,Y2,i2,h2,e2,r⟩ := ih (n + 1) (xs ++ [y]) i1 h1 (by omega) (by simp [hl]) (hx.snoc hy) c1
   refine ⟨R2,Y2,i2,h2,ev_succ ?_,r⟩
   simp only [spec_l9Right.l1,e1,Option.bind_some,hw]
   exact ev_pos (by omega) (ev_pos g (ev_pos (by omega) e2))
  ·obtain ⟨z,i2,h2,e2,c2,_⟩ := l1Below h1 7 c1
   obtain ⟨R2,Y2,i3,h3,e3,r⟩ := ih (n + 1) (xs ++ [wrap64 (500 * (wrap64 (z - 3)))]) i2 h2 (by omega) (by simp [hl]) (hx.snoc (wrap_i64_range _)) c2
   refine ⟨R2,Y2,i3,h3,ev_succ ?_,r⟩
   simp only [spec_l9Right.l1,e1,e2,Option.bind_some,hw]
   exact ev_pos (by omega) (ev_neg g (ev_pos (by omega) e3))
theorem l9Right_l0 {l : List Int} (N M : Nat) (hN : N ≤ 4) (hN0 : 0 < N) (hM : M ≤ 40) (far : Bool) (names : List ByteArray) (t : ByteArray) : ∀ (d m : Nat) (R : List (List Int)) (Y : List Int) (i h : Int),m + d = M → RowsOf N R → R.length = m → IOk Y → Y.length = m → Cur l i →
  ∃ R2 Y2 i' h',Ev (fun k => spec_l9Right.l0 k (N : Int) (M : Int) far (m : Int) l i h names t R Y) (names,t,R2,Y2,i',h') ∧ Cur l i' ∧ RowsOf N R2 ∧ R2.length = M ∧ IOk Y2 ∧ Y2.length = M := by
 intro d
 induction d with
 | zero =>
  intro m R Y i h hm hR hRl hY hYl hc
  refine ⟨R,Y,i,h,ev_succ ?_,hc,hR,by omega,hY,by omega⟩
  simp only [spec_l9Right.l0]
  exact ev_neg (by omega) (Ev.now _)
 | succ d ih =>
  intro m R Y i h hm hR hRl hY hYl hc
  obtain ⟨R2,Y2,i2,h2,e2,r⟩ := l9Right_l1 (l := l) N M hN hN0 far names t m (by omega) hM R Y hR hRl hY hYl (fun R' Y' i h a b c d e => ih (m + 1) R' Y' i h (by omega) a b c d e) N 0 [] i h (by omega) rfl (fun x hx => by simp at hx) hc
  refine ⟨R2,Y2,i2,h2,ev_succ ?_,r⟩
  simp only [spec_l9Right.l0]
  exact ev_pos (by omega) e2
def Drawn (L : List ByteArray) (t : ByteArray) (R : List (List Int)) (Y : List Int) : Prop :=
 L.length ≤ 4 ∧ (∀ x ∈ L,x.size ≤ 13) ∧ t.size ≤ 13 ∧ R.length ≤ 42 ∧ (∀ r ∈ R,r.length ≤ 5 ∧ IOk r) ∧ Y.length ≤ 42 ∧ IOk Y
theorem l9Right {l : List Int} {i : Int} (h : Int) (hc : Cur l i) : ∃ L t R Y i' h',Ev (fun k => spec_l9Right.f k l i h) (L,t,R,Y,i',h') ∧ Cur l i' ∧
  (0 < L.length ∧ L.length ≤ 3) ∧ (∀ x ∈ L,x.size ≤ 2) ∧ t.size ≤ 2 ∧ (0 < R.length ∧ R.length ≤ 40) ∧ RowsOf L.length R ∧ Y.length = R.length ∧ IOk Y := by
 unfold spec_l9Right.f
 obtain ⟨a,i1,h1,e1,c1,a1,a2,_⟩ := l1Below h 3 hc
 have a3 := a2 (by omega)
 have hw : wrap64 (1 + a) = ((1 + a.toNat : Nat) : Int) := by rw [w64 (by omega) (by omega)];omega
 obtain ⟨b,i2,h2,e2,c2,b1,b2,_⟩ := l1Below h1 9 c1
 have b3 := b2 (by omega)
 have hb : wrap64 (1 + b) = ((1 + b.toNat : Nat) : Int) := by rw [w64 (by omega) (by omega)];omega
 obtain ⟨o,i3,h3,e3,c3⟩ := l1Once h2 10 c2
 simp only [e1,e2,e3,Option.bind_some,hw,Int.toNat_natCast,List.nil_append]
 generalize hL : (([(⟨#[97]⟩ : ByteArray),(⟨#[98]⟩ : ByteArray),(⟨#[99,50]⟩ : ByteArray),(⟨#[100]⟩ : ByteArray)] : List ByteArray).take (1 + a.toNat)) = L
 have lL : L.length = 1 + a.toNat := by rw [← hL,List.length_take];simp only [List.length_cons,List.length_nil];omega
 have sL : ∀ x ∈ L,x.size ≤ 2 := by
  intro x hx
  rw [← hL] at hx
  have := List.mem_of_mem_take hx
  simp only [List.mem_cons,List.not_mem_nil,or_false] at this
  rcases this with rfl | rfl | rfl | rfl <;> decide
 have main : ∀ (M : Nat) (i h : Int),0 < M → M ≤ 40 → Cur l i → ∃ R Y i' h',Ev (fun k => spec_l9Right.j0 k ((1 + a.toNat : Nat) : Int) (M : Int) l i h L (⟨#[121]⟩ : ByteArray)) (L,(⟨#[121]⟩ : ByteArray),R,Y,i',h') ∧ Cur l i' ∧ RowsOf (1 + a.toNat) R ∧ R.length = M ∧ IOk Y ∧ Y.length = M := by
  intro M i h hM0 hM hc
  obtain ⟨far,i1,h1,e1,c1⟩ := l1Once h 12 hc
  obtain ⟨R,Y,i2,h2,e2,r⟩ := l9Right_l0 (l := l) (1 + a.toNat) M (by omega) (by omega) hM far L (⟨#[121]⟩ : ByteArray) M 0 [] [] i1 h1 (by omega) (fun r hr => by simp at hr) rfl (fun x hx => by simp at hx) rfl c1
  refine ⟨R,Y,i2,h2,ev_succ ?_,r⟩
  simp only [spec_l9Right.j0,e1,Option.bind_some]
  exact e2
 by_cases g : o = true
 ·obtain ⟨c,i4,h4,e4,c4,d1,d2,_⟩ := l1Below h3 40 c3
  have d3 := d2 (by omega)
  have hcw : wrap64 (1 + c) = ((1 + c.toNat : Nat) : Int) := by rw [w64 (by omega) (by omega)];omega
  obtain ⟨R,Y,i5,h5,e5,c5,r1,r2,r3,r4⟩ := main (1 + c.toNat) i4 h4 (by omega) (by omega) c4
  refine ⟨L,(⟨#[121]⟩ : ByteArray),R,Y,i5,h5,?_,c5,by omega,sL,by decide,by omega,by rw [lL];exact r1,by omega,r3⟩
  simp only [e4,Option.bind_some,hcw]
  exact ev_pos (by omega) (ev_pos (by simp only [List.length_cons,List.length_nil];omega) (ev_pos (by simp only [List.length_nil];omega) (ev_pos g e5)))
 ·obtain ⟨R,Y,i5,h5,e5,c5,r1,r2,r3,r4⟩ := main (1 + b.toNat) i3 h3 (by omega) (by omega) c3
  refine ⟨L,(⟨#[121]⟩ : ByteArray),R,Y,i5,h5,?_,c5,by omega,sL,by decide,by omega,by rw [lL];exact r1,by omega,r3⟩
  simp only [hb]
  exact ev_pos (by omega) (ev_pos (by simp only [List.length_cons,List.length_nil];omega) (ev_pos (by simp only [List.length_nil];omega) (ev_neg g e5)))
theorem rdL (xs : List (List Int)) (i : Int) : rd_L3 xs i = xs.getD i.toNat [] := rfl
def wt (l : List (List Int)) : Nat := l.length + (l.map List.length).sum
theorem wt_mem {l : List (List Int)} {x : List Int} (h : x ∈ l) : x.length ≤ wt l := by
 unfold wt
 induction l with
 | nil => simp at h
 | cons y l ih =>
  simp only [List.mem_cons] at h
  simp only [List.map_cons,List.sum_cons,List.length_cons]
  rcases h with rfl | h
  ·omega
  ·have := ih h;omega
theorem ex_bind {α β : Type} {f : Nat → Option α} {g : Nat → α → Option β} {a : α} {P : β → Prop} (h : Ev f a) (h2 : ∃ b,Ev (fun k => g k a) b ∧ P b) : ∃ b,Ev (fun k => (f k).bind (g k)) b ∧ P b := by
 obtain ⟨b,e,p⟩ := h2
 exact ⟨b,Ev.bind h e,p⟩
theorem ex_pos {α : Type} {c : Prop} [Decidable c] {f g : Nat → Option α} {P : α → Prop} (hc : c) (h : ∃ b,Ev f b ∧ P b) : ∃ b,Ev (fun k => if c then f k else g k) b ∧ P b := by
 obtain ⟨b,e,p⟩ := h
 exact ⟨b,ev_pos hc e,p⟩
theorem ex_neg {α : Type} {c : Prop} [Decidable c] {f g : Nat → Option α} {P : α → Prop} (hc : ¬ c) (h : ∃ b,Ev g b ∧ P b) : ∃ b,Ev (fun k => if c then f k else g k) b ∧ P b := by
 obtain ⟨b,e,p⟩ := h
 exact ⟨b,ev_neg hc e,p⟩
theorem ex_now {α : Type} {P : α → Prop} (b : α) (h : P b) : ∃ b',Ev (fun _ => some b) b' ∧ P b' := ⟨b,Ev.now b,h⟩
theorem ex_succ {α : Type} {g : Nat → Option α} {P : α → Prop} (h : ∃ b,Ev (fun k => g (k + 1)) b ∧ P b) : ∃ b,Ev g b ∧ P b := by
 obtain ⟨b,e,p⟩ := h
 exact ⟨b,ev_succ e,p⟩
theorem drawn_of {L : List ByteArray} {t : ByteArray} {R : List (List Int)} {Y : List Int} (hL : L.length ≤ 3) (hs : ∀ x ∈ L,x.size ≤ 2) (ht : t.size ≤ 2) (hR : R.length ≤ 40) (hr : RowsOf L.length R) (hYl : Y.length = R.length) (hY : IOk Y) : Drawn L t R Y :=
 ⟨by omega,fun x hx => by have := hs x hx;omega,by omega,by omega,fun r h => ⟨by have := (hr r h).1;omega,(hr r h).2⟩,by omega,hY⟩
theorem IOk.set {l : List Int} (h : IOk l) {x : Int} (hx : I64 x) (n : Nat) : IOk (l.set n x) := by
 intro y hy
 rcases List.mem_or_eq_of_mem_set hy with hy | hy
 ·exact h y hy
 ·subst hy;exact hx
theorem row_mem {R : List (List Int)} {i : Int} (h0 : 0 ≤ i) (h : i < (R.length : Int)) : R.getD i.toNat [] ∈ R := List.mem_of_getElem? (gd_eq [] h0 h)
def DrawnOut (l : List Int) (b : List ByteArray × ByteArray × (List (List Int)) × List Int × Int × Int) : Prop := Cur l b.2.2.2.2.1 ∧ Drawn b.1 b.2.1 b.2.2.1 b.2.2.2.1
theorem l9Bent_l0 {l : List Int} (L : List ByteArray) (t : ByteArray) : ∀ (d : Nat) (R : List (List Int)) (Y : List Int) (i h : Int),R.length + d = 41 → 0 < R.length → Y.length = R.length → Drawn L t R Y → Cur l i → ∃ b,Ev (fun k => spec_l9Bent.l0 k l i h L t R Y) b ∧ DrawnOut l b := by
 intro d
 induction d with
 | zero =>
  intro R Y i h hR h0 hY D hc
  obtain ⟨r,i1,h1,e1,c1,r1,r2,_⟩ := l1Below h 2 hc
  have r3 := r2 (by omega)
  have hw : wrap64 (40 + r) = 40 + r := w64 (by omega) (by omega)
  refine ex_succ ?_
  simp only [spec_l9Bent.l0,e1,Option.bind_some,hw]
  exact ex_neg (by omega) (ex_now _ ⟨c1,D⟩)
 | succ d ih =>
  intro R Y i h hR h0 hY D hc
  obtain ⟨r,i1,h1,e1,c1,r1,r2,_⟩ := l1Below h 2 hc
  have r3 := r2 (by omega)
  have hw : wrap64 (40 + r) = 40 + r := w64 (by omega) (by omega)
  refine ex_succ ?_
  simp only [spec_l9Bent.l0,e1,Option.bind_some,hw,rdL,List.nil_append,List.length_nil]
  by_cases g : (R.length : Int) < 40 + r
  ·obtain ⟨a1,a2,a3,a4,a5,a6,a7⟩ := D
   have hm := a5 _ (row_mem (i := 0) (by omega) (by omega : (0 : Int) < (R.length : Int)))
   refine ex_pos g (ex_pos (by omega) (ex_pos (by omega) (ex_pos (by omega) (ex_pos (by omega) (ih _ _ _ _ (by simp only [List.length_append,List.length_cons,List.length_nil];omega) (by simp only [List.length_append,List.length_cons,List.length_nil];omega) (by simp only [List.length_append,List.length_cons,List.length_nil];omega) ?_ c1)))))
   refine ⟨a1,a2,a3,by simp only [List.length_append,List.length_cons,List.length_nil];omega,?_,by simp only [List.length_append,List.length_cons,List.length_nil];omega,a7.snoc ⟨by decide,by decide⟩⟩
   intro y hy
   rcases List.mem_append.1 hy with hy | hy
   ·exact a5 y hy
   ·obtain rfl := List.mem_singleton.1 hy
    exact hm
  ·exact ex_neg g (ex_now _ ⟨c1,D⟩)
theorem l9Bent {l : List Int} {i : Int} (h : Int) (hc : Cur l i) : ∃ b,Ev (fun k => spec_l9Bent.f k l i h) b ∧ DrawnOut l b := by
 unfold spec_l9Bent.f
 obtain ⟨L,t,R,Y,i1,h1,e1,c1,⟨hL0,hL3⟩,hs,ht,⟨hR0,hR4⟩,hr,hYl,hY⟩ := l9Right h hc
 have D : Drawn L t R Y := drawn_of hL3 hs ht hR4 hr hYl hY
 have D' := D
 obtain ⟨a1,a2,a3,a4,a5,a6,a7⟩ := D'
 obtain ⟨k,i2,h2,e2,c2,k1,k2,_⟩ := l1Below h1 (R.length : Int) c1
 have k3 := k2 (by omega)
 obtain ⟨s,i3,h3,e3,c3,s1,s2,_⟩ := l1Below h2 14 c2
 have hm := row_mem k1 k3
 have hml := (hr _ hm).1
 have setR : ∀ r : List Int,r.length ≤ 5 ∧ IOk r → Drawn L t (R.set k.toNat r) Y := by
  intro r h'
  refine ⟨a1,a2,a3,by rw [List.length_set];exact a4,?_,a6,a7⟩
  intro y hy
  rcases List.mem_or_eq_of_mem_set hy with hy | hy
  ·exact a5 y hy
  ·subst hy;exact h'
 refine ex_bind e1 ?_
 simp only [e2,e3,Option.bind_some]
 try (refine ex_succ ?_;simp only [spec_l9Bent.j0])
 simp only [rdL]
 by_cases g0 : s = 0
 ·obtain ⟨r,i4,h4,e4,c4,hr⟩ := l1Pick h3 ([(⟨#[]⟩ : ByteArray),(⟨#[65]⟩ : ByteArray),(⟨#[49,97]⟩ : ByteArray),(⟨#[121]⟩ : ByteArray),(⟨#[97,98,99,100,101,102,103,104,105,106,107,108]⟩ : ByteArray),(⟨#[97,98,99,100,101,102,103,104,105,106,107,108,109]⟩ : ByteArray),(⟨#[98]⟩ : ByteArray)] : List ByteArray) c3 (by simp)
  refine ex_pos g0 ?_
  simp only [e4,Option.bind_some]
  refine ex_pos (by omega) (ex_now _ ⟨c4,by rw [List.length_set];exact a1,?_,a3,a4,a5,a6,a7⟩)
  intro x hx
  rcases List.mem_or_eq_of_mem_set hx with hx | hx
  ·exact a2 x hx
  ·subst hx
   simp only [List.mem_cons,List.not_mem_nil,or_false] at hr
   rcases hr with rfl | rfl | rfl | rfl | rfl | rfl | rfl <;> decide
 refine ex_neg g0 ?_
 by_cases g1 : s = 1
 ·obtain ⟨r,i4,h4,e4,c4,hr⟩ := l1Pick h3 ([(⟨#[]⟩ : ByteArray),(⟨#[97]⟩ : ByteArray),(⟨#[121,45]⟩ : ByteArray)] : List ByteArray) c3 (by simp)
  refine ex_pos g1 ?_
  simp only [e4,Option.bind_some]
  refine ex_now _ ⟨c4,a1,a2,?_,a4,a5,a6,a7⟩
  simp only [List.mem_cons,List.not_mem_nil,or_false] at hr
  show r.size ≤ 13
  rcases hr with rfl | rfl | rfl <;> decide
 refine ex_neg g1 ?_
 by_cases g2 : s = 2
 ·exact ex_pos g2 (ex_pos k1 (ex_pos k3 (ex_pos (by omega) (ex_now _ ⟨c3,setR _ ⟨by rw [List.length_append,hml];simp only [List.length_cons,List.length_nil];omega,(hr _ hm).2.snoc ⟨by decide,by decide⟩⟩⟩))))
 refine ex_neg g2 ?_
 by_cases g3 : s = 3
 ·obtain ⟨r,i4,h4,e4,c4,hv⟩ := l1PickInt h3 ([2147483647,2147483648,(-2147483648)] : List Int) c3 (by simp)
  refine ex_pos g3 (ex_pos k1 (ex_pos k3 ?_))
  simp only [e4,Option.bind_some]
  refine ex_pos (by omega) (ex_now _ ⟨c4,setR _ ⟨by rw [List.length_set];omega,(hr _ hm).2.set ?_ _⟩⟩)
  simp only [List.mem_cons,List.not_mem_nil,or_false] at hv
  unfold I64;omega
 refine ex_neg g3 ?_
 by_cases g4 : s = 4
 ·obtain ⟨r,i4,h4,e4,c4,hv⟩ := l1Whole h3 c3
  exact ex_pos g4 (ex_bind e4 (ex_pos k1 (ex_pos (by omega) (ex_now _ ⟨c4,a1,a2,a3,a4,a5,by rw [List.length_set];exact a6,a7.set hv _⟩))))
 refine ex_neg g4 ?_
 by_cases g5 : s = 5
 ·exact ex_pos g5 (ex_pos (by omega) (ex_now _ ⟨c3,a1,a2,a3,a4,a5,by rw [List.length_append];simp only [List.length_cons,List.length_nil];omega,a7.snoc ⟨by decide,by decide⟩⟩))
 refine ex_neg g5 ?_
 by_cases g6 : s = 6
 ·exact ex_pos g6 (ex_pos k1 (ex_pos k3 (ex_now _ ⟨c3,setR _ ⟨by simp,fun x hx => by simp at hx⟩⟩)))
 refine ex_neg g6 ?_
 by_cases g7 : s = 7
 ·exact ex_pos g7 (l9Bent_l0 L t (41 - R.length) R Y i3 h3 (by omega) hR0 hYl D c3)
 ·exact ex_neg g7 (ex_now _ ⟨c3,D⟩)
def cell (f : Int) (r : List Int) : Int := if f < (r.length : Int) then rd r f else 0
def col (f : Int) (R : List (List Int)) : List Int := R.map (cell f)
def colOf (L : List ByteArray) (R : List (List Int)) (f : Int) : List Int := if 0 ≤ f ∧ f ≤ (L.length : Int) - 1 then col f R else []
theorem col_succ (f : Int) {R : List (List Int)} {n : Nat} (h : n < R.length) : col f (R.take (n + 1)) = col f (R.take n) ++ [cell f (R.getD n [])] := by
 have e : R.getD n [] = R[n] := by
  rw [List.getD_eq_getElem?_getD,List.getElem?_eq_getElem h]
  rfl
 rw [e]
 unfold col
 rw [List.take_add_one,List.getElem?_eq_getElem h,List.map_append]
 rfl
theorem col_all (f : Int) (R : List (List Int)) : col f (R.take R.length) = col f R := by rw [List.take_length]
theorem col_length (f : Int) (R : List (List Int)) : (col f R).length = R.length := List.length_map _
theorem col_take_length (f : Int) (R : List (List Int)) (n : Nat) : (col f (R.take n)).length ≤ R.length := by
 rw [col_length,List.length_take];omega
theorem rd_col (f : Int) {R : List (List Int)} {n : Nat} (h : n < R.length) : rd (col f R) (n : Int) = cell f (R.getD n []) := by
 refine rd_of ?_
 unfold col
 rw [List.getElem?_map,List.getD_eq_getElem?_getD,List.getElem?_eq_getElem h]
 rfl
def ins (l : List Int) (x : Int) : List Int := l.filter (fun y => decide (y ≤ x)) ++ x :: l.filter (fun y => decide (x < y))
def Asc (l : List Int) : Prop := l.Pairwise (· ≤ ·)
theorem ins_perm (l : List Int) (x : Int) : (ins l x).Perm (x :: l) := by
 unfold ins
 refine List.perm_middle.trans (List.Perm.cons _ ?_)
 have e : l.filter (fun y => decide (x < y)) = l.filter (fun y => !decide (y ≤ x)) := List.filter_congr fun y _ => by
  by_cases h : y ≤ x
  ·simp [h]
  ·simp [h];omega
 rw [e]
 exact List.filter_append_perm _ l
theorem ins_length (l : List Int) (x : Int) : (ins l x).length = l.length + 1 := by
 have := (ins_perm l x).length_eq
 simpa using this
theorem ins_asc {l : List Int} (h : Asc l) (x : Int) : Asc (ins l x) := by
 unfold Asc ins at *
 rw [List.pairwise_append]
 refine ⟨h.filter _,?_,?_⟩
 ·rw [List.pairwise_cons]
  refine ⟨fun y hy => ?_,h.filter _⟩
  have := (List.mem_filter.1 hy).2
  simp at this;omega
 ·intro a ha b hb
  have h1 := (List.mem_filter.1 ha).2
  simp at h1
  rcases List.mem_cons.1 hb with rfl | hb
  ·exact h1
  ·have h2 := (List.mem_filter.1 hb).2
   simp at h2;omega
def isort (l : List Int) : List Int := l.foldl ins []
theorem isort_aux (l acc : List Int) (h : Asc acc) : Asc (l.foldl ins acc) ∧ (l.foldl ins acc).Perm (acc ++ l) := by
 induction l generalizing acc with
 | nil => exact ⟨h,by simp⟩
 | cons x l ih =>
  obtain ⟨h1,h2⟩ := ih (ins acc x) (ins_asc h x)
  refine ⟨h1,h2.trans ?_⟩
  refine ((ins_perm acc x).append_right l).trans ?_
  exact (List.perm_middle (a := x) (l₁ := acc) (l₂ := l)).symm
theorem isort_asc (l : List Int) : Asc (isort l) := (isort_aux l [] List.Pairwise.nil).1
theorem isort_perm (l : List Int) : (isort l).Perm l := by simpa [isort] using (isort_aux l [] List.Pairwise.nil).2
theorem isort_length (l : List Int) : (isort l).length = l.length := (isort_perm l).length_eq
theorem parts_at {out : List Int} (h : Asc out) {x : Int} {p : Nat} (hp : p ≤ out.length) (hb : ∀ y ∈ out.drop p,x < y) (ha : ∀ y ∈ out.take p,y ≤ x) : ins out x = out.take p ++ x :: out.drop p := by
 have a1 : (out.take p).filter (fun y => decide (y ≤ x)) = out.take p := List.filter_eq_self.2 fun y hy => by simpa using ha y hy
 have a2 : (out.drop p).filter (fun y => decide (y ≤ x)) = [] := List.filter_eq_nil_iff.2 fun y hy => by have := hb y hy;simp;omega
 have b1 : (out.take p).filter (fun y => decide (x < y)) = [] := List.filter_eq_nil_iff.2 fun y hy => by have := ha y hy;simp;omega
 have b2 : (out.drop p).filter (fun y => decide (x < y)) = out.drop p := List.filter_eq_self.2 fun y hy => by simpa using hb y hy
 have e1 : out.filter (fun y => decide (y ≤ x)) = out.take p := by
  conv => lhs;rw [← List.take_append_drop p out]
  rw [List.filter_append,a1,a2,List.append_nil]
 have e2 : out.filter (fun y => decide (x < y)) = out.drop p := by
  conv => lhs;rw [← List.take_append_drop p out]
  rw [List.filter_append,b1,b2,List.nil_append]
 unfold ins
 rw [e1,e2]
def ddFrom : Int → List Int → List Int
 | _,[] => []
 | p,y :: l => if y = p then ddFrom p l else y :: ddFrom y l
def dd : List Int → List Int
 | [] => []
 | x :: l => x :: ddFrom x l
def Strict (l : List Int) : Prop := l.Pairwise (· < ·)
theorem ddFrom_sub (p : Int) (l : List Int) : (ddFrom p l).Sublist l := by
 induction l generalizing p with
 | nil => exact List.Sublist.slnil
 | cons y l ih =>
  simp only [ddFrom]
  split
  ·exact (ih p).cons y
  ·exact (ih y).cons_cons y
theorem dd_sub (l : List Int) : (dd l).Sublist l := by
 cases l with
 | nil => exact List.Sublist.slnil
 | cons x l => exact (ddFrom_sub x l).cons_cons x
theorem dd_length (l : List Int) : (dd l).length ≤ l.length := (dd_sub l).length_le
theorem ddFrom_strict (p : Int) (l : List Int) (h : Asc (p :: l)) : Strict (p :: ddFrom p l) := by
 induction l generalizing p with
 | nil => simp [ddFrom,Strict]
 | cons y l ih =>
  unfold Asc at *
  rw [List.pairwise_cons,List.pairwise_cons] at h
  obtain ⟨h1,h2,h3⟩ := h
  have hy := h1 y (by simp)
  simp only [ddFrom]
  split
  ·rename_i e
   subst e
   exact ih y (by rw [List.pairwise_cons];exact ⟨h2,h3⟩)
  ·rename_i e
   have := ih y (by rw [List.pairwise_cons];exact ⟨h2,h3⟩)
   unfold Strict at *
   rw [List.pairwise_cons]
   refine ⟨fun z hz => ?_,this⟩
   rcases List.mem_cons.1 hz with rfl | hz
   ·omega
   ·have := h2 z ((ddFrom_sub y l).subset hz)
    omega
theorem dd_strict {l : List Int} (h : Asc l) : Strict (dd l) := by
 cases l with
 | nil => exact List.Pairwise.nil
 | cons x l => exact ddFrom_strict x l h
theorem ddFrom_mem (p : Int) (l : List Int) {x : Int} (h : x ∈ l) : x = p ∨ x ∈ ddFrom p l := by
 induction l generalizing p with
 | nil => simp at h
 | cons y l ih =>
  simp only [ddFrom]
  rcases List.mem_cons.1 h with rfl | h
  ·split
   ·rename_i e;exact .inl e
   ·exact .inr (by simp)
  ·split
   ·exact ih p h
   ·rcases ih y h with rfl | g
    ·exact .inr (by simp)
    ·exact .inr (by simp [g])
theorem dd_mem {l : List Int} {x : Int} : x ∈ dd l ↔ x ∈ l := by
 refine ⟨fun h => (dd_sub l).subset h,fun h => ?_⟩
 cases l with
 | nil => simp at h
 | cons y l =>
  simp only [dd,List.mem_cons] at h ⊢
  rcases h with rfl | h
  ·exact .inl rfl
  ·exact ddFrom_mem y l h
theorem isort_of_asc {l : List Int} (h : Asc l) : isort l = l :=
 List.Perm.eq_of_pairwise (le := fun a b => a ≤ b) (fun a b _ _ h1 h2 => Int.le_antisymm h1 h2) (isort_asc l) h (isort_perm l)
def bord (n b k : Nat) : Nat := n * k / b
theorem bord_le {n b k : Nat} (hb : 0 < b) (hk : k ≤ b) : bord n b k ≤ n := by
 unfold bord
 exact Nat.le_trans (Nat.div_le_div_right (Nat.mul_le_mul_left n hk)) (by rw [Nat.mul_div_cancel _ hb];exact Nat.le_refl _)
theorem bord_mono {n b j k : Nat} (h : j ≤ k) : bord n b j ≤ bord n b k := Nat.div_le_div_right (Nat.mul_le_mul_left n h)
def pick (all : List Int) (b k : Nat) : List Int :=
 if 1 ≤ bord all.length b k ∧ rd all ((bord all.length b k - 1 : Nat) : Int) < rd all ((all.length - 1 : Nat) : Int) then [rd all ((bord all.length b k - 1 : Nat) : Int)] else []
def raw (all : List Int) (b : Nat) : Nat → List Int
 | 0 => []
 | m + 1 => raw all b m ++ pick all b (m + 1)
theorem raw_length (all : List Int) (b m : Nat) : (raw all b m).length ≤ m := by
 induction m with
 | zero => simp [raw]
 | succ m ih =>
  simp only [raw,List.length_append]
  have : (pick all b (m + 1)).length ≤ 1 := by unfold pick;split <;> simp
  omega
theorem raw_mem {all : List Int} {b m : Nat} {x : Int} (h : x ∈ raw all b m) : ∃ k,1 ≤ k ∧ k ≤ m ∧ 1 ≤ bord all.length b k ∧ x = rd all ((bord all.length b k - 1 : Nat) : Int) ∧ x < rd all ((all.length - 1 : Nat) : Int) := by
 induction m with
 | zero => simp [raw] at h
 | succ m ih =>
  simp only [raw,List.mem_append] at h
  rcases h with h | h
  ·obtain ⟨k,h1,h2,h3⟩ := ih h
   exact ⟨k,h1,by omega,h3⟩
  ·unfold pick at h
   split at h
   ·rename_i c
    have hx := List.mem_singleton.1 h
    exact ⟨m + 1,by omega,by omega,c.1,hx,hx ▸ c.2⟩
   ·simp at h
theorem raw_has {all : List Int} {b m k : Nat} (h1 : 1 ≤ k) (h2 : k ≤ m) (h3 : 1 ≤ bord all.length b k) (h4 : rd all ((bord all.length b k - 1 : Nat) : Int) < rd all ((all.length - 1 : Nat) : Int)) : rd all ((bord all.length b k - 1 : Nat) : Int) ∈ raw all b m := by
 induction m with
 | zero => omega
 | succ m ih =>
  simp only [raw,List.mem_append]
  by_cases e : k = m + 1
  ·subst e
   right
   unfold pick
   rw [if_pos ⟨h3,h4⟩]
   simp
  ·exact .inl (ih (by omega))
theorem asc_rd {all : List Int} (hs : Asc all) {i j : Nat} (h : i ≤ j) (hj : j < all.length) : rd all (i : Int) ≤ rd all (j : Int) := by
 rw [rd_of (List.getElem?_eq_getElem (show i < all.length by omega)),rd_of (List.getElem?_eq_getElem hj)]
 by_cases e : i = j
 ·subst e;omega
 ·exact List.pairwise_iff_getElem.1 hs i j (by omega) hj (by omega)
theorem raw_asc {all : List Int} (hs : Asc all) {b : Nat} (hb : 0 < b) : ∀ m,m ≤ b → Asc (raw all b m) := by
 intro m
 induction m with
 | zero => intro _;exact List.Pairwise.nil
 | succ m ih =>
  intro hm
  unfold Asc at *
  simp only [raw]
  rw [List.pairwise_append]
  refine ⟨ih (by omega),?_,?_⟩
  ·unfold pick;split <;> simp
  ·intro x hx y hy
   obtain ⟨k,h1,h2,h3,h4,_⟩ := raw_mem hx
   unfold pick at hy
   split at hy
   ·rename_i c
    have hy := List.mem_singleton.1 hy
    rw [h4,hy]
    have b1 := bord_mono (n := all.length) (b := b) (show k ≤ m + 1 by omega)
    have b2 := bord_le (n := all.length) hb hm
    exact asc_rd hs (by omega) (by omega)
   ·simp at hy
def cutsOf (l : List Int) (b : Int) : List Int := if (2 ≤ b ∧ b ≤ 8) ∧ (1 ≤ l.length ∧ l.length ≤ 40) then dd (raw (isort l) b.toNat (b.toNat - 1)) else []
theorem cutsOf_length (l : List Int) (b : Int) : (cutsOf l b).length ≤ 7 := by
 unfold cutsOf
 split
 ·have h1 := dd_length (raw (isort l) b.toNat (b.toNat - 1))
  have h2 := raw_length (isort l) b.toNat (b.toNat - 1)
  omega
 ·simp
theorem bord_int {n b m : Nat} (hn : n ≤ 40) (hb : 0 < b) (hb8 : b ≤ 8) (hm : m ≤ b) : wrap64 (Int.tdiv (wrap64 ((n : Int) * (m : Int))) (b : Int)) = ((bord n b m : Nat) : Int) := by
 have h1 : n * m ≤ 40 * 8 := Nat.mul_le_mul hn (by omega)
 have h2 := bord_le (n := n) hb hm
 have e1 : (n : Int) * (m : Int) = ((n * m : Nat) : Int) := (Int.natCast_mul n m).symm
 rw [e1,w64 (x := ((n * m : Nat) : Int)) (by omega) (by omega),← Int.ofNat_tdiv]
 show wrap64 ((bord n b m : Nat) : Int) = _
 exact w64 (by omega) (by omega)
theorem cutsOf_strict (l : List Int) (b : Int) : Strict (cutsOf l b) := by
 unfold cutsOf
 split
 ·exact dd_strict (raw_asc (isort_asc l) (by omega) _ (by omega))
 ·exact List.Pairwise.nil
theorem cutsOf_mem {l : List Int} {b : Int} {c : Int} (h : c ∈ cutsOf l b) : c ∈ l ∧ ∃ z,z ∈ l ∧ c < z := by
 unfold cutsOf at h
 split at h
 ·rename_i g
  rw [dd_mem] at h
  obtain ⟨k,h1,h2,h3,h4,h5⟩ := raw_mem h
  have hs := isort_length l
  have hle := bord_le (n := (isort l).length) (b := b.toNat) (k := k) (by omega) (by omega)
  have m1 : rd (isort l) ((bord (isort l).length b.toNat k - 1 : Nat) : Int) ∈ isort l := rd_mem (by omega) (by omega)
  have m2 : rd (isort l) (((isort l).length - 1 : Nat) : Int) ∈ isort l := rd_mem (by omega) (by omega)
  exact ⟨by rw [h4];exact (isort_perm l).mem_iff.1 m1,_,(isort_perm l).mem_iff.1 m2,h5⟩
 ·simp at h
theorem cutsOf_few (l : List Int) (b : Int) : cutsOf l b = [] ∨ ((cutsOf l b).length : Int) < b := by
 unfold cutsOf
 split
 ·rename_i g
  have h1 := dd_length (raw (isort l) b.toNat (b.toNat - 1))
  have h2 := raw_length (isort l) b.toNat (b.toNat - 1)
  right
  omega
 ·exact .inl rfl
def less (l : List Int) (v : Int) : Nat := l.countP (fun x => decide (x < v))
theorem less_cons (x : Int) (l : List Int) (v : Int) : less (x :: l) v = less l v + if x < v then 1 else 0 := by
 unfold less
 rw [List.countP_cons]
 simp
theorem less_le (l : List Int) (v : Int) : less l v ≤ l.length := List.countP_le_length
def Letter (c : Int) : Prop := 97 ≤ c ∧ c ≤ 122
def Figure (c : Int) : Prop := 48 ≤ c ∧ c ≤ 57
def NameFrom (s : ByteArray) (n : Nat) : Prop := ∀ j : Nat,n ≤ j → j < s.size → Letter (bt s (j : Int)) ∨ Figure (bt s (j : Int))
def IsName (s : ByteArray) : Prop := 1 ≤ s.size ∧ s.size ≤ 12 ∧ Letter (bt s 0) ∧ NameFrom s 0
theorem NameFrom.step {s : ByteArray} {n : Nat} (h : n < s.size) : NameFrom s n ↔ (Letter (bt s (n : Int)) ∨ Figure (bt s (n : Int))) ∧ NameFrom s (n + 1) := by
 constructor
 ·exact fun g => ⟨g n (Nat.le_refl _) h,fun j hj => g j (by omega)⟩
 ·intro ⟨g0,g⟩ j hj hlt
  by_cases e : j = n
  ·subst e;exact g0
  ·exact g j (by omega) hlt
theorem NameFrom.stop {s : ByteArray} : NameFrom s s.size := fun j h1 h2 => by omega
theorem specIn (a b c : Int) : spec_l1In.f a b c = some (decide (b ≤ a ∧ a ≤ c)) := by
 unfold spec_l1In.f
 by_cases h : b ≤ a
 ·rw [if_pos h];simp [h]
 ·rw [if_neg h];simp [h]
theorem specNameOk_l0 (s : ByteArray) (hl : s.size ≤ 140737488351232) : ∀ (d n : Nat),n + d = s.size → Ev (fun k => spec_NameOk.l0 k s (n : Int)) (dec (NameFrom s n)) := by
 intro d
 induction d with
 | zero =>
  intro n hn
  refine ev_end fun k => ?_
  simp only [spec_NameOk.l0]
  obtain rfl : n = s.size := by omega
  rw [if_neg (by omega),dec_true NameFrom.stop]
 | succ d ih =>
  intro n hn
  have hs := NameFrom.step (s := s) (n := n) (by omega)
  have hb := bt_range s (n : Int)
  by_cases h1 : Letter (bt s (n : Int))
  ·have e : dec (NameFrom s n) = dec (NameFrom s (n + 1)) := dec_congr (by rw [hs];exact ⟨fun g => g.2,fun g => ⟨.inl h1,g⟩⟩)
   rw [e]
   refine Ev.step (fun k => ?_) (ih (n + 1) (by omega))
   simp only [spec_NameOk.l0,specIn,Option.bind_some]
   unfold Letter at h1
   rw [if_pos (by omega),if_pos (by omega),w64 (x := bt s (n : Int)) (by omega) (by omega),if_pos (by simpa using h1),w64 (by omega) (by omega)]
   rfl
  ·by_cases h2 : Figure (bt s (n : Int))
   ·have e : dec (NameFrom s n) = dec (NameFrom s (n + 1)) := dec_congr (by rw [hs];exact ⟨fun g => g.2,fun g => ⟨.inr h2,g⟩⟩)
    rw [e]
    refine Ev.step (fun k => ?_) (ih (n + 1) (by omega))
    simp only [spec_NameOk.l0,specIn,Option.bind_some]
    unfold Letter at h1
    unfold Figure at h2
    rw [if_pos (by omega),if_pos (by omega),w64 (x := bt s (n : Int)) (by omega) (by omega),if_neg (by simpa using h1),if_pos (by simpa using h2),w64 (by omega) (by omega)]
    rfl
   ·refine ev_end fun k => ?_
    simp only [spec_NameOk.l0,specIn,Option.bind_some]
    have e : dec (NameFrom s n) = false := dec_false (by rw [hs];exact fun g => g.1.elim h1 h2)
    unfold Letter at h1
    unfold Figure at h2
    rw [if_pos (by omega),if_pos (by omega),w64 (x := bt s (n : Int)) (by omega) (by omega),if_neg (by simpa using h1),if_neg (by simpa using h2),e]
theorem specNameOk (s : ByteArray) (hl : s.size ≤ 140737488351232) : Ev (fun k => spec_NameOk.f k s) (dec (IsName s)) := by
 unfold spec_NameOk.f
 simp only [specIn,Option.bind_some]
 have hb := bt_range s 0
 by_cases h1 : 1 ≤ s.size ∧ s.size ≤ 12
 ·refine ev_pos (by simp;omega) (ev_pos (by omega) ?_)
  by_cases h2 : bt s 0 < 97
  ·refine ev_end fun k => ?_
   simp only [spec_NameOk.j0]
   rw [if_pos (by simpa using h2),dec_false]
   intro g;have := g.2.2.1;unfold Letter at this;omega
  ·have e : dec (IsName s) = dec (NameFrom s 0) := dec_congr ⟨fun g => g.2.2.2,fun g => ⟨h1.1,h1.2,(g 0 (by omega) (by omega)).elim (fun z => z) (fun z => by unfold Figure at z;simp only [Int.natCast_zero] at z;omega),g⟩⟩
   rw [e]
   refine Ev.step (fun k => ?_) (specNameOk_l0 s hl s.size 0 (by omega))
   simp only [spec_NameOk.j0]
   rw [if_neg (by simpa using h2)]
   rfl
 ·refine ev_neg (by simp;omega) (ev_end fun k => ?_)
  simp only [spec_NameOk.j0]
  rw [if_pos trivial,dec_false]
  intro g;exact h1 ⟨g.1,g.2.1⟩
def Deci (x : Int) : Prop := -2147483647 ≤ x ∧ x ≤ 2147483647
def CutsP (c : List Int) : Prop := (∀ j : Nat,0 ≤ j → j < c.length → Deci (rd c (j : Int)) ∧ (0 < j → rd c ((j : Int) - 1) < rd c (j : Int))) ∧ c.length ≤ 7
def SameR {α : Type} (z : α) (R : α → α → Prop) (l m : List α) : Prop := l.length = m.length ∧ ∀ j : Nat,0 ≤ j → j < l.length → R (l.getD j z) (m.getD j z)
theorem same_ev {α : Type} (z : α) (R : α → α → Prop) (l m : List α) (h0 : l.length = m.length) (F : Nat → Int → Option Bool) (hend : Ev (fun k => F k (l.length : Int)) true)
  (hyes : ∀ (n : Nat) (r : Bool),n < l.length → R (l.getD n z) (m.getD n z) → Ev (fun k => F k ((n + 1 : Nat) : Int)) r → Ev (fun k => F k (n : Int)) r)
  (hno : ∀ n : Nat,n < l.length → ¬ R (l.getD n z) (m.getD n z) → Ev (fun k => F k (n : Int)) false) : Ev (fun k => F k 0) (dec (SameR z R l m)) :=
 ev_eq (all_loop F l.length (fun j => R (l.getD j z) (m.getD j z)) hend hyes hno l.length 0 (by omega)) (dec_congr ⟨fun h => ⟨h0,h⟩,fun h => h.2⟩)
theorem rdn (xs : List Int) (n : Nat) : rd xs (n : Int) = xs.getD n 0 := rfl
theorem rdOfn {α : Type} (z : α) (xs : List α) (n : Nat) : rdOf z xs (n : Int) = xs.getD n z := rfl
def sAt (l : List ByteArray) (j : Nat) : ByteArray := rdOf ByteArray.empty l (j : Int)
theorem sAt_size {l : List ByteArray} {m : Nat} (h : ∀ x ∈ l,x.size ≤ m) (j : Nat) : (sAt l j).size ≤ m := by
 unfold sAt
 rw [rdOfn,List.getD_eq_getElem?_getD]
 by_cases hj : j < l.length
 ·rw [List.getElem?_eq_getElem hj]
  exact h _ (List.getElem_mem hj)
 ·rw [List.getElem?_eq_none (by omega)]
  exact Nat.zero_le _
theorem sAt_take (l : List ByteArray) {n j : Nat} (h : j < n) : sAt (l.take n) j = sAt l j := by
 unfold sAt
 rw [rdOfn,rdOfn,List.getD_eq_getElem?_getD,List.getD_eq_getElem?_getD,List.getElem?_take,if_pos h]
theorem sAt_app_lt (l : List ByteArray) (t : ByteArray) {j : Nat} (h : j < l.length) : sAt (l ++ [t]) j = sAt l j := by
 unfold sAt
 rw [rdOfn,rdOfn,List.getD_eq_getElem?_getD,List.getD_eq_getElem?_getD,List.getElem?_append_left h]
theorem sAt_app_eq (l : List ByteArray) (t : ByteArray) : sAt (l ++ [t]) l.length = t := by
 unfold sAt
 rw [rdOfn,List.getD_eq_getElem?_getD,List.getElem?_append_right (Nat.le_refl _),Nat.sub_self]
 rfl
def HasP (l : List ByteArray) (n : Nat) (s : ByteArray) : Prop := ∃ j,j < n ∧ (sAt l j).toList = s.toList
theorem hasP_take (l : List ByteArray) {n : Nat} (h : n ≤ l.length) (s : ByteArray) : HasP (l.take n) (l.take n).length s ↔ HasP l n s := by
 have e : (l.take n).length = n := by rw [List.length_take];omega
 unfold HasP
 rw [e]
 exact ⟨fun ⟨j,a,b⟩ => ⟨j,a,by rw [sAt_take l a] at b;exact b⟩,fun ⟨j,a,b⟩ => ⟨j,a,by rw [sAt_take l a];exact b⟩⟩
theorem specHas_l0 (l : List ByteArray) (s : ByteArray) (hl : l.length ≤ 1048576) : ∀ (d n : Nat),n + d = l.length → Ev (fun k => spec_l9Has.l0 k l s (n : Int)) (dec (∃ j,n ≤ j ∧ j < l.length ∧ (sAt l j).toList = s.toList)) := by
 intro d
 induction d with
 | zero =>
  intro n hn
  refine ev_succ ?_
  simp only [spec_l9Has.l0]
  exact ev_neg (by omega) (ev_eq (Ev.now _) (dec_false (fun ⟨j,a,b,_⟩ => by omega)).symm)
 | succ d ih =>
  intro n hn
  refine ev_succ ?_
  simp only [spec_l9Has.l0]
  refine ev_pos (by omega) (ev_pos (by omega) ?_)
  by_cases h : (sAt l n).toList = s.toList
  ·exact ev_pos h (ev_eq (Ev.now _) (dec_true ⟨n,Nat.le_refl _,by omega,h⟩).symm)
  ·refine ev_neg h ?_
   rw [w64 (x := (n : Int) + 1) (by omega) (by omega)]
   refine ev_eq (ih (n + 1) (by omega)) (dec_congr ⟨fun ⟨j,a,b,c⟩ => ⟨j,by omega,b,c⟩,fun ⟨j,a,b,c⟩ => ⟨j,?_,b,c⟩⟩)
   by_cases e : j = n
   ·exact absurd (e ▸ c) h
   ·omega
theorem specHas (l : List ByteArray) (s : ByteArray) (hl : l.length ≤ 1048576) : Ev (fun k => spec_l9Has.f k l s) (dec (HasP l l.length s)) := by
 unfold spec_l9Has.f
 exact ev_eq (specHas_l0 l s hl l.length 0 (by omega)) (dec_congr ⟨fun ⟨j,_,b,c⟩ => ⟨j,b,c⟩,fun ⟨j,b,c⟩ => ⟨j,Nat.zero_le _,b,c⟩⟩)
def NameAt (l : List ByteArray) (j : Nat) : Prop := IsName (sAt l j) ∧ ¬ HasP l j (sAt l j)
theorem specVal (x : Int) : spec_l6Value.f x = some (decide (-2147483647 ≤ x ∧ x ≤ 2147483647)) := by
 unfold spec_l6Value.f
 rw [specIn];rfl
theorem deciT {x : Int} (h : Deci x) : decide (-2147483647 ≤ x ∧ x ≤ 2147483647) = true := decide_eq_true h
theorem deciF {x : Int} (h : ¬ Deci x) : decide (-2147483647 ≤ x ∧ x ≤ 2147483647) = false := decide_eq_false h
def RowT (m : Nat) (R : List (List Int)) (Y : List Int) (j : Nat) : Prop := ((R.getD j []).length : Int) = (m : Int) ∧ Deci (rd Y (j : Int)) ∧ ∀ i : Nat,0 ≤ i → i < m → Deci (rd (R.getD j []) (i : Int))
theorem specRows (L : List ByteArray) (t : ByteArray) (R : List (List Int)) (Y : List Int) (m : Nat) (hm : m ≤ 1048576) (hR : R.length ≤ 1048576) (hY : Y.length = R.length) : ∀ (d n : Nat),n + d = R.length → Ev (fun k => spec_TableOk.l1 k (m : Int) (n : Int) L t R Y) (dec (∀ j,n ≤ j → j < R.length → RowT m R Y j)) := by
 intro d
 induction d with
 | zero =>
  intro n hn
  refine ev_succ ?_
  simp only [spec_TableOk.l1]
  exact ev_neg (by omega) (ev_eq (Ev.now _) (dec_true (fun j h1 h2 => by omega)).symm)
 | succ d ih =>
  intro n hn
  have go := ih (n + 1) (by omega)
  have st : (∀ j,n ≤ j → j < R.length → RowT m R Y j) ↔ RowT m R Y n ∧ ∀ j,n + 1 ≤ j → j < R.length → RowT m R Y j := by
   constructor
   ·exact fun h => ⟨h n (Nat.le_refl _) (by omega),fun j h1 h2 => h j (by omega) h2⟩
   ·intro ⟨h0,h⟩ j h1 h2
    by_cases e : j = n
    ·exact e ▸ h0
    ·exact h j (by omega) h2
  rw [dec_congr st]
  refine ev_succ ?_
  simp only [spec_TableOk.l1,rdL,Int.toNat_natCast,specVal,Option.bind_some]
  refine ev_pos (by omega) (ev_pos (by omega) ?_)
  by_cases k1 : ((R.getD n []).length : Int) = (m : Int)
  case neg =>
   refine ev_neg k1 (ev_succ ?_)
   simp only [spec_TableOk.j3]
   exact ev_pos trivial (ev_eq (Ev.now _) (dec_false (fun h => k1 h.1.1)).symm)
  refine ev_pos k1 (ev_pos (by omega) (ev_succ ?_))
  simp only [spec_TableOk.j3]
  by_cases k2 : Deci (rd Y (n : Int))
  case neg =>
   refine ev_pos ?_ (ev_eq (Ev.now _) (dec_false (fun h => k2 h.1.2.1)).symm)
   rw [deciF k2];rfl
  refine ev_neg (by rw [deciT k2];decide) ?_
  refine ev_eq (all_loop2 (fun k i => spec_TableOk.l2 k (m : Int) (n : Int) i L t R Y) m (fun i => Deci (rd (R.getD n []) (i : Int))) (∀ j,n + 1 ≤ j → j < R.length → RowT m R Y j) ?_ ?_ ?_ m 0 (by omega)) (dec_congr ⟨fun h => ⟨⟨k1,k2,h.1⟩,h.2⟩,fun h => ⟨h.1.2.2,h.2⟩⟩)
  ·refine ev_succ ?_
   simp only [spec_TableOk.l2]
   refine ev_neg (by omega) ?_
   rw [w64 (x := (n : Int) + 1) (by omega) (by omega)]
   exact go
  ·intro i r hi hp h
   refine ev_succ ?_
   simp only [spec_TableOk.l2,rdL,Int.toNat_natCast,specVal,Option.bind_some]
   refine ev_pos (by omega) (ev_pos (by omega) (ev_pos (by omega) (ev_pos (by omega) (ev_pos (by omega) (ev_pos (decide_eq_true hp) ?_)))))
   rw [w64 (x := (i : Int) + 1) (by omega) (by omega)]
   exact h
  ·intro i hi hp
   refine ev_succ ?_
   simp only [spec_TableOk.l2,rdL,Int.toNat_natCast,specVal,Option.bind_some]
   exact ev_pos (by omega) (ev_pos (by omega) (ev_pos (by omega) (ev_pos (by omega) (ev_pos (by omega) (ev_neg (by rw [deciF hp];decide) (Ev.now _))))))
def NamesT (L : List ByteArray) : Prop := ∀ j,0 ≤ j → j < L.length → NameAt L j
def RowsT (L : List ByteArray) (R : List (List Int)) (Y : List Int) : Prop := ∀ j,0 ≤ j → j < R.length → RowT L.length R Y j
def TableP (L : List ByteArray) (t : ByteArray) (R : List (List Int)) (Y : List Int) : Prop :=
 (1 ≤ (L.length : Int) ∧ (L.length : Int) ≤ 4) ∧ IsName t ∧ ¬ HasP L L.length t ∧ (1 ≤ (R.length : Int) ∧ (R.length : Int) ≤ 40) ∧ (Y.length : Int) = (R.length : Int) ∧ NamesT L ∧ RowsT L R Y
theorem specTableOk (L : List ByteArray) (t : ByteArray) (R : List (List Int)) (Y : List Int) (hL : L.length ≤ 1048576) (hs : ∀ x ∈ L,x.size ≤ 1048576) (ht : t.size ≤ 1048576) (hR : R.length ≤ 1048576) : Ev (fun k => spec_TableOk.f k L t R Y) (dec (TableP L t R Y)) := by
 unfold spec_TableOk.f
 simp only [specIn,Option.bind_some]
 have stop : ∀ r : Bool,r = false → Ev (fun k => spec_TableOk.j0 k (L.length : Int) true L t R Y) r := by
  rintro _ rfl
  refine ev_succ ?_
  simp only [spec_TableOk.j0]
  exact ev_pos trivial (Ev.now _)
 unfold TableP
 by_cases k1 : 1 ≤ (L.length : Int) ∧ (L.length : Int) ≤ 4
 case neg => exact ev_neg (by rw [decide_eq_false k1];decide) (stop _ (dec_false (fun h => k1 h.1)))
 refine ev_pos (decide_eq_true k1) (Ev.bind (specNameOk t (by omega)) ?_)
 by_cases k2 : IsName t
 case neg => exact ev_neg (by rw [dec_false k2];decide) (stop _ (dec_false (fun h => k2 h.2.1)))
 refine ev_pos (dec_true k2) (Ev.bind (specHas L t hL) ?_)
 by_cases k3 : HasP L L.length t
 ·exact ev_pos (dec_true k3) (stop _ (dec_false (fun h => h.2.2.1 k3)))
 refine ev_neg (by rw [dec_false k3];decide) ?_
 by_cases k4 : 1 ≤ (R.length : Int) ∧ (R.length : Int) ≤ 40
 case neg => exact ev_neg (by rw [decide_eq_false k4];decide) (stop _ (dec_false (fun h => k4 h.2.2.2.1)))
 refine ev_pos (decide_eq_true k4) ?_
 by_cases k5 : (Y.length : Int) = (R.length : Int)
 case neg =>
  rw [bne_iff_ne.2 k5]
  exact stop _ (dec_false (fun h => k5 h.2.2.2.2.1))
 rw [k5,bne_self_eq_false]
 refine ev_succ ?_
 simp only [spec_TableOk.j0]
 refine ev_neg (by decide) ?_
 refine ev_eq (all_loop2 (fun k i => spec_TableOk.l0 k (L.length : Int) i L t R Y) L.length (NameAt L) (RowsT L R Y) ?_ ?_ ?_ L.length 0 (by omega)) (dec_congr ⟨fun h => ⟨k1,k2,k3,k4,trivial,h.1,h.2⟩,fun h => ⟨h.2.2.2.2.2.1,h.2.2.2.2.2.2⟩⟩)
 ·refine ev_succ ?_
  simp only [spec_TableOk.l0]
  exact ev_neg (by omega) (specRows L t R Y L.length hL hR (by omega) R.length 0 (by omega))
 ·intro n r hn hp h
  have g := sAt_size hs n
  refine ev_succ ?_
  simp only [spec_TableOk.l0,Int.toNat_natCast]
  refine ev_pos (by omega) (ev_pos (by omega) (ev_pos (by omega) (Ev.bind (specNameOk (sAt L n) (by omega)) (ev_pos (dec_true hp.1) (ev_pos (by omega) (Ev.bind (specHas (L.take n) (sAt L n) (by rw [List.length_take];omega)) (ev_neg ?_ ?_)))))))
  ·rw [dec_congr (hasP_take L (by omega) _),dec_false hp.2];decide
  ·rw [w64 (x := (n : Int) + 1) (by omega) (by omega)]
   exact h
 ·intro n hn hp
  have g := sAt_size hs n
  refine ev_succ ?_
  simp only [spec_TableOk.l0,Int.toNat_natCast]
  refine ev_pos (by omega) (ev_pos (by omega) (ev_pos (by omega) (Ev.bind (specNameOk (sAt L n) (by omega)) ?_)))
  by_cases a : IsName (sAt L n)
  ·refine ev_pos (dec_true a) (ev_pos (by omega) (Ev.bind (specHas (L.take n) (sAt L n) (by rw [List.length_take];omega)) (ev_pos ?_ (Ev.now _))))
   rw [dec_congr (hasP_take L (by omega) _)]
   exact dec_true (Classical.byContradiction fun z => hp ⟨a,z⟩)
  ·exact ev_neg (by rw [dec_false a];decide) (Ev.now _)
theorem implWithin (a b c : Int) : impl_within.f a b c = some (decide (b ≤ a ∧ a ≤ c)) := by
 unfold impl_within.f
 by_cases h : b ≤ a
 ·rw [if_pos h];simp [h]
 ·rw [if_neg h];simp [h]
theorem implDec (x : Int) : impl_isDecimal.f x = some (decide (-2147483647 ≤ x ∧ x ≤ 2147483647)) := by
 unfold impl_isDecimal.f
 rw [implWithin];rfl
theorem index_dec (l : List Int) (hl : l.length ≤ 1048576) : ∀ (d n : Nat),n + d = l.length → ∃ r : Int,Ev (fun k => slices_IndexFunc_int_int_53.l0 k l (l.length : Int) (n : Int)) r ∧ (0 ≤ r ↔ ∃ j,n ≤ j ∧ j < l.length ∧ ¬ Deci (rd l (j : Int))) := by
 intro d
 induction d with
 | zero =>
  intro n hn
  refine ⟨-1,ev_succ ?_,⟨fun h => by omega,fun ⟨j,h1,h2,_⟩ => by omega⟩⟩
  simp only [slices_IndexFunc_int_int_53.l0]
  exact ev_neg (by omega) (Ev.now _)
 | succ d ih =>
  intro n hn
  have hw : wrap64 ((n : Int) + 1) = ((n + 1 : Nat) : Int) := w64 (by omega) (by omega)
  by_cases h : Deci (rd l (n : Int))
  ·obtain ⟨r,e,hr⟩ := ih (n + 1) (by omega)
   refine ⟨r,ev_succ ?_,hr.trans ⟨fun ⟨j,h1,h2,h3⟩ => ⟨j,by omega,h2,h3⟩,fun ⟨j,h1,h2,h3⟩ => ⟨j,?_,h2,h3⟩⟩⟩
   ·simp only [slices_IndexFunc_int_int_53.l0,impl_areDecimals_1.f,implDec,Option.bind_some,hw]
    exact ev_pos (by omega) (ev_pos (by omega) (ev_pos (by omega) (ev_neg (by simpa [Deci] using h) e)))
   ·by_cases c : j = n
    ·subst c;exact absurd h h3
    ·omega
  ·refine ⟨(n : Int),ev_succ ?_,⟨fun _ => ⟨n,by omega,by omega,h⟩,fun _ => by omega⟩⟩
   simp only [slices_IndexFunc_int_int_53.l0,impl_areDecimals_1.f,implDec,Option.bind_some]
   exact ev_pos (by omega) (ev_pos (by omega) (ev_pos (by omega) (ev_pos (by unfold Deci at h;simp;omega) (Ev.now _))))
theorem implAreDec (l : List Int) (hl : l.length ≤ 1048576) : Ev (fun k => impl_areDecimals.f k l) (dec (∀ j : Nat,j < l.length → Deci (rd l (j : Int)))) := by
 unfold impl_areDecimals.f slices_ContainsFunc_int_int_32.f slices_IndexFunc_int_int_53.f
 obtain ⟨r,e,hr⟩ := index_dec l hl l.length 0 (by omega)
 refine Ev.bind (Ev.bind e (Ev.now _)) (ev_of ?_)
 congr 1
 by_cases h : ∀ j : Nat,j < l.length → Deci (rd l (j : Int))
 ·rw [dec_true h]
  have : ¬ 0 ≤ r := fun z => by obtain ⟨j,_,h2,h3⟩ := hr.1 z;exact h3 (h j h2)
  simp;omega
 ·rw [dec_false h]
  have : 0 ≤ r := hr.2 (Classical.byContradiction fun z => h fun j hj => Classical.byContradiction fun y => z ⟨j,by omega,hj,y⟩)
  simp;omega
theorem implCutsOk (c : List Int) (hl : c.length ≤ 1048576) : Ev (fun k => impl_CutsOk.f k c) (dec (CutsP c)) := by
 unfold impl_CutsOk.f
 have key := all_loop2 (fun k i => impl_CutsOk.l0 k c (i + 1)) (c.length - 1) (fun j => rd c (j : Int) < rd c ((j : Int) + 1)) (c.length ≤ 7 ∧ ∀ j : Nat,j < c.length → Deci (rd c (j : Int))) ?_ ?_ ?_ (c.length - 1) 0 (by omega)
 ·refine ev_eq key (dec_congr ⟨fun ⟨h1,h2,h3⟩ => ⟨fun j _ hj => ⟨h3 j hj,fun h0 => ?_⟩,h2⟩,fun ⟨h1,h2⟩ => ⟨fun j _ hj => ?_,h2,fun j hj => (h1 j (by omega) hj).1⟩⟩)
  ·have := h1 (j - 1) (by omega) (by omega)
   have e1 : ((j - 1 : Nat) : Int) = (j : Int) - 1 := by omega
   rw [e1] at this
   have e2 : (j : Int) - 1 + 1 = (j : Int) := by omega
   rwa [e2] at this
  ·have := (h1 (j + 1) (by omega) (by omega)).2 (by omega)
   have e1 : ((j + 1 : Nat) : Int) - 1 = (j : Int) := by omega
   rw [e1] at this
   exact this
 ·refine ev_succ ?_
  simp only [impl_CutsOk.l0]
  refine ev_neg (by omega) ?_
  by_cases h : c.length ≤ 7
  ·refine ev_pos (by omega) (Ev.bind (implAreDec c hl) (ev_of ?_))
   congr 1
   exact dec_congr ⟨fun g => ⟨h,g⟩,fun g => g.2⟩
  ·refine ev_neg (by omega) (ev_of ?_)
   rw [dec_false (fun g => h g.1)]
 ·intro n r hn hp h
  refine ev_succ ?_
  simp only [impl_CutsOk.l0]
  have e1 : (n : Int) + 1 - 1 = (n : Int) := by omega
  have e2 : ((n + 1 : Nat) : Int) + 1 = (n : Int) + 1 + 1 := by omega
  rw [e1,w64 (x := (n : Int)) (by omega) (by omega),w64 (x := (n : Int) + 1 + 1) (by omega) (by omega)]
  rw [e2] at h
  exact ev_pos (by omega) (ev_pos (by omega) (ev_pos (by omega) (ev_pos (by omega) (ev_neg (by omega) h))))
 ·intro n hn hp
  refine ev_succ ?_
  simp only [impl_CutsOk.l0]
  have e1 : (n : Int) + 1 - 1 = (n : Int) := by omega
  rw [e1,w64 (x := (n : Int)) (by omega) (by omega)]
  exact ev_pos (by omega) (ev_pos (by omega) (ev_pos (by omega) (ev_pos (by omega) (ev_pos (by omega) (Ev.now _)))))
theorem spec6 (x : Int) : spec_l6Value.f x = some (decide (-2147483647 ≤ x ∧ x ≤ 2147483647)) := by
 unfold spec_l6Value.f
 rw [specIn];rfl
theorem specCutsOk (c : List Int) (hl : c.length ≤ 1048576) : Ev (fun k => spec_CutsOk.f k c) (dec (CutsP c)) := by
 unfold spec_CutsOk.f CutsP
 refine all_loop2 (fun k i => spec_CutsOk.l0 k c i) c.length (fun j => Deci (rd c (j : Int)) ∧ (0 < j → rd c ((j : Int) - 1) < rd c (j : Int))) (c.length ≤ 7) ?_ ?_ ?_ c.length 0 (by omega)
 ·refine ev_succ ?_
  simp only [spec_CutsOk.l0]
  refine ev_neg (by omega) (ev_of ?_)
  rw [← dec_eq]
  congr 1
  exact dec_congr (by omega)
 ·intro n r hn hp h
  refine ev_succ ?_
  have hw : wrap64 ((n : Int) + 1) = ((n + 1 : Nat) : Int) := w64 (by omega) (by omega)
  have h6 : (decide (-2147483647 ≤ rd c (n : Int) ∧ rd c (n : Int) ≤ 2147483647)) = true := by simpa [Deci] using hp.1
  simp only [spec_CutsOk.l0,spec6,Option.bind_some,hw,h6]
  refine ev_pos (by omega) (ev_pos (by omega) (ev_pos trivial ?_))
  by_cases h0 : 0 < n
  ·rw [w64 (x := (n : Int) - 1) (by omega) (by omega)]
   exact ev_pos (by omega) (ev_pos (by omega) (ev_pos (by omega) (ev_neg (by have := hp.2 h0;omega) h)))
  ·exact ev_neg (by omega) h
 ·intro n hn hp
  refine ev_succ ?_
  simp only [spec_CutsOk.l0,spec6,Option.bind_some]
  refine ev_pos (by omega) (ev_pos (by omega) ?_)
  by_cases h6 : Deci (rd c (n : Int))
  ·refine ev_pos (by simpa [Deci] using h6) ?_
   by_cases h0 : 0 < n
   ·rw [w64 (x := (n : Int) - 1) (by omega) (by omega)]
    exact ev_pos (by omega) (ev_pos (by omega) (ev_pos (by omega) (ev_pos (by have : ¬ rd c ((n : Int) - 1) < rd c (n : Int) := fun z => hp ⟨h6,fun _ => z⟩;omega) (Ev.now _))))
   ·exact absurd ⟨h6,fun z => absurd z h0⟩ hp
  ·exact ev_neg (by simpa [Deci] using h6) (Ev.now _)
def rowsIn (b : List (List Int)) : Int := if (b.length : Int) = 0 then 0 else ((b.getD 0 []).length : Int)
theorem specRowsIn (c b : List (List Int)) : spec_RowsIn.f c b = some (rowsIn b) := by
 unfold spec_RowsIn.f rowsIn
 by_cases h : (b.length : Int) = 0
 ·rw [if_pos h,if_pos h]
 ·rw [if_neg h,if_neg h,if_pos (by omega)]
  rfl
theorem implRowsIn (c b : List (List Int)) : impl_RowsIn.f c b = some (rowsIn b) := specRowsIn c b
def RowP (cuts row : List Int) : Prop := ∀ j : Nat,j < row.length → 0 ≤ rd row (j : Int) ∧ rd row (j : Int) ≤ (cuts.length : Int)
def ColP (c b : List (List Int)) (f : Nat) : Prop := CutsP (c.getD f []) ∧ ((b.getD f []).length : Int) = rowsIn b ∧ RowP (c.getD f []) (b.getD f [])
def GridP (c b : List (List Int)) : Prop := (1 ≤ (c.length : Int) ∧ (c.length : Int) ≤ 4) ∧ (b.length : Int) = c.length ∧ (1 ≤ rowsIn b ∧ rowsIn b ≤ 40) ∧ ∀ f : Nat,0 ≤ f → f < c.length → ColP c b f
theorem cond_loop (F : Nat → Int → Option Bool) (L : Nat) (p : Nat → Prop) (r : Bool) (hend : Ev (fun k => F k (L : Int)) r)
  (hyes : ∀ (n : Nat) (s : Bool),n < L → p n → Ev (fun k => F k ((n + 1 : Nat) : Int)) s → Ev (fun k => F k (n : Int)) s)
  (hno : ∀ n : Nat,n < L → ¬ p n → Ev (fun k => F k (n : Int)) false) :
  ∀ (d n : Nat),n + d = L → Ev (fun k => F k (n : Int)) (dec (∀ j,n ≤ j → j < L → p j) && r) := by
 intro d
 induction d with
 | zero =>
  intro n hn
  obtain rfl : n = L := by omega
  rw [dec_true (fun j h1 h2 => by omega)]
  simpa using hend
 | succ d ih =>
  intro n hn
  by_cases h : p n
  ·refine hyes n _ (by omega) h (ev_eq (ih (n + 1) (by omega)) ?_)
   congr 1
   refine dec_congr ⟨fun g j h1 h2 => ?_,fun g j h1 h2 => g j (by omega) h2⟩
   by_cases e : j = n
   ·exact e ▸ h
   ·exact g j (by omega) h2
  ·refine ev_eq (hno n (by omega) h) ?_
   rw [dec_false (fun g => h (g n (Nat.le_refl _) (by omega)))]
   rfl
theorem colP_step {c b : List (List Int)} {n : Nat} (hn : n < c.length) : (∀ j,n ≤ j → j < c.length → ColP c b j) ↔ ColP c b n ∧ ∀ j,n + 1 ≤ j → j < c.length → ColP c b j := by
 constructor
 ·exact fun h => ⟨h n (Nat.le_refl _) hn,fun j h1 h2 => h j (by omega) h2⟩
 ·intro ⟨h0,h⟩ j h1 h2
  by_cases e : j = n
  ·exact e ▸ h0
  ·exact h j (by omega) h2
theorem getD_wt {l : List (List Int)} (h : wt l ≤ 1048576) (n : Nat) : (l.getD n []).length ≤ 1048576 := by
 rw [List.getD_eq_getElem?_getD]
 by_cases hn : n < l.length
 ·rw [List.getElem?_eq_getElem hn]
  have := wt_mem (l := l) (x := l[n]) (List.getElem_mem hn)
  simp only [Option.getD_some]
  omega
 ·rw [List.getElem?_eq_none (by omega)]
  simp
theorem specGrid_l0 (c b : List (List Int)) (hc : wt c ≤ 1048576) (hb : wt b ≤ 1048576) (he : b.length = c.length) : ∀ (d n : Nat),n + d = c.length → Ev (fun k => spec_GridOk.l0 k (n : Int) c b) (dec (∀ j,n ≤ j → j < c.length → ColP c b j)) := by
 have hlc : c.length ≤ 1048576 := by unfold wt at hc;omega
 intro d
 induction d with
 | zero =>
  intro n hn
  refine ev_succ ?_
  simp only [spec_GridOk.l0]
  refine ev_neg (by omega) (ev_eq (Ev.now _) (dec_true (fun j h1 h2 => by omega)).symm)
 | succ d ih =>
  intro n hn
  have go := ih (n + 1) (by omega)
  have g1 := getD_wt hc n
  have g2 := getD_wt hb n
  refine ev_succ ?_
  simp only [spec_GridOk.l0,rdL,Int.toNat_natCast]
  refine ev_pos (by omega) (ev_pos (by omega) (Ev.bind (specCutsOk _ g1) ?_))
  by_cases k1 : CutsP (c.getD n [])
  case neg =>
   rw [dec_false k1]
   refine ev_neg (by simp) (ev_succ ?_)
   simp only [spec_GridOk.j2]
   exact ev_pos trivial (ev_eq (Ev.now _) (dec_false (fun h => k1 (h n (Nat.le_refl _) (by omega)).1)).symm)
  rw [dec_true k1]
  refine ev_pos rfl (ev_pos (by omega) ?_)
  rw [specRowsIn]
  simp only [Option.bind_some]
  refine ev_succ ?_
  simp only [spec_GridOk.j2]
  by_cases k2 : ((b.getD n []).length : Int) = rowsIn b
  case neg => exact ev_pos (bne_iff_ne.2 k2) (ev_eq (Ev.now _) (dec_false (fun h => k2 (h n (Nat.le_refl _) (by omega)).2.1)).symm)
  refine ev_neg (by rw [k2];simp) ?_
  refine ev_eq (cond_loop (fun k i => spec_GridOk.l1 k (n : Int) i c b) (b.getD n []).length (fun j => 0 ≤ rd (b.getD n []) (j : Int) ∧ rd (b.getD n []) (j : Int) ≤ ((c.getD n []).length : Int)) (dec (∀ j,n + 1 ≤ j → j < c.length → ColP c b j)) ?_ ?_ ?_ (b.getD n []).length 0 (by omega)) ?_
  ·refine ev_succ ?_
   simp only [spec_GridOk.l1,rdL,Int.toNat_natCast]
   rw [w64 (x := (n : Int) + 1) (by omega) (by omega)]
   exact ev_pos (by omega) (ev_pos (by omega) (ev_neg (by omega) go))
  ·intro m s hm hp h
   refine ev_succ ?_
   simp only [spec_GridOk.l1,rdL,Int.toNat_natCast,specIn,Option.bind_some]
   refine ev_pos (by omega) (ev_pos (by omega) (ev_pos (by omega) (ev_pos (by omega) (ev_pos (by omega) (ev_pos (decide_eq_true hp) ?_)))))
   rw [w64 (x := (m : Int) + 1) (by omega) (by omega)]
   exact h
  ·intro m hm hp
   refine ev_succ ?_
   simp only [spec_GridOk.l1,rdL,Int.toNat_natCast,specIn,Option.bind_some]
   exact ev_pos (by omega) (ev_pos (by omega) (ev_pos (by omega) (ev_pos (by omega) (ev_pos (by omega) (ev_neg (by simpa using hp) (Ev.now _))))))
  ·rw [dec_congr (colP_step (c := c) (b := b) (n := n) (by omega))]
   by_cases k3 : RowP (c.getD n []) (b.getD n [])
   ·rw [dec_true (fun j _ hj => k3 j hj),Bool.true_and]
    exact dec_congr ⟨fun h => ⟨⟨k1,k2,k3⟩,h⟩,fun h => h.2⟩
   ·rw [dec_false (fun h => k3 (fun j hj => h j (by omega) hj)),Bool.false_and]
    exact (dec_false (fun h => k3 h.1.2.2)).symm
theorem implAny (cuts row : List Int) : impl_GridOk_1.f row cuts = some (!dec (RowP cuts row)) := by
 unfold impl_GridOk_1.f
 congr 1
 by_cases h : RowP cuts row
 ·rw [dec_true h]
  simp only [Bool.not_true,List.any_eq_false]
  intro x hx
  obtain ⟨j,hj,rfl⟩ := List.getElem_of_mem hx
  have := h j hj
  rw [rd_of (List.getElem?_eq_getElem hj)] at this
  simpa using this
 ·rw [dec_false h]
  simp only [Bool.not_false,List.any_eq_true]
  refine Classical.byContradiction fun g => h fun j hj => Classical.byContradiction fun y => g ⟨row[j],List.getElem_mem hj,?_⟩
  rw [rd_of (List.getElem?_eq_getElem hj)] at y
  rw [decide_eq_false y]
  rfl
theorem implGrid_l0 (c b : List (List Int)) (hc : wt c ≤ 1048576) (hb : wt b ≤ 1048576) (he : b.length = c.length) : ∀ (d n : Nat),n + d = c.length → Ev (fun k => impl_GridOk.l0 k c (c.length : Int) (n : Int) c b) (dec (∀ j,n ≤ j → j < c.length → ColP c b j)) := by
 have hlc : c.length ≤ 1048576 := by unfold wt at hc;omega
 intro d
 induction d with
 | zero =>
  intro n hn
  refine ev_succ ?_
  simp only [impl_GridOk.l0]
  refine ev_neg (by omega) (ev_eq (Ev.now _) (dec_true (fun j h1 h2 => by omega)).symm)
 | succ d ih =>
  intro n hn
  have go := ih (n + 1) (by omega)
  have g1 := getD_wt hc n
  have g2 := getD_wt hb n
  refine ev_succ ?_
  simp only [impl_GridOk.l0,rdL,Int.toNat_natCast,implRowsIn,implAny,Option.bind_some]
  rw [dec_congr (colP_step (c := c) (b := b) (n := n) (by omega))]
  refine ev_pos (by omega) (ev_pos (by omega) (ev_pos (by omega) (Ev.bind (implCutsOk _ g1) ?_)))
  by_cases k1 : CutsP (c.getD n [])
  case neg =>
   rw [dec_false k1]
   exact ev_neg (by simp) (ev_eq (Ev.now _) (dec_false (fun h => k1 h.1.1)).symm)
  rw [dec_true k1]
  refine ev_pos rfl (ev_pos (by omega) ?_)
  by_cases k2 : ((b.getD n []).length : Int) = rowsIn b
  case neg => exact ev_neg k2 (ev_eq (Ev.now _) (dec_false (fun h => k2 h.1.2.1)).symm)
  refine ev_pos k2 ?_
  by_cases k3 : RowP (c.getD n []) (b.getD n [])
  ·refine ev_neg (by rw [dec_true k3];simp) ?_
   rw [w64 (x := (n : Int) + 1) (by omega) (by omega)]
   exact ev_eq go (dec_congr ⟨fun h => ⟨⟨k1,k2,k3⟩,h⟩,fun h => h.2⟩)
  ·exact ev_pos (by rw [dec_false k3];rfl) (ev_eq (Ev.now _) (dec_false (fun h => k3 h.1.2.2)).symm)
theorem specGridOk (c b : List (List Int)) (hc : wt c ≤ 1048576) (hb : wt b ≤ 1048576) : Ev (fun k => spec_GridOk.f k c b) (dec (GridP c b)) := by
 unfold spec_GridOk.f GridP
 simp only [specIn,specRowsIn,Option.bind_some]
 have stop : ∀ r : Bool,r = false → Ev (fun k => spec_GridOk.j0 k true c b) r := by
  rintro _ rfl
  refine ev_succ ?_
  simp only [spec_GridOk.j0]
  exact ev_pos trivial (Ev.now _)
 by_cases k1 : 1 ≤ (c.length : Int) ∧ (c.length : Int) ≤ 4
 case neg => exact ev_neg (by simpa using k1) (stop _ (dec_false (fun h => k1 h.1)))
 refine ev_pos (decide_eq_true k1) ?_
 by_cases k2 : (b.length : Int) = c.length
 case neg => exact ev_neg k2 (stop _ (dec_false (fun h => k2 h.2.1)))
 refine ev_pos k2 ?_
 by_cases k3 : 1 ≤ rowsIn b ∧ rowsIn b ≤ 40
 case neg =>
  rw [decide_eq_false k3]
  exact stop _ (dec_false (fun h => k3 h.2.2.1))
 rw [decide_eq_true k3]
 refine ev_succ ?_
 simp only [spec_GridOk.j0]
 exact ev_neg (by simp) (ev_eq (specGrid_l0 c b hc hb (by omega) c.length 0 (by omega)) (dec_congr ⟨fun h => ⟨k1,k2,k3,h⟩,fun h => h.2.2.2⟩))
theorem implGridOk (c b : List (List Int)) (hc : wt c ≤ 1048576) (hb : wt b ≤ 1048576) : Ev (fun k => impl_GridOk.f k c b) (dec (GridP c b)) := by
 unfold impl_GridOk.f GridP
 simp only [implWithin,implRowsIn,Option.bind_some]
 have stop : ∀ r : Bool,r = false → Ev (fun k => impl_GridOk.j0 k true c b) r := by
  rintro _ rfl
  refine ev_succ ?_
  simp only [impl_GridOk.j0]
  exact ev_pos trivial (Ev.now _)
 by_cases k1 : 1 ≤ (c.length : Int) ∧ (c.length : Int) ≤ 4
 case neg => exact ev_neg (by simpa using k1) (stop _ (dec_false (fun h => k1 h.1)))
 refine ev_pos (decide_eq_true k1) ?_
 by_cases k2 : (b.length : Int) = c.length
 case neg => exact ev_neg k2 (stop _ (dec_false (fun h => k2 h.2.1)))
 refine ev_pos k2 ?_
 by_cases k3 : 1 ≤ rowsIn b ∧ rowsIn b ≤ 40
 case neg =>
  rw [decide_eq_false k3]
  exact stop _ (dec_false (fun h => k3 h.2.2.1))
 rw [decide_eq_true k3]
 refine ev_succ ?_
 simp only [impl_GridOk.j0]
 exact ev_neg (by simp) (ev_eq (implGrid_l0 c b hc hb (by omega) c.length 0 (by omega)) (dec_congr ⟨fun h => ⟨k1,k2,k3,h⟩,fun h => h.2.2.2⟩))
def binsOf (c col : List Int) : List Int := col.map (fun v => (less c v : Int))
def gridC (R : List (List Int)) (b : Int) (n : Nat) : List (List Int) := (List.range n).map (fun f : Nat => cutsOf (col (f : Int) R) b)
def gridB (R : List (List Int)) (b : Int) (n : Nat) : List (List Int) := (List.range n).map (fun f : Nat => binsOf (cutsOf (col (f : Int) R) b) (col (f : Int) R))
def GridIn (L : List ByteArray) (t : ByteArray) (R : List (List Int)) (Y : List Int) (b : Int) : Prop := TableP L t R Y ∧ (2 ≤ b ∧ b ≤ 8)
theorem gridC_succ (R : List (List Int)) (b : Int) (n : Nat) : gridC R b (n + 1) = gridC R b n ++ [cutsOf (col (n : Int) R) b] := by
 unfold gridC;rw [List.range_succ,List.map_append];rfl
theorem gridB_succ (R : List (List Int)) (b : Int) (n : Nat) : gridB R b (n + 1) = gridB R b n ++ [binsOf (cutsOf (col (n : Int) R) b) (col (n : Int) R)] := by
 unfold gridB;rw [List.range_succ,List.map_append];rfl
theorem gridC_length (R : List (List Int)) (b : Int) (n : Nat) : (gridC R b n).length = n := by unfold gridC;simp
theorem gridB_length (R : List (List Int)) (b : Int) (n : Nat) : (gridB R b n).length = n := by unfold gridB;simp
theorem gridC_at {R : List (List Int)} {b : Int} {n f : Nat} (h : f < n) : (gridC R b n).getD f [] = cutsOf (col (f : Int) R) b := by
 unfold gridC
 rw [List.getD_eq_getElem?_getD,List.getElem?_map,List.getElem?_range h]
 rfl
theorem gridB_at {R : List (List Int)} {b : Int} {n f : Nat} (h : f < n) : (gridB R b n).getD f [] = binsOf (cutsOf (col (f : Int) R) b) (col (f : Int) R) := by
 unfold gridB
 rw [List.getD_eq_getElem?_getD,List.getElem?_map,List.getElem?_range h]
 rfl
theorem binsOf_length (c l : List Int) : (binsOf c l).length = l.length := List.length_map _
theorem binsOf_succ (c : List Int) {l : List Int} {n : Nat} (h : n < l.length) : binsOf c (l.take (n + 1)) = binsOf c (l.take n) ++ [(less c (rd l (n : Int)) : Int)] := by
 unfold binsOf
 rw [List.take_add_one,List.getElem?_eq_getElem h,List.map_append,rd_of (List.getElem?_eq_getElem h)]
 rfl
theorem wt_le {l : List (List Int)} {m : Nat} (h : ∀ x ∈ l,x.length ≤ m) : wt l ≤ l.length + l.length * m := by
 unfold wt
 induction l with
 | nil => simp
 | cons x l ih =>
  have h1 := h x (List.mem_cons_self ..)
  have h2 := ih (fun y hy => h y (List.mem_cons_of_mem _ hy))
  simp only [List.map_cons,List.sum_cons,List.length_cons]
  rw [Nat.succ_mul]
  omega
theorem gridC_wt (R : List (List Int)) (b : Int) {n : Nat} (h : n ≤ 4) : wt (gridC R b n) ≤ 1000 := by
 have h1 : wt (gridC R b n) ≤ (gridC R b n).length + (gridC R b n).length * 7 := wt_le (fun x hx => by
  unfold gridC at hx
  obtain ⟨f,_,rfl⟩ := List.mem_map.1 hx
  exact cutsOf_length _ _)
 rw [gridC_length] at h1
 omega
theorem gridB_wt (R : List (List Int)) (b : Int) {n : Nat} (h : n ≤ 4) (hR : R.length ≤ 42) : wt (gridB R b n) ≤ 1000 := by
 have h1 : wt (gridB R b n) ≤ (gridB R b n).length + (gridB R b n).length * 42 := wt_le (fun x hx => by
  unfold gridB at hx
  obtain ⟨f,_,rfl⟩ := List.mem_map.1 hx
  rw [binsOf_length,col_length];exact hR)
 rw [gridB_length] at h1
 omega
theorem grid_right {L : List ByteArray} {t : ByteArray} {R : List (List Int)} {Y : List Int} {b : Int} (h : GridIn L t R Y b) : GridP (gridC R b L.length) (gridB R b L.length) ∧ rowsIn (gridB R b L.length) = (R.length : Int) := by
 obtain ⟨⟨p1,p2,p3,p4,p5,p6,p7⟩,q⟩ := h
 have hrows : rowsIn (gridB R b L.length) = (R.length : Int) := by
  unfold rowsIn
  rw [if_neg (by rw [gridB_length];omega),gridB_at (by omega),binsOf_length,col_length]
 refine ⟨⟨by rw [gridC_length];exact p1,by rw [gridB_length,gridC_length],by rw [hrows];exact p4,?_⟩,hrows⟩
 intro f _ hf
 rw [gridC_length] at hf
 have hcol : ∀ x ∈ col (f : Int) R,Deci x := by
  intro x hx
  obtain ⟨j,hj,rfl⟩ := List.getElem_of_mem hx
  rw [col_length] at hj
  have hrow := p7 j (Nat.zero_le _) hj
  have e := rd_col (f : Int) (R := R) (n := j) hj
  rw [rd_of (List.getElem?_eq_getElem (by rw [col_length];exact hj))] at e
  rw [e,cell,if_pos (by rw [hrow.1];omega)]
  exact hrow.2.2 f (Nat.zero_le _) hf
 unfold ColP
 rw [gridC_at hf,gridB_at hf,hrows,binsOf_length,col_length]
 have hl := cutsOf_length (col (f : Int) R) b
 have hs := cutsOf_strict (col (f : Int) R) b
 refine ⟨⟨fun j _ hj => ⟨hcol _ (cutsOf_mem (rd_mem (by omega) (by omega))).1,fun h0 => ?_⟩,hl⟩,rfl,?_⟩
 ·have e : (j : Int) - 1 = ((j - 1 : Nat) : Int) := by omega
  rw [e,rd_of (List.getElem?_eq_getElem (show j - 1 < (cutsOf (col (f : Int) R) b).length by omega)),rd_of (List.getElem?_eq_getElem hj)]
  exact List.pairwise_iff_getElem.1 hs (j - 1) j (by omega) hj (by omega)
 ·intro j hj
  rw [binsOf_length] at hj
  have e : rd (binsOf (cutsOf (col (f : Int) R) b) (col (f : Int) R)) (j : Int) = (less (cutsOf (col (f : Int) R) b) (rd (col (f : Int) R) (j : Int)) : Int) := by
   refine rd_of ?_
   unfold binsOf
   rw [List.getElem?_map,rd_of (List.getElem?_eq_getElem hj),List.getElem?_eq_getElem hj]
   rfl
  rw [e]
  have := less_le (cutsOf (col (f : Int) R) b) (rd (col (f : Int) R) (j : Int))
  omega
open Classical in
noncomputable def gridOf (L : List ByteArray) (t : ByteArray) (R : List (List Int)) (Y : List Int) (b : Int) : List (List Int) × List (List Int) := if GridIn L t R Y b then (gridC R b L.length,gridB R b L.length) else ([],[])
theorem implNameOk_l0 (s : ByteArray) (hl : s.size ≤ 140737488351232) : ∀ (d n : Nat),n + d = s.size → Ev (fun k => impl_NameOk.l0 k s (s.size : Int) (n : Int)) (dec (NameFrom s n ∧ (n = 0 → 0 < s.size → Letter (bt s 0)) ∧ 1 ≤ s.size ∧ s.size ≤ 12)) := by
 intro d
 induction d with
 | zero =>
  intro n hn
  refine ev_end fun k => ?_
  simp only [impl_NameOk.l0,implWithin,Option.bind_some]
  obtain rfl : n = s.size := by omega
  rw [if_neg (by omega),← dec_eq]
  congr 1
  refine dec_congr ⟨fun g => ⟨NameFrom.stop,fun h => by omega,by omega,by omega⟩,fun g => by omega⟩
 | succ d ih =>
  intro n hn
  have hs := NameFrom.step (s := s) (n := n) (by omega)
  have hb := bt_range s (n : Int)
  by_cases h1 : Letter (bt s (n : Int))
  ·have e : dec (NameFrom s n ∧ (n = 0 → 0 < s.size → Letter (bt s 0)) ∧ 1 ≤ s.size ∧ s.size ≤ 12) = dec (NameFrom s (n + 1) ∧ (n + 1 = 0 → 0 < s.size → Letter (bt s 0)) ∧ 1 ≤ s.size ∧ s.size ≤ 12) :=
    dec_congr (by rw [hs];exact ⟨fun g => ⟨g.1.2,fun h => by omega,g.2.2⟩,fun g => ⟨⟨.inl h1,g.1⟩,fun h _ => by subst h;exact h1,g.2.2⟩⟩)
   rw [e]
   refine Ev.step (fun k => ?_) (ih (n + 1) (by omega))
   simp only [impl_NameOk.l0]
   unfold Letter at h1
   rw [if_pos (by omega),if_pos (by omega),if_pos (by omega),if_pos (by omega),if_pos (by omega),w64 (by omega) (by omega)]
   rfl
  ·by_cases h2 : Figure (bt s (n : Int)) ∧ n ≠ 0
   ·have e : dec (NameFrom s n ∧ (n = 0 → 0 < s.size → Letter (bt s 0)) ∧ 1 ≤ s.size ∧ s.size ≤ 12) = dec (NameFrom s (n + 1) ∧ (n + 1 = 0 → 0 < s.size → Letter (bt s 0)) ∧ 1 ≤ s.size ∧ s.size ≤ 12) :=
     dec_congr (by rw [hs];exact ⟨fun g => ⟨g.1.2,fun h => by omega,g.2.2⟩,fun g => ⟨⟨.inr h2.1,g.1⟩,fun h => absurd h h2.2,g.2.2⟩⟩)
    rw [e]
    refine Ev.step (fun k => ?_) (ih (n + 1) (by omega))
    simp only [impl_NameOk.l0]
    unfold Letter at h1
    unfold Figure at h2
    rw [if_pos (by omega),if_pos (by omega),if_pos (by omega)]
    by_cases h3 : bt s (n : Int) ≥ 97
    ·rw [if_pos h3,if_neg (by omega),if_neg (by omega),if_neg (by omega),if_neg (by omega),w64 (by omega) (by omega)]
     rfl
    ·rw [if_neg h3,if_neg (by omega),if_neg (by omega),if_neg (by omega),w64 (by omega) (by omega)]
     rfl
   ·refine ev_end fun k => ?_
    have e : dec (NameFrom s n ∧ (n = 0 → 0 < s.size → Letter (bt s 0)) ∧ 1 ≤ s.size ∧ s.size ≤ 12) = false := dec_false (by
     rw [hs]
     intro ⟨⟨g1,_⟩,g2,_⟩
     by_cases z : n = 0
     ·subst z;exact h1 (g2 rfl (by omega))
     ·exact g1.elim h1 (fun y => h2 ⟨y,z⟩))
    rw [e]
    simp only [impl_NameOk.l0]
    unfold Letter at h1
    unfold Figure at h2
    rw [if_pos (by omega),if_pos (by omega),if_pos (by omega)]
    by_cases z : n = 0
    ·by_cases h3 : bt s (n : Int) ≥ 97
     ·rw [if_pos h3,if_neg (by omega),if_pos (by omega)]
     ·rw [if_neg h3,if_pos (by omega)]
    ·have h4 : bt s (n : Int) < 48 ∨ bt s (n : Int) > 57 := by omega
     by_cases h3 : bt s (n : Int) ≥ 97
     ·rw [if_pos h3,if_neg (by omega),if_neg (by omega),if_neg (by omega),if_pos (by omega)]
     ·rw [if_neg h3,if_neg (by omega)]
      by_cases h5 : bt s (n : Int) < 48
      ·rw [if_pos h5]
      ·rw [if_neg h5,if_pos (by omega)]
theorem implNameOk (s : ByteArray) (hl : s.size ≤ 140737488351232) : Ev (fun k => impl_NameOk.f k s) (dec (IsName s)) := by
 have h := implNameOk_l0 s hl s.size 0 (by omega)
 have e : dec (NameFrom s 0 ∧ ((0 : Nat) = 0 → 0 < s.size → Letter (bt s 0)) ∧ 1 ≤ s.size ∧ s.size ≤ 12) = dec (IsName s) :=
  dec_congr ⟨fun g => ⟨g.2.2.1,g.2.2.2,g.2.1 rfl (by omega),g.1⟩,fun g => ⟨g.2.2.2,fun _ _ => g.2.2.1,g.1,g.2.1⟩⟩
 rw [e] at h
 exact h
theorem implIndexS_l0 (l : List ByteArray) (s : ByteArray) (hl : l.length ≤ 1048576) : ∀ (d n : Nat),n + d = l.length → ∃ r : Int,Ev (fun k => slices_Index_string_string.l0 k l s (l.length : Int) (n : Int)) r ∧ (0 ≤ r ↔ ∃ j,n ≤ j ∧ j < l.length ∧ (sAt l j).toList = s.toList) := by
 intro d
 induction d with
 | zero =>
  intro n hn
  refine ⟨-1,ev_succ ?_,⟨fun h => by omega,fun ⟨j,h1,h2,_⟩ => by omega⟩⟩
  simp only [slices_Index_string_string.l0]
  exact ev_neg (by omega) (Ev.now _)
 | succ d ih =>
  intro n hn
  by_cases h : (sAt l n).toList = s.toList
  ·refine ⟨(n : Int),ev_succ ?_,⟨fun _ => ⟨n,Nat.le_refl _,by omega,h⟩,fun _ => by omega⟩⟩
   simp only [slices_Index_string_string.l0]
   exact ev_pos (by omega) (ev_pos (by omega) (ev_pos (by omega) (ev_pos h.symm (Ev.now _))))
  ·obtain ⟨r,e,hr⟩ := ih (n + 1) (by omega)
   refine ⟨r,ev_succ ?_,hr.trans ⟨fun ⟨j,a,b,c⟩ => ⟨j,by omega,b,c⟩,fun ⟨j,a,b,c⟩ => ⟨j,?_,b,c⟩⟩⟩
   ·simp only [slices_Index_string_string.l0]
    refine ev_pos (by omega) (ev_pos (by omega) (ev_pos (by omega) (ev_neg (fun z => h z.symm) ?_)))
    rw [w64 (x := (n : Int) + 1) (by omega) (by omega)]
    exact e
   ·by_cases e : j = n
    ·exact absurd (e ▸ c) h
    ·omega
theorem implHas (l : List ByteArray) (s : ByteArray) (hl : l.length ≤ 1048576) : Ev (fun k => slices_Contains_string_string.f k l s) (dec (HasP l l.length s)) := by
 unfold slices_Contains_string_string.f slices_Index_string_string.f
 obtain ⟨r,e,hr⟩ := implIndexS_l0 l s hl l.length 0 (by omega)
 refine Ev.bind e (ev_of ?_)
 congr 1
 by_cases h : HasP l l.length s
 ·rw [dec_true h]
  obtain ⟨j,b,c⟩ := h
  exact decide_eq_true (hr.2 ⟨j,Nat.zero_le _,b,c⟩)
 ·rw [dec_false h]
  exact decide_eq_false (fun z => h (by obtain ⟨j,_,b,c⟩ := hr.1 z;exact ⟨j,b,c⟩))
theorem implAreNames (l : List ByteArray) (hl : l.length ≤ 1048576) (hs : ∀ x ∈ l,x.size ≤ 1048576) : Ev (fun k => impl_areNames.f k l) (dec (∀ j,0 ≤ j → j < l.length → NameAt l j)) := by
 unfold impl_areNames.f
 refine ev_eq (all_loop2 (fun k i => impl_areNames.l0 k l l (l.length : Int) i) l.length (NameAt l) True ?_ ?_ ?_ l.length 0 (by omega)) (dec_congr ⟨fun h => h.1,fun h => ⟨h,trivial⟩⟩)
 ·refine ev_succ ?_
  simp only [impl_areNames.l0]
  exact ev_neg (by omega) (ev_eq (Ev.now _) (dec_true trivial).symm)
 ·intro n r hn hp h
  have g := sAt_size hs n
  refine ev_succ ?_
  simp only [impl_areNames.l0,Int.toNat_natCast]
  refine ev_pos (by omega) (ev_pos (by omega) (ev_pos (by omega) (Ev.bind (implNameOk (sAt l n) (by omega)) (ev_pos (dec_true hp.1) (ev_pos (by omega) (Ev.bind (implHas (l.take n) (sAt l n) (by rw [List.length_take];omega)) (ev_neg ?_ ?_)))))))
  ·rw [dec_congr (hasP_take l (by omega) _),dec_false hp.2];decide
  ·rw [w64 (x := (n : Int) + 1) (by omega) (by omega)]
   exact h
 ·intro n hn hp
  have g := sAt_size hs n
  refine ev_succ ?_
  simp only [impl_areNames.l0,Int.toNat_natCast]
  refine ev_pos (by omega) (ev_pos (by omega) (ev_pos (by omega) (Ev.bind (implNameOk (sAt l n) (by omega)) ?_)))
  by_cases a : IsName (sAt l n)
  ·refine ev_pos (dec_true a) (ev_pos (by omega) (Ev.bind (implHas (l.take n) (sAt l n) (by rw [List.length_take];omega)) (ev_pos ?_ (Ev.now _))))
   rw [dec_congr (hasP_take l (by omega) _)]
   exact dec_true (Classical.byContradiction fun z => hp ⟨a,z⟩)
  ·exact ev_neg (by rw [dec_false a];decide) (Ev.now _)
theorem names_app (L : List ByteArray) (t : ByteArray) : (∀ j,0 ≤ j → j < (L ++ [t]).length → NameAt (L ++ [t]) j) ↔ NamesT L ∧ IsName t ∧ ¬ HasP L L.length t := by
 have hh : ∀ (n : Nat) (s : ByteArray),n ≤ L.length → (HasP (L ++ [t]) n s ↔ HasP L n s) := by
  intro n s hn
  unfold HasP
  exact ⟨fun ⟨j,a,b⟩ => ⟨j,a,by rw [sAt_app_lt L t (by omega)] at b;exact b⟩,fun ⟨j,a,b⟩ => ⟨j,a,by rw [sAt_app_lt L t (by omega)];exact b⟩⟩
 have hlen : (L ++ [t]).length = L.length + 1 := by simp
 unfold NamesT NameAt
 rw [hlen]
 constructor
 ·intro h
  refine ⟨fun j h1 h2 => ?_,?_⟩
  ·have := h j h1 (by omega)
   rw [sAt_app_lt L t h2,hh j _ (by omega)] at this
   exact this
  ·have := h L.length (Nat.zero_le _) (by omega)
   rw [sAt_app_eq,hh _ _ (Nat.le_refl _)] at this
   exact this
 ·intro ⟨h,h2⟩ j hj1 hj2
  by_cases e : j < L.length
  ·rw [sAt_app_lt L t e,hh j _ (by omega)]
   exact h j hj1 e
  ·obtain rfl : j = L.length := by omega
   rw [sAt_app_eq,hh _ _ (Nat.le_refl _)]
   exact h2
theorem badP (n : Nat) (row : List Int) : impl_TableOk_1.bad n row = false ↔ ((row.length : Int) = (n : Int) ∧ ∀ i : Nat,0 ≤ i → i < n → Deci (rd row (i : Int))) := by
 by_cases e : (row.length : Int) = (n : Int)
 ·have nn : ((!(row.all impl_TableOk_1.dc)) = false) ↔ row.all impl_TableOk_1.dc = true := by cases row.all impl_TableOk_1.dc <;> simp
  rw [impl_TableOk_1.bad_eq e,nn,List.all_eq_true]
  constructor
  ·intro h
   refine ⟨e,fun i _ hi => ?_⟩
   have := h _ (rd_mem (xs := row) (i := (i : Int)) (by omega) (by omega))
   unfold impl_TableOk_1.dc at this
   have q := of_decide_eq_true this
   exact q
  ·intro h x hx
   obtain ⟨i,hi,rfl⟩ := List.getElem_of_mem hx
   have := h.2 i (Nat.zero_le _) (by omega)
   rw [rd_of (List.getElem?_eq_getElem hi)] at this
   exact decide_eq_true this
 ·rw [impl_TableOk_1.bad_ne e]
  constructor
  ·intro h
   cases h
  ·exact fun h => absurd h.1 e
theorem anyBad (n : Nat) (R : List (List Int)) : R.any (impl_TableOk_1.bad n) = !dec (∀ j : Nat,0 ≤ j → j < R.length → impl_TableOk_1.bad n (R.getD j []) = false) := by
 by_cases h : ∀ j : Nat,0 ≤ j → j < R.length → impl_TableOk_1.bad n (R.getD j []) = false
 ·rw [dec_true h,Bool.not_true,List.any_eq_false]
  intro x hx
  obtain ⟨j,hj,rfl⟩ := List.getElem_of_mem hx
  have := h j (Nat.zero_le _) hj
  rw [List.getD_eq_getElem?_getD,List.getElem?_eq_getElem hj] at this
  simpa using this
 ·rw [dec_false h,Bool.not_false,List.any_eq_true]
  refine Classical.byContradiction fun g => h fun j _ hj => Classical.byContradiction fun y => g ⟨R[j],List.getElem_mem hj,?_⟩
  rw [List.getD_eq_getElem?_getD,List.getElem?_eq_getElem hj] at y
  simpa using y
theorem implTableOk (L : List ByteArray) (t : ByteArray) (R : List (List Int)) (Y : List Int) (hL : L.length ≤ 1048576) (hs : ∀ x ∈ L,x.size ≤ 1048576) (ht : t.size ≤ 1048576) (hR : R.length ≤ 1048576) (hY : Y.length ≤ 1048576) : Ev (fun k => impl_TableOk.f k L t R Y) (dec (TableP L t R Y)) := by
 unfold impl_TableOk.f TableP
 have cl : slices_Clone_string_string.f L = some L := by
  unfold slices_Clone_string_string.f
  exact if_pos (by omega)
 simp only [implWithin,cl,Option.bind_some,impl_TableOk_1.f]
 by_cases k1 : 1 ≤ (L.length : Int) ∧ (L.length : Int) ≤ 4
 case neg => exact ev_neg (by rw [decide_eq_false k1];decide) (ev_eq (Ev.now _) (dec_false (fun h => k1 h.1)).symm)
 have hlen : (L ++ [t]).length = L.length + 1 := by simp
 refine ev_pos (decide_eq_true k1) (ev_pos (by rw [List.length_singleton];omega) (Ev.bind (implAreNames (L ++ [t]) (by omega) ?_) ?_))
 ·intro x hx
  rcases List.mem_append.1 hx with h | h
  ·exact hs x h
  ·obtain rfl := List.mem_singleton.1 h
   exact ht
 rw [dec_congr (names_app L t)]
 by_cases k2 : NamesT L ∧ IsName t ∧ ¬ HasP L L.length t
 case neg => exact ev_neg (by rw [dec_false k2];decide) (ev_eq (Ev.now _) (dec_false (fun h => k2 ⟨h.2.2.2.2.2.1,h.2.1,h.2.2.1⟩)).symm)
 refine ev_pos (dec_true k2) ?_
 by_cases k4 : 1 ≤ (R.length : Int) ∧ (R.length : Int) ≤ 40
 case neg => exact ev_neg (by rw [decide_eq_false k4];decide) (ev_eq (Ev.now _) (dec_false (fun h => k4 h.2.2.2.1)).symm)
 refine ev_pos (decide_eq_true k4) ?_
 by_cases k5 : (Y.length : Int) = (R.length : Int)
 case neg => exact ev_neg k5 (ev_eq (Ev.now _) (dec_false (fun h => k5 h.2.2.2.2.1)).symm)
 refine ev_pos k5 (Ev.bind (implAreDec Y hY) ?_)
 by_cases k6 : ∀ j : Nat,j < Y.length → Deci (rd Y (j : Int))
 case neg => exact ev_neg (by rw [dec_false k6];decide) (ev_eq (Ev.now _) (dec_false (fun h => k6 (fun j hj => (h.2.2.2.2.2.2 j (Nat.zero_le _) (by omega)).2.1))).symm)
 refine ev_pos (dec_true k6) (ev_of ?_)
 congr 1
 rw [anyBad,Bool.not_not]
 refine dec_congr ⟨fun h => ⟨k1,k2.2.1,k2.2.2,k4,k5,k2.1,fun j h1 h2 => ?_⟩,fun h j h1 h2 => ?_⟩
 ·have := (badP _ _).1 (h j h1 h2)
  exact ⟨this.1,k6 j (by omega),this.2⟩
 ·have := h.2.2.2.2.2.2 j h1 h2
  exact (badP _ _).2 ⟨this.1,this.2.2⟩
theorem implColumn (L : List ByteArray) (t : ByteArray) (R : List (List Int)) (Y : List Int) (f : Int) (hL : L.length ≤ 1048576) (hR : R.length ≤ 1048576) : Ev (fun k => impl_Column.f k L t R Y f) (colOf L R f) := by
 unfold impl_Column.f
 simp only [Option.bind_some,implWithin]
 rw [w64 (x := (L.length : Int) - 1) (by omega) (by omega)]
 unfold colOf
 by_cases g : 0 ≤ f ∧ f ≤ (L.length : Int) - 1
 ·rw [if_pos g]
  refine ev_pos (decide_eq_true g) (fold_loop (fun k (s : List Int) i => impl_Column.l0 k f s R (R.length : Int) i) R.length (fun n => col f (R.take n)) _ ?_ ?_ R.length 0 (by omega))
  ·refine ev_succ ?_
   simp only [impl_Column.l0,col_all]
   exact ev_neg (by omega) (Ev.now _)
  ·intro n hn h
   have hc := col_take_length f R n
   rw [col_succ f hn] at h
   refine ev_succ ?_
   simp only [impl_Column.l0,rdL,Int.toNat_natCast]
   rw [w64 (x := (n : Int) + 1) (by omega) (by omega)]
   refine ev_pos (by omega) (ev_pos (by omega) (ev_pos (by omega) ?_))
   by_cases c : f < ((R.getD n []).length : Int)
   ·rw [cell,if_pos c] at h
    exact ev_pos c (ev_pos g.1 (ev_pos (by omega) h))
   ·rw [cell,if_neg c] at h
    exact ev_neg c (ev_pos (by omega) h)
 ·rw [if_neg g]
  exact ev_neg (by rw [decide_eq_false g];decide) (Ev.now _)
theorem ddFrom_snoc (p : Int) (l : List Int) (x : Int) : ddFrom p (l ++ [x]) = ddFrom p l ++ (if x = (l.getLast?).getD p then [] else [x]) := by
 induction l generalizing p with
 | nil =>
  by_cases h : x = p <;> simp [ddFrom,h]
 | cons y l ih =>
  have e : ((y :: l).getLast?).getD p = (l.getLast?).getD y := by
   rw [List.getLast?_cons]
   rfl
  simp only [List.cons_append,ddFrom]
  rw [e]
  by_cases h : y = p
  ·subst h
   rw [if_pos rfl,if_pos rfl,ih]
  ·rw [if_neg h,if_neg h,ih,List.cons_append]
theorem compactUpTo_dd (l : List Int) : ∀ m,m ≤ l.length → Lib.compactUpTo l.toArray m = dd (l.take m) := by
 intro m
 induction m with
 | zero => intro _;simp [Lib.compactUpTo,dd]
 | succ m ih =>
  intro h
  rw [Lib.compactUpTo_succ,ih (by omega),List.take_succ_eq_append_getElem (by omega)]
  have em : (l.toArray)[m]! = l[m] := by simp [getElem!_pos,show m < l.length by omega]
  rw [em]
  cases m with
  | zero => simp [dd,Lib.keeps,ddFrom]
  | succ k =>
   have ek : (l.toArray)[k + 1 - 1]! = l[k] := by simp [getElem!_pos,show k < l.length by omega]
   obtain ⟨y,ys,hy⟩ : ∃ y ys,l.take (k + 1) = y :: ys := by
    cases hl : l.take (k + 1) with
    | nil => have := congrArg List.length hl;simp at this;subst this;simp at h
    | cons y ys => exact ⟨y,ys,rfl⟩
   have hlast : (ys.getLast?).getD y = l[k] := by
    have : (l.take (k + 1)).getLast? = some l[k] := by
     rw [List.take_succ_eq_append_getElem (by omega),List.getLast?_concat]
    rw [hy,List.getLast?_cons] at this
    simpa using this
   rw [hy]
   simp only [List.cons_append,dd]
   rw [ddFrom_snoc,hlast]
   congr 2
   by_cases c : l[k + 1] = l[k]
   ·rw [if_pos c,Lib.keeps_neg (by omega) (by rw [em,ek,c])]
    rfl
   ·rw [if_neg c,Lib.keeps_pos (by rw [em,ek];exact c)]
    rfl
theorem compact_eq (l : List Int) : Lib.compact l = dd l := by
 unfold Lib.compact
 rw [compactUpTo_dd l _ (Nat.le_refl _),List.take_length]
theorem implCompact (l : List Int) (hl : l.length ≤ 1048576) : slices_Compact_int_int.f l = some (dd l) := by
 unfold slices_Compact_int_int.f
 rw [if_pos (by omega),compact_eq]
theorem msort_eq (l : List Int) : l.mergeSort (fun x y => decide (x ≤ y)) = isort l := by
 refine List.Perm.eq_of_pairwise (le := fun a b => a ≤ b) (fun a b _ _ h1 h2 => Int.le_antisymm h1 h2) ?_ (isort_asc l) ((List.mergeSort_perm l _).trans (isort_perm l).symm)
 refine (List.pairwise_mergeSort (le := fun x y : Int => decide (x ≤ y)) (fun a b c h1 h2 => ?_) (fun a b => ?_) l).imp (fun h => by simpa using h)
 ·simp only [decide_eq_true_eq] at *;omega
 ·simp only [Bool.or_eq_true,decide_eq_true_eq];omega
theorem implSortB (l : List Int) (hl : l.length ≤ 4194304) : impl_SortInts.f l = some (isort l) := by
 unfold impl_SortInts.f slices_Clone_int_int.f slices_Sort_int_int.f
 rw [if_pos (by omega)]
 simp only [Option.bind_some]
 rw [if_pos (by omega),msort_eq]
 rfl
theorem implSort (l : List Int) (hl : l.length ≤ 1048576) : impl_SortInts.f l = some (isort l) := implSortB l (by omega)
theorem implCuts_l0 (l all : List Int) (b : Nat) (hl : l.length = all.length) (h1 : 1 ≤ all.length) (h2 : all.length ≤ 40) (hb : 2 ≤ b) (hb8 : b ≤ 8) (hs : Asc all) : ∀ d m : Nat,m + 1 + d = b →
  Ev (fun k => impl_CutsOf.l0 k l (b : Int) (raw all b m) all ((m + 1 : Nat) : Int)) (dd (raw all b (b - 1))) := by
 intro d
 induction d with
 | zero =>
  intro m hm
  obtain rfl : b = m + 1 := by omega
  refine ev_succ ?_
  simp only [impl_CutsOf.l0]
  have hlen := raw_length all (m + 1) m
  refine ev_neg (by omega) ?_
  rw [implCompact _ (by omega)]
  exact Ev.now _
 | succ d ih =>
  intro m hm
  have go := ih (m + 1) (by omega)
  have E := bord_int (n := all.length) (b := b) (m := m + 1) h2 (by omega) hb8 (by omega)
  rw [← hl] at E
  have hle := bord_le (n := all.length) (b := b) (k := m + 1) (by omega) (by omega)
  have hlen := raw_length all b m
  have ew : wrap64 (((m + 1 : Nat) : Int) + 1) = ((m + 1 + 1 : Nat) : Int) := w64 (by omega) (by omega)
  have er : raw all b (m + 1) = raw all b m ++ pick all b (m + 1) := rfl
  rw [er] at go
  unfold pick at go
  rw [hl] at E
  generalize hi : bord all.length b (m + 1) = i at *
  rw [← hl] at E
  refine ev_succ ?_
  simp only [impl_CutsOf.l0,E,ew]
  refine ev_pos (by omega) (ev_neg (by omega) ?_)
  by_cases g1 : 1 ≤ i
  ·have E2 : wrap64 ((i : Int) - 1) = ((i - 1 : Nat) : Int) := by rw [w64 (by omega) (by omega)];omega
   have E3 : wrap64 ((all.length : Int) - 1) = ((all.length - 1 : Nat) : Int) := by rw [w64 (by omega) (by omega)];omega
   have hmax : rd all ((i - 1 : Nat) : Int) ≤ rd all ((all.length - 1 : Nat) : Int) := asc_rd hs (by omega) (by omega)
   simp only [E2,E3]
   refine ev_pos (by omega) (ev_pos (by omega) (ev_pos (by omega) (ev_pos (by omega) (ev_pos (by omega) ?_))))
   by_cases g2 : rd all ((i - 1 : Nat) : Int) < rd all ((all.length - 1 : Nat) : Int)
   ·rw [if_pos ⟨g1,g2⟩] at go
    exact ev_neg (by omega) (ev_pos (by omega) go)
   ·rw [if_neg (fun h => g2 h.2),List.append_nil] at go
    exact ev_pos (by omega) go
  ·rw [if_neg (fun h => g1 h.1),List.append_nil] at go
   exact ev_neg (by omega) go
theorem implCuts (l : List Int) (b : Int) (hl : l.length ≤ 1048576) : Ev (fun k => impl_CutsOf.f k l b) (cutsOf l b) := by
 unfold impl_CutsOf.f cutsOf
 rw [implWithin]
 simp only [Option.bind_some]
 by_cases hb : 2 ≤ b ∧ b ≤ 8
 ·refine ev_pos (decide_eq_true hb) ?_
  rw [implWithin]
  simp only [Option.bind_some]
  refine ev_succ ?_
  simp only [impl_CutsOf.j0]
  by_cases hn : 1 ≤ l.length ∧ l.length ≤ 40
  ·rw [if_pos ⟨hb,hn⟩]
   refine ev_neg (by simp;omega) ?_
   have hs := isort_length l
   rw [implSort l hl]
   simp only [Option.bind_some]
   have := implCuts_l0 l (isort l) b.toNat hs.symm (by omega) (by omega) (by omega) (by omega) (isort_asc l) (b.toNat - 1) 0 (by omega)
   rw [Int.toNat_of_nonneg (by omega)] at this
   exact this
  ·rw [if_neg (fun h => hn h.2)]
   exact ev_pos (by simp;omega) (Ev.now _)
 ·rw [if_neg (fun h => hb h.1)]
  refine ev_neg (by simpa using hb) (ev_succ ?_)
  simp only [impl_CutsOf.j0]
  exact ev_pos trivial (Ev.now _)
theorem implBinOf_l0 (l : List Int) (v : Int) (hl : l.length ≤ 35184372088832) : ∀ (d n c : Nat),n + d = l.length → c ≤ n → Ev (fun k => impl_BinOf.l0 k v (c : Int) l (l.length : Int) (n : Int)) ((c + less (l.drop n) v : Nat) : Int) := by
 intro d
 induction d with
 | zero =>
  intro n c hn hc
  refine ev_end fun k => ?_
  simp only [impl_BinOf.l0]
  obtain rfl : n = l.length := by omega
  rw [if_neg (by omega),List.drop_length]
  simp [less]
 | succ d ih =>
  intro n c hn hc
  rw [rd_drop (by omega),less_cons]
  by_cases h : rd l (n : Int) < v
  ·have := ih (n + 1) (c + 1) (by omega) (by omega)
   rw [if_pos h,show c + (less (l.drop (n + 1)) v + 1) = c + 1 + less (l.drop (n + 1)) v from by omega]
   refine Ev.step (fun k => ?_) this
   simp only [impl_BinOf.l0]
   rw [if_pos (by omega),if_pos (by omega),if_pos (by omega),if_pos h,w64 (by omega) (by omega),w64 (by omega) (by omega)]
   rfl
  ·have := ih (n + 1) c (by omega) (by omega)
   rw [if_neg h]
   refine Ev.step (fun k => ?_) this
   simp only [impl_BinOf.l0]
   rw [if_pos (by omega),if_pos (by omega),if_pos (by omega),if_neg h,w64 (by omega) (by omega)]
   rfl
theorem implBinOf (l : List Int) (v : Int) (hl : l.length ≤ 35184372088832) : Ev (fun k => impl_BinOf.f k l v) (less l v : Int) := by
 have := implBinOf_l0 l v hl l.length 0 0 (by omega) (by omega)
 rw [Nat.zero_add] at this
 exact this
theorem implGrid_l1 (L : List ByteArray) (t : ByteArray) (R : List (List Int)) (Y : List Int) (b : Int) (c x : List Int) (f : Nat) (C B : List (List Int)) (hc : c.length ≤ 7) (hx : x.length ≤ 1048576) (hf : f ≤ 4) (hC : C.length ≤ 4) (hB : B.length ≤ 4) {r : List (List Int) × List (List Int)}
  (next : Ev (fun k => impl_GridOf.l0 k b (L.length : Int) ((f + 1 : Nat) : Int) L t R Y (C ++ [c]) (B ++ [binsOf c x])) r) : Ev (fun k => impl_GridOf.l1 k b [] c (L.length : Int) (f : Int) x (x.length : Int) 0 L t R Y C B) r := by
 refine fold_loop (fun k (s : List Int) i => impl_GridOf.l1 k b s c (L.length : Int) (f : Int) x (x.length : Int) i L t R Y C B) x.length (fun n => binsOf c (x.take n)) r ?_ ?_ x.length 0 (by omega)
 ·refine ev_succ ?_
  simp only [impl_GridOf.l1,List.take_length,Option.bind_some,List.length_cons,List.length_nil]
  rw [w64 (x := (f : Int) + 1) (by omega) (by omega)]
  exact ev_neg (by omega) (ev_pos (by omega) (ev_pos (by omega) next))
 ·intro n hn h
  have hl : (binsOf c (x.take n)).length ≤ 1048576 := by rw [binsOf_length,List.length_take];omega
  rw [binsOf_succ c hn] at h
  refine ev_succ ?_
  simp only [impl_GridOf.l1]
  rw [w64 (x := (n : Int) + 1) (by omega) (by omega)]
  refine ev_pos (by omega) (ev_pos (by omega) (ev_pos (by omega) (Ev.bind (implBinOf c _ (by omega)) ?_)))
  simp only [Option.bind_some,List.length_cons,List.length_nil]
  exact ev_pos (by omega) h
theorem implGridOf (L : List ByteArray) (t : ByteArray) (R : List (List Int)) (Y : List Int) (b : Int) (hL : L.length ≤ 1048576) (hs : ∀ x ∈ L,x.size ≤ 1048576) (ht : t.size ≤ 1048576) (hRl : R.length ≤ 1048576) (hY : Y.length ≤ 1048576) : Ev (fun k => impl_GridOf.f k L t R Y b) (gridOf L t R Y b) := by
 have stop : ∀ r,r = ([],[]) → Ev (fun k => impl_GridOf.j0 k b true L t R Y) r := by
  rintro _ rfl
  refine ev_succ ?_
  simp only [impl_GridOf.j0]
  exact ev_pos trivial (Ev.now _)
 unfold impl_GridOf.f gridOf
 refine Ev.bind (implTableOk L t R Y hL hs ht hRl hY) ?_
 by_cases k1 : TableP L t R Y
 case neg => exact ev_neg (by rw [dec_false k1];decide) (stop _ (if_neg (fun h => k1 h.1)))
 refine ev_pos (dec_true k1) ?_
 simp only [implWithin,Option.bind_some]
 by_cases k2 : 2 ≤ b ∧ b ≤ 8
 case neg => rw [decide_eq_false k2];exact stop _ (if_neg (fun h => k2 h.2))
 rw [decide_eq_true k2,if_pos ⟨k1,k2⟩]
 have hn := k1.1
 refine ev_succ ?_
 simp only [impl_GridOf.j0]
 refine ev_neg (by decide) ?_
 refine fold_loop (fun k (s : List (List Int) × List (List Int)) i => impl_GridOf.l0 k b (L.length : Int) i L t R Y s.1 s.2) L.length (fun n => (gridC R b n,gridB R b n)) _ ?_ ?_ L.length 0 (by omega)
 ·refine ev_succ ?_
  simp only [impl_GridOf.l0]
  exact ev_neg (by omega) (Ev.now _)
 ·intro n hn' h
  have e : colOf L R (n : Int) = col (n : Int) R := if_pos ⟨by omega,by omega⟩
  simp only [gridC_succ,gridB_succ] at h
  refine ev_succ ?_
  simp only [impl_GridOf.l0]
  refine ev_pos (by omega) (Ev.bind (ev_eq (implColumn L t R Y (n : Int) hL hRl) e) (Ev.bind (implCuts _ b (by rw [col_length];exact hRl)) ?_))
  exact implGrid_l1 L t R Y b _ _ n _ _ (cutsOf_length _ _) (by rw [col_length];exact hRl) (by omega) (by rw [gridC_length];omega) (by rw [gridB_length];omega) h
theorem specColumn (L : List ByteArray) (t : ByteArray) (R : List (List Int)) (Y : List Int) (f : Int) (hL : L.length ≤ 1048576) (hR : R.length ≤ 1048576) : Ev (fun k => spec_Column.f k L t R Y f) (colOf L R f) := by
 unfold spec_Column.f
 have hw : wrap64 ((L.length : Int) - 1) = (L.length : Int) - 1 := w64 (by omega) (by omega)
 have stop : ∀ (s : List Int) (n : Int),Ev (fun k => spec_Column.j1 k f s n false L t R Y) s := by
  intro s n
  refine ev_succ ?_
  simp only [spec_Column.j1]
  exact ev_neg (by decide) (Ev.now _)
 unfold colOf
 by_cases g : 0 ≤ f ∧ f ≤ (L.length : Int) - 1
 ·rw [if_pos g]
  refine fold_loop (fun k (s : List Int) i => spec_Column.l0 k f s i L t R Y) R.length (fun n => col f (R.take n)) _ ?_ ?_ R.length 0 (by omega)
  ·refine ev_succ ?_
   simp only [spec_Column.l0,col_all]
   exact ev_neg (by omega) (stop _ _)
  ·intro n hn h
   have hc := col_take_length f R n
   rw [col_succ f hn] at h
   refine ev_succ ?_
   simp only [spec_Column.l0,specIn,Option.bind_some,hw]
   rw [decide_eq_true g]
   refine ev_pos (by omega) (ev_succ ?_)
   simp only [spec_Column.j1,rdL,Int.toNat_natCast]
   rw [w64 (x := (n : Int) + 1) (by omega) (by omega)]
   refine ev_pos trivial (ev_pos (by omega) (ev_pos (by omega) ?_))
   by_cases c : f < ((R.getD n []).length : Int)
   ·rw [cell,if_pos c] at h
    exact ev_pos c (ev_pos g.1 (ev_pos (by omega) h))
   ·rw [cell,if_neg c] at h
    exact ev_neg c (ev_pos (by omega) h)
 ·rw [if_neg g]
  refine ev_succ ?_
  simp only [spec_Column.l0,specIn,Option.bind_some,hw]
  rw [decide_eq_false g]
  by_cases c : (0 : Int) < (R.length : Int)
  ·exact ev_pos c (stop _ _)
  ·exact ev_neg c (stop _ _)
theorem specSort_l1 (l : List Int) (hl : l.length ≤ 4194304) (n : Nat) (hn : n < l.length) (out : List Int) (ho : out.length = n) (hs : Asc out) (r : List Int)
  (go : Ev (fun k => spec_SortInts.l0 k l (ins out (rd l (n : Int))) ((n + 1 : Nat) : Int)) r) : ∀ p : Nat,p ≤ out.length → (∀ y ∈ out.drop p,rd l (n : Int) < y) →
  Ev (fun k => spec_SortInts.l1 k l out (n : Int) (p : Int)) r := by
 have hw : wrap64 ((n : Int) + 1) = ((n + 1 : Nat) : Int) := w64 (by omega) (by omega)
 intro p
 induction p with
 | zero =>
  intro hp hb
  refine ev_succ ?_
  have e := parts_at hs hp hb (fun y hy => by simp at hy)
  simp only [spec_SortInts.l1,Option.bind_some,hw]
  rw [e] at go
  refine ev_neg (by omega) (ev_pos (by omega) (ev_pos (by omega) (ev_pos (by simp <;> omega) (ev_pos (by omega) (ev_pos (by omega) (ev_pos (by simp <;> omega) (ev_pos (by simp <;> omega) ?_)))))))
  simpa using go
 | succ p ih =>
  intro hp hb
  refine ev_succ ?_
  have em : (((p + 1 : Nat) : Int) - 1) = (p : Int) := by omega
  have hx : out[p]? = some out[p] := List.getElem?_eq_getElem (by omega)
  have d1 : out.drop p = out[p] :: out.drop (p + 1) := List.drop_eq_getElem_cons (by omega)
  have hwp : wrap64 ((p : Int)) = (p : Int) := w64 (by omega) (by omega)
  simp only [spec_SortInts.l1,Option.bind_some,hw,em,hwp,rd_of hx]
  refine ev_pos (by omega) (ev_pos (by omega) (ev_pos (by omega) (ev_pos (by omega) (ev_pos (by omega) ?_))))
  by_cases g : out[p] > rd l (n : Int)
  ·refine ev_pos g (ih (by omega) ?_)
   intro y hy
   rw [d1,List.mem_cons] at hy
   rcases hy with rfl | hy
   ·exact g
   ·exact hb y hy
  ·have e := parts_at hs hp hb (fun y hy => by
    obtain ⟨i,hi,rfl⟩ := List.getElem_of_mem hy
    simp only [List.length_take] at hi
    rw [List.getElem_take]
    by_cases c : i = p
    ·subst c;omega
    ·have := List.pairwise_iff_getElem.1 hs i p (by omega) (by omega) (by omega)
     omega)
   rw [e] at go
   refine ev_neg g (ev_pos (by omega) (ev_pos (by omega) (ev_pos (by simp <;> omega) (ev_pos (by simp <;> omega) (ev_pos (by simp <;> omega) ?_)))))
   have et : (((p + 1 : Nat) : Int)).toNat = p + 1 := by omega
   simp only [et]
   simpa using go
theorem specSort_l0 (l : List Int) (hl : l.length ≤ 4194304) : ∀ (d n : Nat) (out : List Int),n + d = l.length → out.length = n → Asc out → Ev (fun k => spec_SortInts.l0 k l out (n : Int)) ((l.drop n).foldl ins out) := by
 intro d
 induction d with
 | zero =>
  intro n out hn ho hs
  obtain rfl : n = l.length := by omega
  refine ev_succ ?_
  simp only [spec_SortInts.l0]
  refine ev_neg (by omega) (ev_of ?_)
  rw [List.drop_length]
  rfl
 | succ d ih =>
  intro n out hn ho hs
  refine ev_succ ?_
  simp only [spec_SortInts.l0]
  refine ev_pos (by omega) ?_
  rw [rd_drop (by omega),List.foldl_cons]
  exact specSort_l1 l hl n (by omega) out ho hs _ (ih (n + 1) _ (by omega) (by rw [ins_length,ho]) (ins_asc hs _)) out.length (Nat.le_refl _) (by simp)
theorem specSortB (l : List Int) (hl : l.length ≤ 4194304) : Ev (fun k => spec_SortInts.f k l) (isort l) :=
 specSort_l0 l hl l.length 0 [] (by omega) rfl List.Pairwise.nil
theorem specSort (l : List Int) (hl : l.length ≤ 1048576) : Ev (fun k => spec_SortInts.f k l) (isort l) := specSortB l (by omega)
theorem specDistinct_l0 (all : List Int) (hl : all.length ≤ 1048576) : ∀ (d n : Nat) (out : List Int),n + 1 + d = all.length → out.length ≤ n + 1 → Ev (fun k => spec_Distinct.l0 k out all ((n + 1 : Nat) : Int)) (out ++ ddFrom (rd all (n : Int)) (all.drop (n + 1))) := by
 intro d
 induction d with
 | zero =>
  intro n out hn ho
  refine ev_succ ?_
  simp only [spec_Distinct.l0]
  refine ev_neg (by omega) (ev_of ?_)
  rw [show n + 1 = all.length from by omega,List.drop_length]
  simp [ddFrom]
 | succ d ih =>
  intro n out hn ho
  refine ev_succ ?_
  have em : (((n + 1 : Nat) : Int) - 1) = (n : Int) := by omega
  have hwn : wrap64 ((n : Int)) = (n : Int) := w64 (by omega) (by omega)
  have hw : wrap64 (((n + 1 : Nat) : Int) + 1) = ((n + 1 + 1 : Nat) : Int) := w64 (by omega) (by omega)
  simp only [spec_Distinct.l0,em,hwn,hw]
  refine ev_pos (by omega) (ev_neg (by omega) (ev_pos (by omega) (ev_pos (by omega) (ev_pos (by omega) ?_))))
  rw [rd_drop (show n + 1 < all.length from by omega)]
  simp only [ddFrom]
  by_cases e : rd all ((n + 1 : Nat) : Int) = rd all (n : Int)
  ·refine ev_pos e (ev_eq (ih (n + 1) out (by omega) (by omega)) ?_)
   rw [if_pos e,e]
  ·refine ev_neg e (ev_pos (by omega) (ev_eq (ih (n + 1) _ (by omega) (by simp;omega)) ?_))
   rw [if_neg e]
   simp
theorem specDistinct (l : List Int) (hl : l.length ≤ 1048576) : Ev (fun k => spec_Distinct.f k l) (dd (isort l)) := by
 unfold spec_Distinct.f
 refine Ev.bind (specSort l hl) ?_
 have hlen := isort_length l
 generalize isort l = all at *
 cases all with
 | nil =>
  refine ev_succ ?_
  simp only [spec_Distinct.l0]
  exact ev_neg (by simp) (Ev.now _)
 | cons x all =>
  refine ev_succ ?_
  simp only [spec_Distinct.l0]
  refine ev_pos (by simp <;> omega) (ev_pos trivial (ev_pos (by omega) (ev_pos (by simp) ?_)))
  simp only [List.length_cons] at hlen
  have hw : wrap64 (0 + 1) = ((0 + 1 : Nat) : Int) := w64 (by omega) (by omega)
  rw [hw]
  refine ev_eq (specDistinct_l0 (x :: all) (by simp <;> omega) all.length 0 ([] ++ [rd (x :: all) 0]) (by simp <;> omega) (by simp)) ?_
  simp [dd,rd]
theorem specCuts_l0 (all : List Int) (b : Nat) (h1 : 1 ≤ all.length) (h2 : all.length ≤ 40) (hb : 2 ≤ b) (hb8 : b ≤ 8) (hs : Asc all) : ∀ d m : Nat,m + 1 + d = b →
  Ev (fun k => spec_CutsOf.l0 k (b : Int) (all.length : Int) all (raw all b m) ((m + 1 : Nat) : Int)) (dd (raw all b (b - 1))) := by
 intro d
 induction d with
 | zero =>
  intro m hm
  obtain rfl : b = m + 1 := by omega
  refine ev_succ ?_
  simp only [spec_CutsOf.l0]
  have hlen := raw_length all (m + 1) m
  have ha := raw_asc hs (show 0 < m + 1 by omega) m (by omega)
  refine ev_neg (by omega) (Ev.bind (specDistinct _ (by omega)) ?_)
  rw [isort_of_asc ha]
  exact Ev.now _
 | succ d ih =>
  intro m hm
  have go := ih (m + 1) (by omega)
  have E := bord_int (n := all.length) (b := b) (m := m + 1) h2 (by omega) hb8 (by omega)
  have hle := bord_le (n := all.length) (b := b) (k := m + 1) (by omega) (by omega)
  have hlen := raw_length all b m
  have ew : wrap64 (((m + 1 : Nat) : Int) + 1) = ((m + 1 + 1 : Nat) : Int) := w64 (by omega) (by omega)
  have er : raw all b (m + 1) = raw all b m ++ pick all b (m + 1) := rfl
  rw [er] at go
  unfold pick at go
  generalize bord all.length b (m + 1) = i at *
  refine ev_succ ?_
  simp only [spec_CutsOf.l0,E,ew]
  refine ev_pos (by omega) (ev_neg (by omega) ?_)
  by_cases g1 : 1 ≤ i
  ·have E2 : wrap64 ((i : Int) - 1) = ((i - 1 : Nat) : Int) := by rw [w64 (by omega) (by omega)];omega
   have E3 : wrap64 ((all.length : Int) - 1) = ((all.length - 1 : Nat) : Int) := by rw [w64 (by omega) (by omega)];omega
   simp only [E2,E3]
   refine ev_pos (by omega) (ev_pos (by omega) (ev_pos (by omega) (ev_pos (by omega) (ev_pos (by omega) ?_))))
   by_cases g2 : rd all ((i - 1 : Nat) : Int) < rd all ((all.length - 1 : Nat) : Int)
   ·rw [if_pos ⟨g1,g2⟩] at go
    exact ev_pos g2 (ev_pos (by omega) go)
   ·rw [if_neg (fun h => g2 h.2),List.append_nil] at go
    exact ev_neg g2 go
  ·rw [if_neg (fun h => g1 h.1),List.append_nil] at go
   exact ev_neg (by omega) go
theorem specCuts (l : List Int) (b : Int) (hl : l.length ≤ 1048576) : Ev (fun k => spec_CutsOf.f k l b) (cutsOf l b) := by
 unfold spec_CutsOf.f cutsOf
 rw [specIn]
 simp only [Option.bind_some]
 by_cases hb : 2 ≤ b ∧ b ≤ 8
 ·refine ev_pos (decide_eq_true hb) ?_
  rw [specIn]
  simp only [Option.bind_some]
  refine ev_succ ?_
  simp only [spec_CutsOf.j0]
  by_cases hn : 1 ≤ l.length ∧ l.length ≤ 40
  ·rw [if_pos ⟨hb,hn⟩]
   refine ev_neg (by simp;omega) (Ev.bind (specSort l hl) ?_)
   have hs := isort_length l
   have := specCuts_l0 (isort l) b.toNat (by omega) (by omega) (by omega) (by omega) (isort_asc l) (b.toNat - 1) 0 (by omega)
   rw [hs,Int.toNat_of_nonneg (by omega)] at this
   exact this
  ·rw [if_neg (fun h => hn h.2)]
   exact ev_pos (by simp;omega) (Ev.now _)
 ·rw [if_neg (fun h => hb h.1)]
  refine ev_neg (by simpa using hb) (ev_succ ?_)
  simp only [spec_CutsOf.j0]
  exact ev_pos trivial (Ev.now _)
theorem specBinOf_l0 (l : List Int) (v : Int) (hl : l.length ≤ 35184372088832) : ∀ (d n c : Nat),n + d = l.length → c ≤ n → Ev (fun k => spec_BinOf.l0 k l v (c : Int) (n : Int)) ((c + less (l.drop n) v : Nat) : Int) := by
 intro d
 induction d with
 | zero =>
  intro n c hn hc
  refine ev_end fun k => ?_
  simp only [spec_BinOf.l0]
  obtain rfl : n = l.length := by omega
  rw [if_neg (by omega),List.drop_length]
  simp [less]
 | succ d ih =>
  intro n c hn hc
  rw [rd_drop (by omega),less_cons]
  by_cases h : rd l (n : Int) < v
  ·have := ih (n + 1) (c + 1) (by omega) (by omega)
   rw [if_pos h,show c + (less (l.drop (n + 1)) v + 1) = c + 1 + less (l.drop (n + 1)) v from by omega]
   refine Ev.step (fun k => ?_) this
   simp only [spec_BinOf.l0]
   rw [if_pos (by omega),if_pos (by omega),if_pos h,w64 (by omega) (by omega),w64 (by omega) (by omega)]
   rfl
  ·have := ih (n + 1) c (by omega) (by omega)
   rw [if_neg h]
   refine Ev.step (fun k => ?_) this
   simp only [spec_BinOf.l0]
   rw [if_pos (by omega),if_pos (by omega),if_neg h,w64 (by omega) (by omega)]
   rfl
theorem specBinOf (l : List Int) (v : Int) (hl : l.length ≤ 35184372088832) : Ev (fun k => spec_BinOf.f k l v) (less l v : Int) := by
 have := specBinOf_l0 l v hl l.length 0 0 (by omega) (by omega)
 rw [Nat.zero_add] at this
 exact this
theorem specGrid_l1 (L : List ByteArray) (t : ByteArray) (R : List (List Int)) (Y : List Int) (b : Int) (c x : List Int) (f : Nat) (C B : List (List Int)) (hc : c.length ≤ 7) (hx : x.length ≤ 1048576) (hf : f ≤ 4) (hC : C.length ≤ 4) (hB : B.length ≤ 4) {r : List (List Int) × List (List Int)}
  (next : Ev (fun k => spec_GridOf.l0 k b ((f + 1 : Nat) : Int) L t R Y (C ++ [c]) (B ++ [binsOf c x])) r) : Ev (fun k => spec_GridOf.l1 k b (f : Int) x c [] 0 L t R Y C B) r := by
 refine fold_loop (fun k (s : List Int) i => spec_GridOf.l1 k b (f : Int) x c s i L t R Y C B) x.length (fun n => binsOf c (x.take n)) r ?_ ?_ x.length 0 (by omega)
 ·refine ev_succ ?_
  simp only [spec_GridOf.l1,List.take_length]
  rw [w64 (x := (f : Int) + 1) (by omega) (by omega)]
  exact ev_neg (by omega) (ev_pos (by omega) (ev_pos (by omega) next))
 ·intro n hn h
  have hl : (binsOf c (x.take n)).length ≤ 1048576 := by rw [binsOf_length,List.length_take];omega
  rw [binsOf_succ c hn] at h
  refine ev_succ ?_
  simp only [spec_GridOf.l1]
  rw [w64 (x := (n : Int) + 1) (by omega) (by omega)]
  exact ev_pos (by omega) (ev_pos (by omega) (Ev.bind (specBinOf c _ (by omega)) (ev_pos (by omega) h)))
theorem specGridOf (L : List ByteArray) (t : ByteArray) (R : List (List Int)) (Y : List Int) (b : Int) (hL : L.length ≤ 1048576) (hs : ∀ x ∈ L,x.size ≤ 1048576) (ht : t.size ≤ 1048576) (hRl : R.length ≤ 1048576) : Ev (fun k => spec_GridOf.f k L t R Y b) (gridOf L t R Y b) := by
 have stop : ∀ r,r = ([],[]) → Ev (fun k => spec_GridOf.j0 k b true L t R Y) r := by
  rintro _ rfl
  refine ev_succ ?_
  simp only [spec_GridOf.j0]
  exact ev_pos trivial (Ev.now _)
 unfold spec_GridOf.f gridOf
 refine Ev.bind (specTableOk L t R Y hL hs ht hRl) ?_
 by_cases k1 : TableP L t R Y
 case neg => exact ev_neg (by rw [dec_false k1];decide) (stop _ (if_neg (fun h => k1 h.1)))
 refine ev_pos (dec_true k1) ?_
 simp only [specIn,Option.bind_some]
 by_cases k2 : 2 ≤ b ∧ b ≤ 8
 case neg => rw [decide_eq_false k2];exact stop _ (if_neg (fun h => k2 h.2))
 rw [decide_eq_true k2,if_pos ⟨k1,k2⟩]
 have hn := k1.1
 refine ev_succ ?_
 simp only [spec_GridOf.j0]
 refine ev_neg (by decide) ?_
 refine fold_loop (fun k (s : List (List Int) × List (List Int)) i => spec_GridOf.l0 k b i L t R Y s.1 s.2) L.length (fun n => (gridC R b n,gridB R b n)) _ ?_ ?_ L.length 0 (by omega)
 ·refine ev_succ ?_
  simp only [spec_GridOf.l0]
  exact ev_neg (by omega) (Ev.now _)
 ·intro n hn' h
  have e : colOf L R (n : Int) = col (n : Int) R := if_pos ⟨by omega,by omega⟩
  simp only [gridC_succ,gridB_succ] at h
  refine ev_succ ?_
  simp only [spec_GridOf.l0]
  refine ev_pos (by omega) (Ev.bind (ev_eq (specColumn L t R Y (n : Int) hL hRl) e) (Ev.bind (specCuts _ b (by rw [col_length];exact hRl)) ?_))
  exact specGrid_l1 L t R Y b _ _ n _ _ (cutsOf_length _ _) (by rw [col_length];exact hRl) (by omega) (by rw [gridC_length];omega) (by rw [gridB_length];omega) h
theorem l8Ints (l m : List Int) (hl : l.length ≤ 17592186044416) : Ev (fun k => spec_l8Ints.f k l m) (dec (SameR 0 (fun x y => x = y) l m)) := by
 unfold spec_l8Ints.f
 by_cases h0 : l.length = m.length
 ·refine ev_pos (by omega) (same_ev 0 (fun x y => x = y) l m h0 (fun k i => spec_l8Ints.l0 k l m i) ?_ ?_ ?_)
  ·refine ev_succ ?_
   simp only [spec_l8Ints.l0]
   exact ev_neg (by omega) (Ev.now _)
  ·intro n r hn hp h
   refine ev_succ ?_
   simp only [spec_l8Ints.l0,rdn]
   refine ev_pos (by omega) (ev_pos (by omega) (ev_pos (by omega) (ev_pos hp ?_)))
   rw [w64 (x := (n : Int) + 1) (by omega) (by omega)]
   exact h
  ·intro n hn hp
   refine ev_succ ?_
   simp only [spec_l8Ints.l0,rdn]
   exact ev_pos (by omega) (ev_pos (by omega) (ev_pos (by omega) (ev_neg hp (Ev.now _))))
 ·refine ev_neg (by omega) (ev_of ?_)
  rw [dec_false (fun z => h0 z.1)]
theorem equalInts (l m : List Int) (hl : l.length ≤ 17592186044416) : Ev (fun k => slices_Equal_int_int.f k l m) (dec (SameR 0 (fun x y => x = y) l m)) := by
 unfold slices_Equal_int_int.f
 by_cases h0 : l.length = m.length
 ·refine ev_pos (by omega) (same_ev 0 (fun x y => x = y) l m h0 (fun k i => slices_Equal_int_int.l0 k l m (l.length : Int) i) ?_ ?_ ?_)
  ·refine ev_succ ?_
   simp only [slices_Equal_int_int.l0]
   exact ev_neg (by omega) (Ev.now _)
  ·intro n r hn hp h
   refine ev_succ ?_
   simp only [slices_Equal_int_int.l0,rdn]
   refine ev_pos (by omega) (ev_pos (by omega) (ev_pos (by omega) (ev_pos (by omega) (ev_pos hp ?_))))
   rw [w64 (x := (n : Int) + 1) (by omega) (by omega)]
   exact h
  ·intro n hn hp
   refine ev_succ ?_
   simp only [slices_Equal_int_int.l0,rdn]
   exact ev_pos (by omega) (ev_pos (by omega) (ev_pos (by omega) (ev_pos (by omega) (ev_neg hp (Ev.now _)))))
 ·refine ev_neg (by omega) (ev_of ?_)
  rw [dec_false (fun z => h0 z.1)]
def SameL (l m : List (List Int)) : Prop := SameR [] (SameR 0 (fun x y => x = y)) l m
theorem rdLn (xs : List (List Int)) (n : Nat) : rd_L3 xs (n : Int) = xs.getD n [] := rfl
theorem getD_len {l : List (List Int)} (hl : wt l ≤ 1048576) (n : Nat) (hn : n < l.length) : (l.getD n []).length ≤ 1048576 := by
 have hx : l[n]? = some l[n] := List.getElem?_eq_getElem hn
 have hm := wt_mem (List.mem_of_getElem? hx)
 rw [List.getD_eq_getElem?_getD,hx]
 simp only [Option.getD_some]
 omega
theorem l9Grids (l m : List (List Int)) (hl : wt l ≤ 1048576) : Ev (fun k => spec_l9Grids.f k l m) (dec (SameL l m)) := by
 have h1 : l.length ≤ wt l := by unfold wt;omega
 unfold spec_l9Grids.f SameL
 by_cases h0 : l.length = m.length
 ·refine ev_pos (by omega) (same_ev [] _ l m h0 (fun k i => spec_l9Grids.l0 k l m i) ?_ ?_ ?_)
  ·refine ev_succ ?_
   simp only [spec_l9Grids.l0]
   exact ev_neg (by omega) (Ev.now _)
  ·intro n r hn hp h
   refine ev_succ ?_
   have := getD_len hl n hn
   simp only [spec_l9Grids.l0,rdLn]
   refine ev_pos (by omega) (ev_pos (by omega) (ev_pos (by omega) (Ev.bind (l8Ints _ _ (by omega)) (ev_pos (dec_true hp) ?_))))
   rw [w64 (x := (n : Int) + 1) (by omega) (by omega)]
   exact h
  ·intro n hn hp
   refine ev_succ ?_
   have := getD_len hl n hn
   simp only [spec_l9Grids.l0,rdLn]
   exact ev_pos (by omega) (ev_pos (by omega) (ev_pos (by omega) (Ev.bind (l8Ints _ _ (by omega)) (ev_neg (by rw [dec_false hp];decide) (Ev.now _)))))
 ·refine ev_neg (by omega) (ev_of ?_)
  rw [dec_false (fun z => h0 z.1)]
theorem sameLists (l m : List (List Int)) (hl : wt l ≤ 1048576) : Ev (fun k => impl_sameLists.f k l m) (dec (SameL l m)) := by
 have h1 : l.length ≤ wt l := by unfold wt;omega
 unfold impl_sameLists.f
 refine Ev.bind (a := dec (SameL l m)) ?_ (Ev.now _)
 unfold slices_EqualFunc_int_int_int_int.f SameL
 by_cases h0 : l.length = m.length
 ·refine ev_pos (by omega) (same_ev [] _ l m h0 (fun k i => slices_EqualFunc_int_int_int_int.l0 k m l (l.length : Int) i) ?_ ?_ ?_)
  ·refine ev_succ ?_
   simp only [slices_EqualFunc_int_int_int_int.l0]
   exact ev_neg (by omega) (Ev.now _)
  ·intro n r hn hp h
   refine ev_succ ?_
   have := getD_len hl n hn
   simp only [slices_EqualFunc_int_int_int_int.l0,impl_sameLists_1.f,rdLn]
   refine ev_pos (by omega) (ev_pos (by omega) (ev_pos (by omega) (ev_pos (by omega) (Ev.bind (Ev.bind (equalInts _ _ (by omega)) (Ev.now _)) (ev_pos (dec_true hp) ?_)))))
   rw [w64 (x := (n : Int) + 1) (by omega) (by omega)]
   exact h
  ·intro n hn hp
   refine ev_succ ?_
   have := getD_len hl n hn
   simp only [slices_EqualFunc_int_int_int_int.l0,impl_sameLists_1.f,rdLn]
   exact ev_pos (by omega) (ev_pos (by omega) (ev_pos (by omega) (ev_pos (by omega) (Ev.bind (Ev.bind (equalInts _ _ (by omega)) (Ev.now _)) (ev_neg (by rw [dec_false hp];decide) (Ev.now _))))))
 ·refine ev_neg (by omega) (ev_of ?_)
  rw [dec_false (fun z => h0 z.1)]
theorem specSameGrid (a b c d : List (List Int)) (ha : wt a ≤ 1048576) (hb : wt b ≤ 1048576) : Ev (fun k => spec_SameGrid.f k a b c d) (dec (SameL a c) && dec (SameL b d)) := by
 unfold spec_SameGrid.f
 refine Ev.bind (l9Grids a c ha) ?_
 cases h : dec (SameL a c) with
 | false => exact ev_neg (by decide) (Ev.now _)
 | true => exact ev_pos rfl (Ev.bind (l9Grids b d hb) (ev_of (by simp)))
theorem implSameGrid (a b c d : List (List Int)) (ha : wt a ≤ 1048576) (hb : wt b ≤ 1048576) : Ev (fun k => impl_SameGrid.f k a b c d) (dec (SameL a c) && dec (SameL b d)) := by
 unfold impl_SameGrid.f
 refine Ev.bind (sameLists a c ha) ?_
 cases h : dec (SameL a c) with
 | false => exact ev_neg (by decide) (Ev.now _)
 | true => exact ev_pos rfl (Ev.bind (sameLists b d hb) (ev_of (by simp)))
theorem sameL_refl (l : List (List Int)) : SameL l l := ⟨rfl,fun _ _ _ => ⟨rfl,fun _ _ _ => rfl⟩⟩
theorem drawGridOf (l : List Int) (hl : l.length ≤ 35184372088832) : ∃ L t R Y b,Ev (fun k => spec_DrawGridOf.f k l) (L,t,R,Y,b) ∧ Drawn L t R Y := by
 unfold spec_DrawGridOf.f
 obtain ⟨h,e0⟩ := l1New l hl
 obtain ⟨⟨L,t,R,Y,i1,h1⟩,e1,c1,D⟩ := l9Bent h (cur0 l hl)
 obtain ⟨b,i2,h2,e2,_,_⟩ := l1PickInt h1 ([2,3,4,8,1,9] : List Int) c1 (by simp)
 refine ⟨L,t,R,Y,b,Ev.bind e0 (Ev.bind e1 ?_),D⟩
 simp only [e2,Option.bind_some]
 exact Ev.now _
theorem FnGrid : laws_FnGrid.Pure := by
 intro l hm hl hw
 refine Ev.rounds ?_
 unfold laws_FnGrid.f
 rw [lawsBig]
 simp only [Option.bind_some]
 by_cases hb : (l.length : Int) > 1048576
 ·exact ev_pos (by simpa using hb) (Ev.now _)
 refine ev_neg (by simpa using hb) ?_
 obtain ⟨L,t,R,Y,b,e,a1,a2,a3,a4,a5,a6,a7⟩ := drawGridOf l (by omega)
 have hs : ∀ x ∈ L,x.size ≤ 1048576 := fun x hx => by have := a2 x hx;omega
 have ig := implGridOf L t R Y b (by omega) hs (by omega) (by omega) (by omega)
 have sg := specGridOf L t R Y b (by omega) hs (by omega) (by omega)
 have st := specTableOk L t R Y (by omega) hs (by omega) (by omega)
 have hC : wt (gridOf L t R Y b).1 ≤ 1000 := by
  unfold gridOf
  split
  ·exact gridC_wt R b a1
  ·exact Nat.zero_le _
 have hB : wt (gridOf L t R Y b).2 ≤ 1000 := by
  unfold gridOf
  split
  ·exact gridB_wt R b a1 a4
  ·exact Nat.zero_le _
 have yes : ∀ (A B : List (List Int)),(dec (SameL A A) && dec (SameL B B)) = true := fun A B => by rw [dec_true (sameL_refl A),dec_true (sameL_refl B)];rfl
 refine Ev.bind e (Ev.bind ig (Ev.bind sg (Ev.bind (ev_eq (specSameGrid _ _ _ _ (by omega) (by omega)) (yes _ _)) (ev_pos rfl (Ev.bind sg (Ev.bind (ev_eq (implSameGrid _ _ _ _ (by omega) (by omega)) (yes _ _)) (ev_succ ?_)))))))
 simp only [laws_FnGrid.j0]
 refine ev_neg (by decide) (Ev.bind st ?_)
 have none_ : ¬ GridIn L t R Y b → Ev (fun k => laws_FnGrid.j1 k true L t R Y (gridOf L t R Y b).1 (gridOf L t R Y b).2) true := by
  intro h
  have e0 : gridOf L t R Y b = ([],[]) := if_neg h
  rw [e0]
  refine ev_succ ?_
  simp only [laws_FnGrid.j1]
  exact ev_pos trivial (ev_pos (by simp) (Ev.now _))
 by_cases k1 : TableP L t R Y
 case neg => exact ev_neg (by rw [dec_false k1];decide) (none_ (fun h => k1 h.1))
 refine ev_pos (dec_true k1) ?_
 by_cases k2 : b < 2
 ·exact ev_pos k2 (none_ (fun h => by have := h.2.1;omega))
 refine ev_neg k2 ?_
 by_cases k3 : b > 8
 ·rw [decide_eq_true k3]
  exact none_ (fun h => by have := h.2.2;omega)
 rw [decide_eq_false k3]
 have hin : GridIn L t R Y b := ⟨k1,by omega,by omega⟩
 have e0 : gridOf L t R Y b = (gridC R b L.length,gridB R b L.length) := if_pos hin
 obtain ⟨g1,g2⟩ := grid_right hin
 rw [e0] at hC hB ⊢
 dsimp only at hC hB
 refine ev_succ ?_
 simp only [laws_FnGrid.j1]
 refine ev_neg (by decide) (Ev.bind (ev_eq (implGridOk _ _ (by omega) (by omega)) (dec_true g1)) (ev_pos rfl (Ev.bind (ev_eq (specGridOk _ _ (by omega) (by omega)) (dec_true g1)) (ev_pos rfl ?_))))
 rw [implRowsIn,g2]
 simp only [Option.bind_some]
 refine ev_pos trivial (ev_of ?_)
 rw [gridC_length]
 simp
end Go.Proofs.Ytlflcgdcegohjab.Pure
