/- impl.ReadTable returns what spec.ReadTable returns, new memory each time, for all texts. Conditions: none but the row's own.
-/
import Derived.Test.YtepnbcdbagjmbaaDoorQFnExactReadTablex18
import Derived.Lib.Atoi
import Derived.Lib.AtoiAllCases
import Derived.Lib.ItoaLen
set_option linter.unusedVariables false
set_option linter.unusedSimpArgs false
namespace Go.Proofs.YtepnbcdbagjmbaaDoor.Pure
open Go.RowKit Go.Proofs.YtepnbcdbagjmbaaDoor.QFnExactReadTable Go.Proofs.YtepnbcdbagjmbaaDoorW.PrintWords Go.Proofs.YtepnbcdbagjmbaaDoorW.PrintLast Go.Proofs.YtepnbcdbagjmbaaDoorW.PrintMore
theorem w64 {x : Int} (h1 : -9223372036854775808 ≤ x) (h2 : x ≤ 9223372036854775807) : wrap64 x = x := by unfold wrap64;omega
theorem rd_of {xs : List Int} {n : Nat} {v : Int} (h : xs[n]? = some v) : rd xs (n : Int) = v := by
 unfold rd
 rw [List.getD_eq_getElem?_getD,Int.toNat_natCast,h]
 rfl
theorem ev_of {α : Type} {r : α} {p : Option α} (h : p = some r) : Ev (fun _ => p) r := ⟨0,fun _ _ => h⟩
theorem ev_end {α : Type} {g : Nat → Option α} {r : α} (h : ∀ k,g (k + 1) = some r) : Ev g r := Ev.step (f := fun _ => some r) h (Ev.now r)
theorem ev_pos {α : Type} {c : Prop} [Decidable c] {f g : Nat → Option α} {r : α} (hc : c) (h : Ev f r) : Ev (fun k => if c then f k else g k) r := Ev.congr (fun _ => if_pos hc) h
theorem ev_neg {α : Type} {c : Prop} [Decidable c] {f g : Nat → Option α} {r : α} (hc : ¬ c) (h : Ev g r) : Ev (fun k => if c then f k else g k) r := Ev.congr (fun _ => if_neg hc) h
noncomputable def dec (p : Prop) : Bool := @decide p (Classical.propDecidable p)
theorem dec_true {p : Prop} (h : p) : dec p = true := @decide_eq_true p (Classical.propDecidable p) h
theorem dec_false {p : Prop} (h : ¬ p) : dec p = false := @decide_eq_false p (Classical.propDecidable p) h
theorem dec_congr {p q : Prop} (h : p ↔ q) : dec p = dec q := by rw [propext h]
theorem dec_eq {p : Prop} [Decidable p] : dec p = decide p := by
 by_cases h : p
 ·rw [dec_true h,decide_eq_true h]
 ·rw [dec_false h,decide_eq_false h]
theorem ev_succ {α : Type} {g : Nat → Option α} {r : α} (h : Ev (fun k => g (k + 1)) r) : Ev g r := by
 obtain ⟨K,h⟩ := h
 refine ⟨K + 1,fun n hn => ?_⟩
 obtain ⟨m,rfl⟩ : ∃ m,n = m + 1 := ⟨n - 1,by omega⟩
 exact h m (by omega)
theorem ev_eq {α : Type} {g : Nat → Option α} {r r' : α} (h : Ev g r) (e : r = r') : Ev g r' := e ▸ h
theorem gd_nat {α : Type} (z : α) {xs : List α} {n : Nat} {v : α} (h : xs[n]? = some v) : xs.getD ((n : Int)).toNat z = v := by
 rw [List.getD_eq_getElem?_getD,Int.toNat_natCast,h]
 rfl
theorem all_loop (F : Nat → Int → Option Bool) (L : Nat) (p : Nat → Prop) (hend : Ev (fun k => F k (L : Int)) true)
  (hyes : ∀ (n : Nat) (r : Bool),n < L → p n → Ev (fun k => F k ((n + 1 : Nat) : Int)) r → Ev (fun k => F k (n : Int)) r)
  (hno : ∀ n : Nat,n < L → ¬ p n → Ev (fun k => F k (n : Int)) false) :
  ∀ (d n : Nat),n + d = L → Ev (fun k => F k (n : Int)) (dec (∀ j,n ≤ j → j < L → p j)) := by
 intro d
 induction d with
 | zero =>
  intro n hn
  obtain rfl : n = L := by omega
  exact ev_eq hend (dec_true (fun j h1 h2 => by omega)).symm
 | succ d ih =>
  intro n hn
  by_cases h : p n
  ·refine hyes n _ (by omega) h (ev_eq (ih (n + 1) (by omega)) (dec_congr ⟨fun g j h1 h2 => ?_,fun g j h1 h2 => g j (by omega) h2⟩))
   by_cases e : j = n
   ·exact e ▸ h
   ·exact g j (by omega) h2
  ·exact ev_eq (hno n (by omega) h) (dec_false (fun g => h (g n (Nat.le_refl _) (by omega)))).symm
def Letter (c : Int) : Prop := 97 ≤ c ∧ c ≤ 122
def Figure (c : Int) : Prop := 48 ≤ c ∧ c ≤ 57
def NameFrom (s : ByteArray) (n : Nat) : Prop := ∀ j : Nat,n ≤ j → j < s.size → Letter (bt s (j : Int)) ∨ Figure (bt s (j : Int))
def IsName (s : ByteArray) : Prop := 1 ≤ s.size ∧ s.size ≤ 12 ∧ Letter (bt s 0) ∧ NameFrom s 0
theorem NameFrom.step {s : ByteArray} {n : Nat} (h : n < s.size) : NameFrom s n ↔ (Letter (bt s (n : Int)) ∨ Figure (bt s (n : Int))) ∧ NameFrom s (n + 1) := by
 constructor
 ·exact fun g => ⟨g n (Nat.le_refl _) h,fun j hj => g j (by omega)⟩
 ·intro ⟨g0,g⟩ j hj hlt
  by_cases e : j = n
  ·subst e;exact g0
  ·exact g j (by omega) hlt
theorem NameFrom.stop {s : ByteArray} : NameFrom s s.size := fun j h1 h2 => by omega
theorem specIn (a b c : Int) : spec_l1In.f a b c = some (decide (b ≤ a ∧ a ≤ c)) := by
 unfold spec_l1In.f
 by_cases h : b ≤ a
 ·rw [if_pos h];simp [h]
 ·rw [if_neg h];simp [h]
theorem specNameOk_l0 (s : ByteArray) (hl : s.size ≤ 140737488351232) : ∀ (d n : Nat),n + d = s.size → Ev (fun k => spec_NameOk.l0 k s (n : Int)) (dec (NameFrom s n)) := by
 intro d
 induction d with
 | zero =>
  intro n hn
  refine ev_end fun k => ?_
  simp only [spec_NameOk.l0]
  obtain rfl : n = s.size := by omega
  rw [if_neg (by omega),dec_true NameFrom.stop]
 | succ d ih =>
  intro n hn
  have hs := NameFrom.step (s := s) (n := n) (by omega)
  have hb := bt_range s (n : Int)
  by_cases h1 : Letter (bt s (n : Int))
  ·have e : dec (NameFrom s n) = dec (NameFrom s (n + 1)) := dec_congr (by rw [hs];exact ⟨fun g => g.2,fun g => ⟨.inl h1,g⟩⟩)
   rw [e]
   refine Ev.step (fun k => ?_) (ih (n + 1) (by omega))
   simp only [spec_NameOk.l0,specIn,Option.bind_some]
   unfold Letter at h1
   rw [if_pos (by omega),if_pos (by omega),w64 (x := bt s (n : Int)) (by omega) (by omega),if_pos (by simpa using h1),w64 (by omega) (by omega)]
   rfl
  ·by_cases h2 : Figure (bt s (n : Int))
   ·have e : dec (NameFrom s n) = dec (NameFrom s (n + 1)) := dec_congr (by rw [hs];exact ⟨fun g => g.2,fun g => ⟨.inr h2,g⟩⟩)
    rw [e]
    refine Ev.step (fun k => ?_) (ih (n + 1) (by omega))
    simp only [spec_NameOk.l0,specIn,Option.bind_some]
    unfold Letter at h1
    unfold Figure at h2
    rw [if_pos (by omega),if_pos (by omega),w64 (x := bt s (n : Int)) (by omega) (by omega),if_neg (by simpa using h1),if_pos (by simpa using h2),w64 (by omega) (by omega)]
    rfl
   ·refine ev_end fun k => ?_
    simp only [spec_NameOk.l0,specIn,Option.bind_some]
    have e : dec (NameFrom s n) = false := dec_false (by rw [hs];exact fun g => g.1.elim h1 h2)
    unfold Letter at h1
    unfold Figure at h2
    rw [if_pos (by omega),if_pos (by omega),w64 (x := bt s (n : Int)) (by omega) (by omega),if_neg (by simpa using h1),if_neg (by simpa using h2),e]
theorem specNameOk (s : ByteArray) (hl : s.size ≤ 140737488351232) : Ev (fun k => spec_NameOk.f k s) (dec (IsName s)) := by
 unfold spec_NameOk.f
 simp only [specIn,Option.bind_some]
 have hb := bt_range s 0
 by_cases h1 : 1 ≤ s.size ∧ s.size ≤ 12
 ·refine ev_pos (by simp;omega) (ev_pos (by omega) ?_)
  by_cases h2 : bt s 0 < 97
  ·refine ev_end fun k => ?_
   simp only [spec_NameOk.j0]
   rw [if_pos (by simpa using h2),dec_false]
   intro g;have := g.2.2.1;unfold Letter at this;omega
  ·have e : dec (IsName s) = dec (NameFrom s 0) := dec_congr ⟨fun g => g.2.2.2,fun g => ⟨h1.1,h1.2,(g 0 (by omega) (by omega)).elim (fun z => z) (fun z => by unfold Figure at z;simp only [Int.natCast_zero] at z;omega),g⟩⟩
   rw [e]
   refine Ev.step (fun k => ?_) (specNameOk_l0 s hl s.size 0 (by omega))
   simp only [spec_NameOk.j0]
   rw [if_neg (by simpa using h2)]
   rfl
 ·refine ev_neg (by simp;omega) (ev_end fun k => ?_)
  simp only [spec_NameOk.j0]
  rw [if_pos trivial,dec_false]
  intro g;exact h1 ⟨g.1,g.2.1⟩
theorem rdOfn {α : Type} (z : α) (xs : List α) (n : Nat) : rdOf z xs (n : Int) = xs.getD n z := rfl
def sAt (l : List ByteArray) (j : Nat) : ByteArray := rdOf ByteArray.empty l (j : Int)
theorem sAt_size {l : List ByteArray} {m : Nat} (h : ∀ x ∈ l,x.size ≤ m) (j : Nat) : (sAt l j).size ≤ m := by
 unfold sAt
 rw [rdOfn,List.getD_eq_getElem?_getD]
 by_cases hj : j < l.length
 ·rw [List.getElem?_eq_getElem hj]
  exact h _ (List.getElem_mem hj)
 ·rw [List.getElem?_eq_none (by omega)]
  exact Nat.zero_le _
theorem sAt_take (l : List ByteArray) {n j : Nat} (h : j < n) : sAt (l.take n) j = sAt l j := by
 unfold sAt
 rw [rdOfn,rdOfn,List.getD_eq_getElem?_getD,List.getD_eq_getElem?_getD,List.getElem?_take,if_pos h]
def HasP (l : List ByteArray) (n : Nat) (s : ByteArray) : Prop := ∃ j,j < n ∧ (sAt l j).toList = s.toList
theorem hasP_take (l : List ByteArray) {n : Nat} (h : n ≤ l.length) (s : ByteArray) : HasP (l.take n) (l.take n).length s ↔ HasP l n s := by
 have e : (l.take n).length = n := by rw [List.length_take];omega
 unfold HasP
 rw [e]
 exact ⟨fun ⟨j,a,b⟩ => ⟨j,a,by rw [sAt_take l a] at b;exact b⟩,fun ⟨j,a,b⟩ => ⟨j,a,by rw [sAt_take l a];exact b⟩⟩
theorem specHas_l0 (l : List ByteArray) (s : ByteArray) (hl : l.length ≤ 1048576) : ∀ (d n : Nat),n + d = l.length → Ev (fun k => spec_l9Has.l0 k l s (n : Int)) (dec (∃ j,n ≤ j ∧ j < l.length ∧ (sAt l j).toList = s.toList)) := by
 intro d
 induction d with
 | zero =>
  intro n hn
  refine ev_succ ?_
  simp only [spec_l9Has.l0]
  exact ev_neg (by omega) (ev_eq (Ev.now _) (dec_false (fun ⟨j,a,b,_⟩ => by omega)).symm)
 | succ d ih =>
  intro n hn
  refine ev_succ ?_
  simp only [spec_l9Has.l0]
  refine ev_pos (by omega) (ev_pos (by omega) ?_)
  by_cases h : (sAt l n).toList = s.toList
  ·exact ev_pos h (ev_eq (Ev.now _) (dec_true ⟨n,Nat.le_refl _,by omega,h⟩).symm)
  ·refine ev_neg h ?_
   rw [w64 (x := (n : Int) + 1) (by omega) (by omega)]
   refine ev_eq (ih (n + 1) (by omega)) (dec_congr ⟨fun ⟨j,a,b,c⟩ => ⟨j,by omega,b,c⟩,fun ⟨j,a,b,c⟩ => ⟨j,?_,b,c⟩⟩)
   by_cases e : j = n
   ·exact absurd (e ▸ c) h
   ·omega
theorem specHas (l : List ByteArray) (s : ByteArray) (hl : l.length ≤ 1048576) : Ev (fun k => spec_l9Has.f k l s) (dec (HasP l l.length s)) := by
 unfold spec_l9Has.f
 exact ev_eq (specHas_l0 l s hl l.length 0 (by omega)) (dec_congr ⟨fun ⟨j,_,b,c⟩ => ⟨j,b,c⟩,fun ⟨j,b,c⟩ => ⟨j,Nat.zero_le _,b,c⟩⟩)
def bs (l : List UInt8) : ByteArray := ⟨l.toArray⟩
theorem list_bs (l : List UInt8) : (bs l).data.toList = l := rfl
theorem bs_list (s : ByteArray) : bs s.data.toList = s := by
 obtain ⟨⟨l⟩⟩ := s
 rfl
theorem bs_size (l : List UInt8) : (bs l).size = l.length := by
 unfold bs ByteArray.size
 simp
theorem ba_ext {a b : ByteArray} (h : a.data.toList = b.data.toList) : a = b := by rw [← bs_list a,h,bs_list]
theorem ba_append (a b : ByteArray) : (a ++ b).data.toList = a.data.toList ++ b.data.toList := by
 rw [ByteArray.data_append,Array.toList_append]
theorem bs_append (a b : List UInt8) : bs a ++ bs b = bs (a ++ b) := ba_ext (by rw [ba_append];rfl)
theorem strOfNums_bs (xs : List Int) : strOfNums xs = bs (xs.map fun n => UInt8.ofNat n.toNat) := rfl
def nm (l : List UInt8) : List Int := l.map fun b => (b.toNat : Int)
theorem nm_append (a b : List UInt8) : nm (a ++ b) = nm a ++ nm b := List.map_append
theorem nm_length (a : List UInt8) : (nm a).length = a.length := List.length_map ..
theorem strOfNums_nm (l : List UInt8) : strOfNums (nm l) = bs l := by
 rw [strOfNums_bs]
 congr 1
 unfold nm
 rw [List.map_map]
 conv => rhs;rw [← List.map_id l]
 refine List.map_congr_left fun b _ => ?_
 simp
theorem bt_list (s : ByteArray) (n : Nat) : bt s (n : Int) = ((s.data.toList.getD n 0).toNat : Int) := by
 unfold bt
 rw [List.getD_eq_getElem?_getD]
 by_cases h : n < s.size
 ·rw [dif_pos (by rw [Int.toNat_natCast];exact h)]
  have h' : n < s.data.toList.length := by rw [data_length];exact h
  rw [List.getElem?_eq_getElem h']
  simp
  rfl
 ·rw [dif_neg (by rw [Int.toNat_natCast];exact h)]
  have h' : s.data.toList.length ≤ n := by rw [data_length];omega
  rw [List.getElem?_eq_none h']
  rfl
theorem bt_get {s : ByteArray} {n : Nat} {b : UInt8} (h : s.data.toList[n]? = some b) : bt s (n : Int) = (b.toNat : Int) := by
 rw [bt_list,List.getD_eq_getElem?_getD,h]
 rfl
theorem u8_eq {b : UInt8} {n : Nat} (h : n < 256) : ((b.toNat : Int) = (n : Int)) ↔ b = UInt8.ofNat n := by
 constructor
 ·intro e
  apply UInt8.toNat_inj.1
  rw [UInt8.toNat_ofNat']
  omega
 ·rintro rfl
  rw [UInt8.toNat_ofNat']
  omega
def csvSp (b : UInt8) : Bool := b == 44 || b == 34 || b == 10 || b == 13
def csvQ : List UInt8 → Option (List UInt8 × List UInt8)
 | [] => none
 | b :: r => if b = 34 then (match r with
   | [] => some ([],[])
   | c :: r' => if c = 34 then (csvQ r').map (fun p => (34 :: p.1,p.2)) else some ([],c :: r'))
  else (csvQ r).map (fun p => (b :: p.1,p.2))
def csvPlain (l : List UInt8) : List UInt8 × List UInt8 := (l.takeWhile (fun b => !csvSp b),l.dropWhile (fun b => !csvSp b))
def csvField : List UInt8 → Option (List UInt8 × List UInt8)
 | [] => some ([],[])
 | b :: r => if b = 34 then csvQ r else some (csvPlain (b :: r))
def csvAfter : List UInt8 → Option (Bool × List UInt8)
 | [] => some (true,[])
 | b :: r => if b = 44 then some (false,r) else if b = 10 then some (true,r) else if b = 13 then (match r with
   | [] => none
   | c :: r' => if c = 10 then some (true,r') else none)
  else none
def csvGo : Nat → List UInt8 → List (List ByteArray) → List ByteArray → List (List ByteArray) × Int × Int × Int
 | 0,_,rows,_ => (rows,0,0,0)
 | k + 1,l,rows,row => if l = [] ∧ row = [] then (rows,0,0,0) else
  match csvField l with
  | none => ([],2,rows.length,row.length)
  | some (f,l1) => match csvAfter l1 with
   | none => ([],2,rows.length,row.length)
   | some (false,l2) => csvGo k l2 rows (row ++ [⟨f.toArray⟩])
   | some (true,l2) => csvGo k l2 (rows ++ [row ++ [⟨f.toArray⟩]]) []
noncomputable def readCsv (s : ByteArray) : List (List ByteArray) × Int × Int × Int := if s.size > 4000 then ([],1,0,0) else csvGo (2 * s.size + 2) s.data.toList [] []
theorem csvQ_length : ∀ (n : Nat) (l f r : List UInt8),l.length ≤ n → csvQ l = some (f,r) → f.length + r.length < l.length := by
 intro n
 induction n with
 | zero =>
  intro l f r hl h
  obtain rfl := List.length_eq_zero_iff.mp (Nat.le_zero.mp hl)
  cases h
 | succ n ih =>
  intro l f r hl h
  cases l with
  | nil => cases h
  | cons b l =>
   rw [List.length_cons] at hl
   unfold csvQ at h
   by_cases hb : b = 34
   ·rw [if_pos hb] at h
    cases l with
    | nil =>
     obtain ⟨rfl,rfl⟩ := Prod.mk.inj (Option.some.inj h)
     simp
    | cons c l =>
     rw [List.length_cons] at hl
     simp only at h
     by_cases hc : c = 34
     ·rw [if_pos hc] at h
      cases e : csvQ l with
      | none => rw [e] at h;cases h
      | some p =>
       rw [e] at h
       obtain ⟨rfl,rfl⟩ := Prod.mk.inj (Option.some.inj h)
       have := ih l p.1 p.2 (by omega) (by rw [e])
       simp only [List.length_cons]
       omega
     ·rw [if_neg hc] at h
      obtain ⟨rfl,rfl⟩ := Prod.mk.inj (Option.some.inj h)
      simp only [List.length_cons,List.length_nil]
      omega
   ·rw [if_neg hb] at h
    cases e : csvQ l with
    | none => rw [e] at h;cases h
    | some p =>
     rw [e] at h
     obtain ⟨rfl,rfl⟩ := Prod.mk.inj (Option.some.inj h)
     have := ih l p.1 p.2 (by omega) (by rw [e])
     simp only [List.length_cons]
     omega
theorem csvPlain_length (l : List UInt8) : (csvPlain l).1.length + (csvPlain l).2.length = l.length := by
 unfold csvPlain
 rw [← List.length_append,List.takeWhile_append_dropWhile]
theorem csvField_length {l f r : List UInt8} (h : csvField l = some (f,r)) : f.length + r.length ≤ l.length := by
 cases l with
 | nil =>
  obtain ⟨rfl,rfl⟩ := Prod.mk.inj (Option.some.inj h)
  simp
 | cons b l =>
  unfold csvField at h
  simp only at h
  by_cases hb : b = 34
  ·rw [if_pos hb] at h
   have := csvQ_length l.length l f r (Nat.le_refl _) h
   rw [List.length_cons]
   omega
  ·rw [if_neg hb] at h
   have e := csvPlain_length (b :: l)
   rw [Option.some.inj h] at e
   exact Nat.le_of_eq e
theorem csvAfter_length {l r : List UInt8} {z : Bool} (h : csvAfter l = some (z,r)) : r.length ≤ l.length ∧ (l ≠ [] → r.length < l.length) ∧ (z = false → r.length < l.length) := by
 cases l with
 | nil =>
  obtain ⟨rfl,rfl⟩ := Prod.mk.inj (Option.some.inj h)
  simp
 | cons b l =>
  unfold csvAfter at h
  simp only at h
  have key : r.length < (b :: l).length := by
   by_cases h1 : b = 44
   ·rw [if_pos h1] at h
    obtain ⟨rfl,rfl⟩ := Prod.mk.inj (Option.some.inj h)
    simp
   rw [if_neg h1] at h
   by_cases h2 : b = 10
   ·rw [if_pos h2] at h
    obtain ⟨rfl,rfl⟩ := Prod.mk.inj (Option.some.inj h)
    simp
   rw [if_neg h2] at h
   by_cases h3 : b = 13
   ·rw [if_pos h3] at h
    cases l with
    | nil => cases h
    | cons c l =>
     simp only at h
     by_cases h4 : c = 10
     ·rw [if_pos h4] at h
      obtain ⟨rfl,rfl⟩ := Prod.mk.inj (Option.some.inj h)
      simp only [List.length_cons]
      omega
     ·rw [if_neg h4] at h;cases h
   ·rw [if_neg h3] at h;cases h
  exact ⟨Nat.le_of_lt key,fun _ => key,fun _ => key⟩
def csvLeft (l : List UInt8) (row : List ByteArray) : Nat := 2 * l.length + if row = [] then 0 else 1
theorem csvLeft_more {l f l1 l2 : List UInt8} {row : List ByteArray} {x : ByteArray} (hf : csvField l = some (f,l1)) (ha : csvAfter l1 = some (false,l2)) : csvLeft l2 (row ++ [x]) < csvLeft l row := by
 have a := csvField_length hf
 have b := (csvAfter_length ha).2.2 rfl
 unfold csvLeft
 rw [if_neg (by simp)]
 split <;> omega
theorem csvLeft_end {l f l1 l2 : List UInt8} {row : List ByteArray} (hr : ¬ (l = [] ∧ row = [])) (hf : csvField l = some (f,l1)) (ha : csvAfter l1 = some (true,l2)) : csvLeft l2 [] < csvLeft l row := by
 have a := csvField_length hf
 have b := csvAfter_length ha
 unfold csvLeft
 rw [if_pos rfl]
 by_cases hl : l = []
 ·subst hl
  rw [List.length_nil] at a
  have : l1 = [] := List.length_eq_zero_iff.mp (by omega)
  subst this
  rw [if_neg (fun h => hr ⟨rfl,h⟩)]
  have b1 := b.1
  rw [List.length_nil] at b1 ⊢
  omega
 ·have h0 : 0 < l.length := List.length_pos_iff.mpr hl
  by_cases h1 : l1 = []
  ·subst h1
   have b1 := b.1
   rw [List.length_nil] at b1
   split <;> omega
  ·have := b.2.1 h1
   split <;> omega
def pz (s : ByteArray) (l : List UInt8) : Int := (s.size : Int) - (l.length : Int)
theorem pz_nil (s : ByteArray) : pz s [] = (s.size : Int) := by simp [pz]
theorem pz_le (s : ByteArray) (l : List UInt8) : pz s l ≤ (s.size : Int) := by unfold pz;omega
theorem pz_all (s : ByteArray) : pz s s.data.toList = 0 := by unfold pz;rw [data_length];omega
theorem tail_length {s : ByteArray} {l : List UInt8} (h : l <:+ s.data.toList) : l.length ≤ s.size := by
 have := h.length_le
 rwa [data_length] at this
theorem pz_pos {s : ByteArray} {l : List UInt8} (h : l <:+ s.data.toList) : 0 ≤ pz s l := by
 have := tail_length h
 unfold pz
 omega
theorem pz_lt {s : ByteArray} {b : UInt8} {l : List UInt8} : pz s (b :: l) < (s.size : Int) := by
 unfold pz
 rw [List.length_cons]
 omega
theorem pz_succ {s : ByteArray} {b : UInt8} {l : List UInt8} : pz s (b :: l) + 1 = pz s l := by
 unfold pz
 rw [List.length_cons]
 omega
theorem pz_w {s : ByteArray} {b : UInt8} {l : List UInt8} (hs : s.size ≤ 4000) (h : b :: l <:+ s.data.toList) : wrap64 (pz s (b :: l) + 1) = pz s l := by
 have h1 := pz_pos h
 have h2 := pz_le s (b :: l)
 rw [w64 (by omega) (by omega),pz_succ]
theorem pz_w2 {s : ByteArray} {b c : UInt8} {l : List UInt8} (hs : s.size ≤ 4000) (h : b :: c :: l <:+ s.data.toList) : wrap64 (pz s (b :: c :: l) + 2) = pz s l := by
 have h1 := pz_pos h
 have h2 := pz_le s (b :: c :: l)
 have h3 := @pz_succ s b (c :: l)
 have h4 := @pz_succ s c l
 rw [w64 (by omega) (by omega)]
 omega
theorem tail_cons {s : ByteArray} {b : UInt8} {l : List UInt8} (h : b :: l <:+ s.data.toList) : l <:+ s.data.toList := (List.suffix_cons b l).trans h
theorem tail_nat {s : ByteArray} {l : List UInt8} (h : l <:+ s.data.toList) : pz s l = ((s.data.toList.length - l.length : Nat) : Int) := by
 have := h.length_le
 unfold pz
 rw [← data_length]
 omega
theorem bt_pz {s : ByteArray} {b : UInt8} {l : List UInt8} (h : b :: l <:+ s.data.toList) : bt s (pz s (b :: l)) = (b.toNat : Int) := by
 obtain ⟨t,e⟩ := h
 rw [tail_nat ⟨t,e⟩]
 refine bt_get ?_
 rw [← e,List.length_append,Nat.add_sub_cancel,List.getElem?_append_right (Nat.le_refl _),Nat.sub_self]
 rfl
theorem pz_toNat {s : ByteArray} {l : List UInt8} (h : l <:+ s.data.toList) : s.data.toList.drop (pz s l).toNat = l := by
 rw [tail_nat h,Int.toNat_natCast]
 exact (List.suffix_iff_eq_drop.mp h).symm
theorem ext_pz {s : ByteArray} {l : List UInt8} (h : l <:+ s.data.toList) : s.extract (pz s l).toNat s.size = bs l := by
 refine ba_ext ?_
 rw [ByteArray.data_extract,Array.toList_extract,List.extract_eq_take_drop,list_bs,pz_toNat h]
 refine List.take_of_length_le ?_
 have := tail_length h
 unfold pz
 omega
theorem csvQ_tail : ∀ (n : Nat) (l f r : List UInt8),l.length ≤ n → csvQ l = some (f,r) → r <:+ l := by
 intro n
 induction n with
 | zero =>
  intro l f r hl h
  obtain rfl := List.length_eq_zero_iff.mp (Nat.le_zero.mp hl)
  cases h
 | succ n ih =>
  intro l f r hl h
  cases l with
  | nil => cases h
  | cons b l =>
   rw [List.length_cons] at hl
   unfold csvQ at h
   by_cases hb : b = 34
   ·rw [if_pos hb] at h
    cases l with
    | nil =>
     obtain ⟨rfl,rfl⟩ := Prod.mk.inj (Option.some.inj h)
     exact List.nil_suffix
    | cons c l =>
     rw [List.length_cons] at hl
     simp only at h
     by_cases hc : c = 34
     ·rw [if_pos hc] at h
      cases e : csvQ l with
      | none => rw [e] at h;cases h
      | some p =>
       rw [e] at h
       obtain ⟨rfl,rfl⟩ := Prod.mk.inj (Option.some.inj h)
       exact (ih l p.1 p.2 (by omega) (by rw [e])).trans ((List.suffix_cons _ _).trans (List.suffix_cons _ _))
     ·rw [if_neg hc] at h
      obtain ⟨rfl,rfl⟩ := Prod.mk.inj (Option.some.inj h)
      exact List.suffix_cons _ _
   ·rw [if_neg hb] at h
    cases e : csvQ l with
    | none => rw [e] at h;cases h
    | some p =>
     rw [e] at h
     obtain ⟨rfl,rfl⟩ := Prod.mk.inj (Option.some.inj h)
     exact (ih l p.1 p.2 (by omega) (by rw [e])).trans (List.suffix_cons _ _)
theorem csvField_tail {l f r : List UInt8} (h : csvField l = some (f,r)) : r <:+ l := by
 cases l with
 | nil =>
  obtain ⟨rfl,rfl⟩ := Prod.mk.inj (Option.some.inj h)
  exact List.suffix_refl _
 | cons b l =>
  unfold csvField at h
  simp only at h
  by_cases hb : b = 34
  ·rw [if_pos hb] at h
   exact (csvQ_tail _ _ _ _ (Nat.le_refl _) h).trans (List.suffix_cons _ _)
  ·rw [if_neg hb] at h
   obtain ⟨rfl,rfl⟩ := Prod.mk.inj (Option.some.inj h)
   exact List.dropWhile_suffix _
theorem csvAfter_tail {l r : List UInt8} {z : Bool} (h : csvAfter l = some (z,r)) : r <:+ l := by
 cases l with
 | nil =>
  obtain ⟨rfl,rfl⟩ := Prod.mk.inj (Option.some.inj h)
  exact List.suffix_refl _
 | cons b l =>
  unfold csvAfter at h
  simp only at h
  by_cases h1 : b = 44
  ·rw [if_pos h1] at h
   obtain ⟨rfl,rfl⟩ := Prod.mk.inj (Option.some.inj h)
   exact List.suffix_cons _ _
  rw [if_neg h1] at h
  by_cases h2 : b = 10
  ·rw [if_pos h2] at h
   obtain ⟨rfl,rfl⟩ := Prod.mk.inj (Option.some.inj h)
   exact List.suffix_cons _ _
  rw [if_neg h2] at h
  by_cases h3 : b = 13
  ·rw [if_pos h3] at h
   cases l with
   | nil => cases h
   | cons c l =>
    simp only at h
    by_cases h4 : c = 10
    ·rw [if_pos h4] at h
     obtain ⟨rfl,rfl⟩ := Prod.mk.inj (Option.some.inj h)
     exact (List.suffix_cons _ _).trans (List.suffix_cons _ _)
    ·rw [if_neg h4] at h;cases h
  ·rw [if_neg h3] at h;cases h
theorem ofNat_toNat {n : Nat} (h : n < 256) : (UInt8.ofNat n).toNat = n := by
 rw [UInt8.toNat_ofNat'];omega
theorem digitVal_dg {d : Nat} (h : d < 10) : Lib.digitVal (UInt8.ofNat (48 + d)) = some d := by
 unfold Lib.digitVal
 rw [ofNat_toNat (by omega),if_pos (by omega)]
 congr 1
 omega
theorem digitVal_some {b : UInt8} {d : Nat} (h : Lib.digitVal b = some d) : b = UInt8.ofNat (48 + d) ∧ d < 10 ∧ b.toNat = 48 + d := by
 unfold Lib.digitVal at h
 split at h
 ·rename_i g
  have e : b.toNat - 48 = d := Option.some.inj h
  refine ⟨?_,by omega,by omega⟩
  apply UInt8.toNat_inj.1
  rw [ofNat_toNat (by omega)]
  omega
 ·cases h
theorem decFrom_append (b : List UInt8) : ∀ (a : List UInt8) (acc : Nat),Lib.decFrom acc (a ++ b) = (Lib.decFrom acc a).bind fun n => Lib.decFrom n b
 | [],acc => rfl
 | x :: a,acc => by
  rw [List.cons_append]
  simp only [Lib.decFrom]
  cases Lib.digitVal x with
  | none => rfl
  | some d => exact decFrom_append b a _
theorem decFrom_one (acc d : Nat) (h : d < 10) : Lib.decFrom acc [UInt8.ofNat (48 + d)] = some (acc * 10 + d) := by
 simp only [Lib.decFrom,digitVal_dg h]
theorem decDigits_big {u : Nat} (h : ¬ u < 10) : Lib.decDigits u = Lib.decDigits (u / 10) ++ [UInt8.ofNat (48 + u % 10)] := by
 rw [Lib.decDigits,dif_neg h]
theorem decFrom_decDigits (u : Nat) : Lib.decFrom 0 (Lib.decDigits u) = some u := by
 induction u using Nat.strongRecOn with
 | _ u ih =>
  by_cases h : u < 10
  ·rw [Lib.decDigits_one h,decFrom_one 0 u h]
   congr 1
   omega
  ·rw [decDigits_big h,decFrom_append,ih (u / 10) (by omega)]
   show Lib.decFrom (u / 10) _ = _
   rw [decFrom_one _ _ (by omega)]
   congr 1
   omega
theorem decDigits_ne (u : Nat) : Lib.decDigits u ≠ [] := by
 intro h
 have := Lib.decDigits_length u
 have := Lib.nDigits_pos u
 rw [h] at *
 simp only [List.length_nil] at *
 omega
theorem decFrom_mono : ∀ (l : List UInt8) (acc n : Nat),Lib.decFrom acc l = some n → acc ≤ n
 | [],acc,n,h => by
  have := Option.some.inj h
  omega
 | b :: l,acc,n,h => by
  simp only [Lib.decFrom] at h
  cases e : Lib.digitVal b with
  | none => rw [e] at h;cases h
  | some d =>
   rw [e] at h
   have := decFrom_mono l _ n h
   omega
theorem decDigits_of : ∀ (k : Nat) (l : List UInt8) (u : Nat),l.length = k → Lib.decFrom 0 l = some u → l ≠ [] → (2 ≤ l.length → l.head? ≠ some 48) → Lib.decDigits u = l := by
 intro k
 induction k with
 | zero => intro l u hk _ hne _;exact absurd (List.length_eq_zero_iff.mp hk) hne
 | succ k ih =>
  intro l u hk h hne h0
  obtain ⟨a,c,rfl⟩ : ∃ a c,l = a ++ [c] := ⟨l.dropLast,l.getLast hne,(List.dropLast_concat_getLast hne).symm⟩
  rw [List.length_append,List.length_singleton] at hk
  rw [decFrom_append] at h
  cases e : Lib.decFrom 0 a with
  | none => rw [e] at h;cases h
  | some v =>
   rw [e] at h
   have h : Lib.decFrom v [c] = some u := h
   simp only [Lib.decFrom] at h
   cases ec : Lib.digitVal c with
   | none => rw [ec] at h;cases h
   | some d =>
    rw [ec] at h
    have hu : v * 10 + d = u := Option.some.inj h
    obtain ⟨hc,hd,_⟩ := digitVal_some ec
    by_cases ha : a = []
    ·subst ha
     have hv : 0 = v := Option.some.inj e
     rw [List.nil_append,hc,Lib.decDigits_one (by omega)]
     congr 2
     omega
    ·have hlen : 1 ≤ a.length := List.length_pos_iff.mpr ha
     have hh : (a ++ [c]).head? = a.head? := by cases a with
      | nil => exact absurd rfl ha
      | cons _ _ => rfl
     rw [hh,List.length_append,List.length_singleton] at h0
     have h0 := h0 (by omega)
     have ea := ih a v (by omega) e ha (fun _ => h0)
     have hv : 1 ≤ v := by
      cases a with
      | nil => exact absurd rfl ha
      | cons x a =>
       simp only [Lib.decFrom] at e
       cases ex : Lib.digitVal x with
       | none => rw [ex] at e;cases e
       | some y =>
        rw [ex] at e
        have m := decFrom_mono a _ v e
        obtain ⟨hx,_,_⟩ := digitVal_some ex
        by_cases y0 : y = 0
        ·subst y0
         exact absurd (by rw [hx];rfl) h0
        ·omega
     rw [decDigits_big (by omega),hc]
     have e1 : u / 10 = v := by omega
     have e2 : u % 10 = d := by omega
     rw [e1,e2,ea]
theorem decDigits_head (u : Nat) (h : 10 ≤ u) : (Lib.decDigits u).head? ≠ some 48 := by
 induction u using Nat.strongRecOn with
 | _ u ih =>
  rw [decDigits_big (by omega)]
  by_cases h1 : u / 10 < 10
  ·rw [Lib.decDigits_one h1]
   intro e
   have e : UInt8.ofNat (48 + u / 10) = 48 := Option.some.inj e
   have e := congrArg UInt8.toNat e
   rw [ofNat_toNat (by omega)] at e
   have e : 48 + u / 10 = 48 := e
   omega
  ·have := ih (u / 10) (by omega) (by omega)
   cases hd : Lib.decDigits (u / 10) with
   | nil => exact absurd hd (decDigits_ne _)
   | cons x y => rw [hd] at this;exact this
theorem decDigits_digit {u : Nat} {b : UInt8} (h : b ∈ Lib.decDigits u) : 48 ≤ b.toNat ∧ b.toNat ≤ 57 := by
 obtain ⟨k,hk⟩ := List.mem_iff_getElem?.mp h
 obtain ⟨d,hd⟩ := Lib.digit_of_decFrom _ _ _ (decFrom_decDigits u) k b hk
 have := digitVal_some hd
 omega
theorem itoa_nat (u : Nat) : Lib.itoa (u : Int) = Lib.decDigits u := by
 unfold Lib.itoa
 rw [if_neg (by omega),Int.toNat_natCast]
theorem itoa_inj {a b : Int} (h : Lib.itoa a = Lib.itoa b) : a = b := by
 have d45 : ∀ u,∀ r,Lib.decDigits u ≠ 45 :: r := fun u r e => by
  have := decDigits_digit (u := u) (b := 45) (by rw [e];exact List.mem_cons_self ..)
  have : (45 : UInt8).toNat = 45 := rfl
  omega
 unfold Lib.itoa at h
 by_cases ha : a < 0
 ·rw [if_pos ha] at h
  by_cases hb : b < 0
  ·rw [if_pos hb] at h
   have e := congrArg (Lib.decFrom 0) (List.cons.inj h).2
   rw [decFrom_decDigits,decFrom_decDigits] at e
   have := Option.some.inj e
   omega
  ·rw [if_neg hb] at h
   exact absurd h.symm (d45 _ _)
 ·rw [if_neg ha] at h
  by_cases hb : b < 0
  ·rw [if_pos hb] at h
   exact absurd h (d45 _ _)
  ·rw [if_neg hb] at h
   have e := congrArg (Lib.decFrom 0) h
   rw [decFrom_decDigits,decFrom_decDigits] at e
   have := Option.some.inj e
   omega
def digs (u : Nat) : List UInt8 := if u = 0 then [] else Lib.decDigits u
theorem digs_step {u : Nat} (h : u ≠ 0) : digs u = digs (u / 10) ++ [UInt8.ofNat (48 + u % 10)] := by
 unfold digs
 rw [if_neg h]
 by_cases h1 : u < 10
 ·rw [if_pos (by omega),Lib.decDigits_one h1,Nat.mod_eq_of_lt h1]
  rfl
 ·rw [if_neg (by omega),decDigits_big h1]
theorem digit_num (u : Nat) : strOfNums [wrap64 (48 + ((u % 10 : Nat) : Int)) % 256] = bs [UInt8.ofNat (48 + u % 10)] := by
 rw [strOfNums_bs,w64 (by omega) (by omega)]
 congr 2
 show UInt8.ofNat ((48 + ((u % 10 : Nat) : Int)) % 256).toNat :: [] = _
 congr 2
 omega
theorem specDigits_l0 (neg : Bool) : ∀ (u : Nat) (n : Int) (t : List UInt8),n.natAbs = u → n ≤ 9223372036854775807 → -9223372036854775808 ≤ n → t.length + (digs u).length ≤ 100 →
  Ev (fun k => spec_Digits.l0 k n neg (bs t)) (bs ((if neg = true then [45] else []) ++ (digs u ++ t))) := by
 intro u
 induction u using Nat.strongRecOn with
 | _ u ih =>
  intro n t hu h1 h0 ht
  refine ev_succ ?_
  simp only [spec_Digits.l0,Option.bind_some]
  by_cases hz : n = 0
  ·subst hz
   obtain rfl : (0 : Nat) = u := hu
   refine ev_pos rfl ?_
   cases neg with
   | true =>
    refine ev_pos rfl (ev_pos (by rw [bs_size];omega) (ev_eq (Ev.now _) ?_))
    exact bs_append [45] t
   | false => exact ev_neg (by decide) (Ev.now _)
  ·have hr : n = -(u : Int) ∨ n = (u : Int) := by omega
   have hu0 : u ≠ 0 := by omega
   have et : wrap64 (Int.tdiv n 10) = Int.tdiv n 10 := by
    rcases hr with e | e <;> rw [e]
    ·rw [Int.neg_tdiv]
     show wrap64 (-Int.tdiv (u : Int) ((10 : Nat) : Int)) = _
     rw [← Int.ofNat_tdiv];exact w64 (by omega) (by omega)
    ·show wrap64 (Int.tdiv (u : Int) ((10 : Nat) : Int)) = _
     rw [← Int.ofNat_tdiv];exact w64 (by omega) (by omega)
   have en : (Int.tdiv n 10).natAbs = u / 10 := by
    rw [Int.natAbs_tdiv,hu];rfl
   have hl := congrArg List.length (digs_step hu0)
   rw [List.length_append,List.length_singleton] at hl
   have go : Ev (fun k => spec_Digits.l0 k (wrap64 (Int.tdiv n 10)) neg (bs ([UInt8.ofNat (48 + u % 10)] ++ t))) (bs ((if neg = true then [45] else []) ++ (digs u ++ t))) := by
    rw [et]
    refine ev_eq (ih (u / 10) (by omega) _ _ en ?_ ?_ ?_) (by rw [digs_step hu0,List.append_assoc])
    ·omega
    ·omega
    ·rw [List.length_append,List.length_singleton]
     omega
   have hm : Int.tmod n 10 = -((u % 10 : Nat) : Int) ∨ Int.tmod n 10 = ((u % 10 : Nat) : Int) := by
    rcases hr with e | e <;> rw [e]
    ·left
     rw [Int.neg_tmod]
     show -Int.tmod (u : Int) ((10 : Nat) : Int) = _
     rw [← Int.ofNat_tmod]
    ·right
     show Int.tmod (u : Int) ((10 : Nat) : Int) = _
     rw [← Int.ofNat_tmod]
   refine ev_neg hz ?_
   by_cases hb : Int.tmod n 10 < 0
   ·refine ev_pos hb ?_
    have e1 : wrap64 (-(Int.tmod n 10)) = ((u % 10 : Nat) : Int) := by
     rw [w64 (by omega) (by omega)];omega
    rw [e1,digit_num,bs_append]
    exact ev_pos (by rw [bs_size,bs_size,List.length_singleton];omega) go
   ·refine ev_neg hb ?_
    have e1 : Int.tmod n 10 = ((u % 10 : Nat) : Int) := by omega
    rw [e1,digit_num,bs_append]
    exact ev_pos (by rw [bs_size,bs_size,List.length_singleton];omega) go
theorem specDigits (n : Int) (h0 : -9223372036854775808 ≤ n) (h1 : n ≤ 9223372036854775807) : Ev (fun k => spec_Digits.f k n) (bs (Lib.itoa n)) := by
 unfold spec_Digits.f
 by_cases hz : n = 0
 ·subst hz
  exact ev_pos rfl (ev_eq (Ev.now _) (by rw [show Lib.itoa 0 = Lib.decDigits 0 from itoa_nat 0,Lib.decDigits_one (by omega)];rfl))
 ·have hd : digs n.natAbs = Lib.decDigits n.natAbs := by unfold digs;rw [if_neg (by omega)]
  refine ev_neg hz (ev_eq (specDigits_l0 _ n.natAbs n [] rfl h1 h0 (by have := Lib.nDigits_le20 n.natAbs (by omega);rw [hd,Lib.decDigits_length,List.length_nil];omega)) ?_)
  congr 1
  rw [hd,List.append_nil]
  unfold Lib.itoa
  by_cases h : n < 0
  ·rw [if_pos h,if_pos (decide_eq_true h)]
   rfl
  ·rw [if_neg h,if_neg (by simpa using h)]
   have : n.natAbs = n.toNat := by omega
   rw [this]
   rfl
noncomputable def intText (l : List UInt8) : Int × Bool := open Classical in if h : ∃ n : Int,-9223372036854775808 ≤ n ∧ n ≤ 9223372036854775807 ∧ Lib.itoa n = l then (h.choose,true) else (0,false)
theorem intText_itoa {n : Int} (h0 : -9223372036854775808 ≤ n) (h1 : n ≤ 9223372036854775807) : intText (Lib.itoa n) = (n,true) := by
 have h : ∃ m : Int,-9223372036854775808 ≤ m ∧ m ≤ 9223372036854775807 ∧ Lib.itoa m = Lib.itoa n := ⟨n,h0,h1,rfl⟩
 unfold intText
 rw [dif_pos h]
 exact congrArg (·,true) (itoa_inj h.choose_spec.2.2)
theorem intText_none {l : List UInt8} (h : ∀ n : Int,-9223372036854775808 ≤ n → n ≤ 9223372036854775807 → Lib.itoa n ≠ l) : intText l = (0,false) := by
 unfold intText
 rw [dif_neg]
 rintro ⟨n,h0,h1,h2⟩
 exact h n h0 h1 h2
theorem intText_cases (l : List UInt8) : (∃ n : Int,-9223372036854775808 ≤ n ∧ n ≤ 9223372036854775807 ∧ Lib.itoa n = l ∧ intText l = (n,true)) ∨ ((∀ n : Int,-9223372036854775808 ≤ n → n ≤ 9223372036854775807 → Lib.itoa n ≠ l) ∧ intText l = (0,false)) := by
 by_cases h : ∃ n : Int,-9223372036854775808 ≤ n ∧ n ≤ 9223372036854775807 ∧ Lib.itoa n = l
 ·obtain ⟨n,h0,h1,rfl⟩ := h
  exact Or.inl ⟨n,h0,h1,rfl,intText_itoa h0 h1⟩
 ·have h' : ∀ n : Int,-9223372036854775808 ≤ n → n ≤ 9223372036854775807 → Lib.itoa n ≠ l := fun n h0 h1 h2 => h ⟨n,h0,h1,h2⟩
  exact Or.inr ⟨h',intText_none h'⟩
theorem itoa_neg {n : Int} (h : n < 0) : Lib.itoa n = 45 :: Lib.decDigits n.natAbs := by
 unfold Lib.itoa
 first | rw [if_pos h] | (simp [h])
theorem itoa_pos {n : Int} (h : 0 ≤ n) : Lib.itoa n = Lib.decDigits n.natAbs := by
 obtain ⟨u,rfl⟩ := Int.eq_ofNat_of_zero_le h
 exact itoa_nat u
theorem itoa_cons {n : Int} {r : List UInt8} (h : Lib.itoa n = 45 :: r) : n < 0 ∧ Lib.decDigits n.natAbs = r := by
 by_cases hn : n < 0
 ·rw [itoa_neg hn] at h
  exact ⟨hn,(List.cons.inj h).2⟩
 ·rw [itoa_pos (by omega)] at h
  have := decDigits_digit (u := n.natAbs) (b := 45) (by rw [h];exact List.mem_cons_self ..)
  exact absurd this.1 (by decide)
theorem itoa_head {n : Int} {l : List UInt8} (h : Lib.itoa n = l) (hl : l.head? ≠ some 45) : 0 ≤ n ∧ Lib.decDigits n.natAbs = l := by
 by_cases hn : n < 0
 ·rw [itoa_neg hn] at h
  subst h
  exact absurd rfl hl
 ·rw [itoa_pos (by omega)] at h
  exact ⟨by omega,h⟩
theorem digit_byte {b : UInt8} (h0 : 48 ≤ b.toNat) (h1 : b.toNat ≤ 57) : Lib.digitVal b = some (b.toNat - 48) := by
 have : b = UInt8.ofNat (48 + (b.toNat - 48)) := by
  apply UInt8.toNat_inj.1
  rw [UInt8.toNat_ofNat']
  omega
 rw [this,digitVal_dg (by omega),UInt8.toNat_ofNat']
 congr 1
 omega
theorem digit_bad {b : UInt8} (h : ¬ (48 ≤ b.toNat ∧ b.toNat ≤ 57)) : Lib.digitVal b = none := by
 cases e : Lib.digitVal b with
 | none => rfl
 | some d =>
  have := digitVal_some e
  omega
theorem decFrom_cons (acc : Nat) (b : UInt8) (l : List UInt8) : Lib.decFrom acc (b :: l) = (Lib.digitVal b).bind fun d => Lib.decFrom (acc * 10 + d) l := by
 rw [Lib.decFrom]
 cases Lib.digitVal b <;> rfl
theorem nDigits_le : ∀ (k u : Nat),u < 10 ^ (k + 1) → Lib.nDigits u ≤ k + 1
 | 0,u,h => by rw [Lib.nDigits_small (by simpa using h)];omega
 | k + 1,u,h => by
  by_cases hu : u < 10
  ·rw [Lib.nDigits_small hu];omega
  ·rw [Lib.nDigits_big hu]
   have := nDigits_le k (u / 10) (by rw [Nat.pow_succ] at h;omega)
   omega
theorem u8_lt (b : UInt8) : b.toNat < 256 := UInt8.toNat_lt b
def partsL (c : UInt8) : List UInt8 → List (List UInt8)
 | [] => [[]]
 | b :: l => if b = c then [] :: partsL c l else match partsL c l with
  | [] => [[b]]
  | p :: r => (b :: p) :: r
def addHead (w : List UInt8) : List (List UInt8) → List (List UInt8)
 | [] => [w]
 | p :: r => (w ++ p) :: r
theorem partsL_ne (c : UInt8) (l : List UInt8) : partsL c l ≠ [] := by
 cases l with
 | nil => simp [partsL]
 | cons b l =>
  unfold partsL
  split
  ·simp
  ·split <;> simp
theorem addHead_nil {ps : List (List UInt8)} (h : ps ≠ []) : addHead [] ps = ps := by
 cases ps with
 | nil => exact absurd rfl h
 | cons p r => rfl
theorem addHead_hit (c : UInt8) (w l : List UInt8) : addHead w (partsL c (c :: l)) = w :: partsL c l := by
 rw [partsL,if_pos rfl]
 simp [addHead]
theorem addHead_miss {c b : UInt8} (h : b ≠ c) (w l : List UInt8) : addHead w (partsL c (b :: l)) = addHead (w ++ [b]) (partsL c l) := by
 rw [partsL,if_neg h]
 cases partsL c l with
 | nil => rfl
 | cons p r => simp [addHead]
theorem pz_wB {s : ByteArray} {b : UInt8} {l : List UInt8} (hs : s.size ≤ 1000000000) (h : b :: l <:+ s.data.toList) : wrap64 (pz s (b :: l) + 1) = pz s l := by
 have h1 := pz_pos h
 have h2 := pz_le s (b :: l)
 rw [w64 (by omega) (by omega),pz_succ]
theorem ext_mid {s : ByteArray} {w l : List UInt8} (h : w ++ l <:+ s.data.toList) : s.extract (pz s (w ++ l)).toNat (pz s l).toNat = bs w := by
 refine ba_ext ?_
 rw [ByteArray.data_extract,Array.toList_extract,List.extract_eq_take_drop,list_bs,pz_toNat h]
 have h0 := pz_pos h
 rw [show (pz s l).toNat - (pz s (w ++ l)).toNat = w.length from by unfold pz at h0 ⊢;rw [List.length_append] at h0 ⊢;omega]
 exact List.take_left
theorem specParts_l0 (s : ByteArray) (c : UInt8) (hs : s.size ≤ 1000000000) : ∀ (l w : List UInt8) (out : List ByteArray),w ++ l <:+ s.data.toList → out.length + l.length ≤ 1000000000 →
  Ev (fun k => spec_Parts.l0 k s (c.toNat : Int) out (pz s (w ++ l)) (pz s l)) (out ++ (addHead w (partsL c l)).map bs) := by
 intro l
 induction l with
 | nil =>
  intro w out ht ho
  have h0 := pz_pos ht
  have h1 := pz_le s (w ++ [])
  refine ev_succ ?_
  simp only [spec_Parts.l0]
  refine ev_pos (by rw [pz_nil];exact Int.le_refl _) (ev_pos (pz_nil s) (ev_pos h0 (ev_pos (by rw [pz_nil];exact h1) (ev_pos (by omega) (ev_succ ?_)))))
  simp only [spec_Parts.l0]
  refine ev_neg (by rw [pz_nil,w64 (by omega) (by omega)];omega) (ev_eq (Ev.now _) ?_)
  rw [ext_mid ht]
  simp [partsL,addHead]
 | cons b l ih =>
  intro w out ht ho
  have hb : b :: l <:+ s.data.toList := (List.suffix_append w _).trans ht
  have h0 := pz_pos ht
  rw [List.length_cons] at ho
  refine ev_succ ?_
  simp only [spec_Parts.l0]
  refine ev_pos (pz_le _ _) (ev_neg (by have := @pz_lt s b l;omega) (ev_pos (pz_pos hb) (ev_pos pz_lt ?_)))
  simp only [bt_pz hb,pz_wB hs hb]
  by_cases h : b = c
  ·subst h
   refine ev_pos rfl (ev_pos h0 (ev_pos (by unfold pz;rw [List.length_append];omega) (ev_pos (by omega) ?_)))
   rw [ext_mid ht,addHead_hit]
   have := ih [] (out ++ [bs w]) (tail_cons hb) (by rw [List.length_append,List.length_singleton];omega)
   rw [addHead_nil (partsL_ne b l)] at this
   refine ev_eq this ?_
   simp
  ·refine ev_neg (fun e => h (UInt8.toNat_inj.1 (by omega))) ?_
   rw [addHead_miss h]
   have := ih (w ++ [b]) out (by rw [List.append_assoc];exact ht) (by omega)
   rwa [List.append_assoc] at this
theorem specParts_f (s : ByteArray) (c : UInt8) (hs : s.size ≤ 1000000000) : Ev (fun k => spec_Parts.f k s (c.toNat : Int)) ((partsL c s.data.toList).map bs) := by
 unfold spec_Parts.f
 have hl : s.data.toList.length = s.size := data_length ..
 have := specParts_l0 s c hs s.data.toList [] [] (List.suffix_refl _) (by rw [hl,List.length_nil];omega)
 rw [List.nil_append,pz_all,addHead_nil (partsL_ne _ _)] at this
 exact this
def cutAt (c : UInt8) (l : List UInt8) : List UInt8 × Option (List UInt8) := match l with
 | [] => ([],none)
 | b :: r => if b = c then ([],some r) else (b :: (cutAt c r).1,(cutAt c r).2)
def restParts (c : UInt8) : Option (List UInt8) → List (List UInt8)
 | none => []
 | some p => partsL c p
def restLen : Option (List UInt8) → Nat
 | none => 0
 | some p => p.length + 1
theorem partsL_cut (c : UInt8) : ∀ l : List UInt8,partsL c l = (cutAt c l).1 :: restParts c (cutAt c l).2
 | [] => rfl
 | b :: l => by
  have ih := partsL_cut c l
  rw [partsL,cutAt]
  by_cases h : b = c
  ·simp only [if_pos h]
   rfl
  ·simp only [if_neg h]
   rw [ih]
theorem cutAt_none {c : UInt8} : ∀ {l : List UInt8},(cutAt c l).2 = none → c ∉ l ∧ (cutAt c l).1 = l
 | [],_ => ⟨by simp,rfl⟩
 | b :: l,h => by
  unfold cutAt at h ⊢
  by_cases hb : b = c
  ·rw [if_pos hb] at h;cases h
  ·rw [if_neg hb] at h ⊢
   obtain ⟨h1,h2⟩ := cutAt_none (l := l) h
   exact ⟨by simp [h1];exact fun e => hb e.symm,by simp [h2]⟩
theorem cutAt_some {c : UInt8} : ∀ {l p : List UInt8},(cutAt c l).2 = some p → c ∉ (cutAt c l).1 ∧ l = (cutAt c l).1 ++ c :: p
 | [],p,h => by cases h
 | b :: l,p,h => by
  unfold cutAt at h ⊢
  by_cases hb : b = c
  ·rw [if_pos hb] at h ⊢
   cases h
   exact ⟨by simp,by simp [hb]⟩
  ·rw [if_neg hb] at h ⊢
   obtain ⟨h1,h2⟩ := cutAt_some (l := l) h
   refine ⟨by simp [h1];exact fun e => hb e.symm,?_⟩
   simp only [List.cons_append]
   rw [← h2]
theorem cutAt_length (c : UInt8) (l : List UInt8) : (cutAt c l).1.length + restLen (cutAt c l).2 = l.length := by
 cases h : (cutAt c l).2 with
 | none => simp [(cutAt_none h).2,restLen]
 | some p =>
  have := congrArg List.length (cutAt_some h).2
  rw [List.length_append,List.length_cons] at this
  simp only [restLen]
  omega
theorem index_cutAt (c : UInt8) : ∀ l : List UInt8,Lib.index l [c] = if (cutAt c l).2 = none then -1 else ((cutAt c l).1.length : Int)
 | [] => rfl
 | b :: l => by
  have ih := index_cutAt c l
  unfold Lib.index cutAt
  rw [ih]
  by_cases h : b = c
  ·subst h
   simp [List.isPrefixOf]
  ·have h1 : ([c].isPrefixOf (b :: l)) = false := by simp [List.isPrefixOf];exact fun e => h e.symm
   rw [h1,if_neg (by simp),if_neg h]
   by_cases hn : (cutAt c l).2 = none
   ·simp [hn]
   ·simp only [if_neg hn]
    rw [if_neg (by simp),List.length_cons]
    push_cast
    rfl
theorem cut_cutAt (c : UInt8) (l : List UInt8) : Lib.cut l [c] = ((cutAt c l).1,(cutAt c l).2.getD [],(cutAt c l).2.isSome) := by
 unfold Lib.cut
 rw [index_cutAt]
 cases h : (cutAt c l).2 with
 | none =>
  rw [if_pos rfl,if_neg (by decide),(cutAt_none h).2]
  rfl
 | some p =>
  rw [if_neg (show ¬ (some p = none) from fun e => by cases e),if_pos (by omega),Int.toNat_natCast]
  have e := (cutAt_some h).2
  generalize (cutAt c l).1 = w at e ⊢
  subst e
  rw [List.take_left,List.length_singleton,List.drop_append,List.drop_of_length_le (by omega)]
  simp
noncomputable def wNum (w : List UInt8) : Option Nat := open Classical in if ∃ u,Lib.decDigits u = w then Lib.decFrom 0 w else none
def pNum : Option (List UInt8) → Option Nat
 | none => some 0
 | some p => if 1 ≤ p.length ∧ p.length ≤ 3 then Lib.decFrom 0 (p ++ List.replicate (3 - p.length) 48) else none
def fixSign (neg : Bool) : Option Nat → Int × Bool
 | none => (0,false)
 | some n => if n ≤ 2147483647 then (if neg = true then -(n : Int) else (n : Int),true) else (0,false)
noncomputable def fixNum (w : List UInt8) (p : Option (List UInt8)) : Option Nat := (wNum w).bind fun u => (pNum p).map fun v => 1000 * u + v
noncomputable def fixBody (neg : Bool) (l : List UInt8) : Int × Bool := fixSign neg (fixNum (cutAt 46 l).1 (cutAt 46 l).2)
noncomputable def readFix : List UInt8 → Int × Bool
 | [] => fixBody false []
 | b :: l => if b = 45 then fixBody true l else fixBody false (b :: l)
theorem wNum_dec (u : Nat) : wNum (Lib.decDigits u) = some u := by
 unfold wNum
 rw [if_pos ⟨u,rfl⟩,decFrom_decDigits]
theorem wNum_some {w : List UInt8} {u : Nat} (h : wNum w = some u) : Lib.decDigits u = w := by
 unfold wNum at h
 split at h
 ·rename_i hex
  obtain ⟨v,rfl⟩ := hex
  rw [decFrom_decDigits] at h
  rw [Option.some.inj h]
 ·cases h
theorem pNum_len {p : List UInt8} {v : Nat} (h : pNum (some p) = some v) : 1 ≤ p.length ∧ p.length ≤ 3 := by
 simp only [pNum] at h
 by_cases hp : 1 ≤ p.length ∧ p.length ≤ 3
 ·exact hp
 ·rw [if_neg hp] at h
  cases h
theorem fixBody_long {neg : Bool} {l : List UInt8} (h : 19 < l.length) : fixBody neg l = (0,false) := by
 unfold fixBody fixNum
 cases hw : wNum (cutAt 46 l).1 with
 | none => rfl
 | some u =>
  cases hp : pNum (cutAt 46 l).2 with
  | none => rfl
  | some v =>
   show fixSign neg (some (1000 * u + v)) = _
   unfold fixSign
   simp only
   rw [if_neg]
   intro hb
   have h1 := congrArg List.length (wNum_some hw)
   rw [Lib.decDigits_length] at h1
   have h2 := nDigits_le 9 u (by omega)
   have h3 := cutAt_length 46 l
   cases hq : (cutAt 46 l).2 with
   | none => rw [hq] at h3;simp only [restLen] at h3;omega
   | some p =>
    rw [hq] at h3 hp
    have := pNum_len hp
    simp only [restLen] at h3
    omega
theorem decFrom_mem : ∀ {l : List UInt8} {acc n : Nat} {b : UInt8},Lib.decFrom acc l = some n → b ∈ l → 48 ≤ b.toNat ∧ b.toNat ≤ 57
 | [],_,_,_,_,h => by cases h
 | c :: l,acc,n,b,e,h => by
  rw [decFrom_cons] at e
  obtain ⟨d,hd,e⟩ := Option.bind_eq_some_iff.mp e
  rcases List.mem_cons.mp h with rfl | h
  ·have := digitVal_some hd
   omega
  ·exact decFrom_mem e h
theorem extract_first (c : UInt8) (l : List UInt8) : (bs (c :: l)).extract 1 (bs (c :: l)).size = bs l := by
 apply ba_ext
 rw [ByteArray.data_extract,Array.toList_extract,List.extract_eq_take_drop,list_bs,list_bs,bs_size]
 simp
theorem csvGo_sizes (N : Nat) : ∀ (K : Nat) (l : List UInt8) (rows : List (List ByteArray)) (row : List ByteArray),l.length ≤ N → (∀ r ∈ rows,∀ x ∈ r,x.size ≤ N) → (∀ x ∈ row,x.size ≤ N) → ∀ r ∈ (csvGo K l rows row).1,∀ x ∈ r,x.size ≤ N := by
 intro K
 induction K with
 | zero => intro l rows row _ hR _;exact hR
 | succ K ih =>
  intro l rows row hl hR hr
  unfold csvGo
  by_cases h : l = [] ∧ row = []
  ·rw [if_pos h];exact hR
  rw [if_neg h]
  cases e : csvField l with
  | none => intro r hr;cases hr
  | some p =>
   obtain ⟨f,l1⟩ := p
   have hf := csvField_length e
   simp only
   cases e2 : csvAfter l1 with
   | none => intro r hr;cases hr
   | some q =>
    obtain ⟨z,l2⟩ := q
    have ha := csvAfter_length e2
    have hrow : ∀ x ∈ row ++ [(⟨f.toArray⟩ : ByteArray)],x.size ≤ N := by
     intro x hx
     rcases List.mem_append.mp hx with h | h
     ·exact hr x h
     ·rw [List.mem_singleton.mp h]
      show (bs f).size ≤ N
      rw [bs_size]
      omega
    cases z with
    | false => exact ih l2 rows _ (by omega) hR hrow
    | true =>
     refine ih l2 _ [] (by omega) ?_ (fun x hx => by cases hx)
     intro r hr2
     rcases List.mem_append.mp hr2 with h | h
     ·exact hR r h
     ·rw [List.mem_singleton.mp h];exact hrow
theorem readCsv_sizes (s : ByteArray) : ∀ r ∈ (readCsv s).1,∀ x ∈ r,x.size ≤ 4000 := by
 unfold readCsv
 by_cases h : s.size > 4000
 ·rw [if_pos h]
  intro r hr
  cases hr
 ·rw [if_neg h]
  have hl : s.data.toList.length = s.size := data_length ..
  exact csvGo_sizes 4000 _ _ _ _ (by omega) (fun r hr => by cases hr) (fun x hx => by cases hx)
noncomputable def tRow : List ByteArray → Nat → List Int × Option Nat
 | [],_ => ([],none)
 | x :: r,k => if (readFix x.data.toList).2 = true then ((readFix x.data.toList).1 :: (tRow r (k + 1)).1,(tRow r (k + 1)).2) else ([],some k)
noncomputable def tRows (n : Nat) : List (List ByteArray) → Nat → List (List Int) → List (List Int) × Int × Int × Int
 | [],_,acc => (acc,0,0,0)
 | row :: r,i,acc => if row.length = n then (match (tRow row 0).2 with
   | none => tRows n r (i + 1) (acc ++ [(tRow row 0).1])
   | some k => ([],9,i,k))
  else ([],4,i,0)
noncomputable def headFrom (l : List ByteArray) : Nat → Nat → Option (Int × Nat)
 | 0,_ => none
 | d + 1,j => open Classical in if IsName (sAt l j) then (if HasP l j (sAt l j) then some (6,j) else headFrom l d (j + 1)) else some (5,j)
abbrev TabR := List ByteArray × ByteArray × List (List Int) × List Int × Int × Int × Int
def badT (a b c : Int) : TabR := ([],(⟨#[]⟩ : ByteArray),[],[],a,b,c)
noncomputable def tabEnd (names : List ByteArray) (r : List (List Int) × Int × Int × Int) : TabR := if r.2.1 = 0 then (names.take (names.length - 1),sAt names (names.length - 1),r.1.map (fun x => x.take (names.length - 1)),r.1.map (fun x => rd x ((names.length - 1 : Nat) : Int)),0,0,0) else badT r.2.1 r.2.2.1 r.2.2.2
noncomputable def tabBody (names : List ByteArray) (rest : List (List ByteArray)) : TabR :=
 if 2 ≤ names.length ∧ names.length ≤ 5 then (match headFrom names names.length 0 with
  | some p => badT p.1 0 p.2
  | none => if 1 ≤ rest.length ∧ rest.length ≤ 40 then tabEnd names (tRows names.length rest 1 []) else badT 8 0 0)
 else badT 7 0 0
noncomputable def readTable (s : ByteArray) : TabR := if (readCsv s).2.1 = 0 then (match (readCsv s).1 with
  | [] => badT 3 0 0
  | names :: rest => tabBody names rest)
 else badT (readCsv s).2.1 (readCsv s).2.2.1 (readCsv s).2.2.2
theorem tRow_length : ∀ (row : List ByteArray) (k : Nat),(tRow row k).2 = none → (tRow row k).1.length = row.length
 | [],_,_ => rfl
 | x :: r,k,h => by
  unfold tRow at h ⊢
  by_cases hx : (readFix x.data.toList).2 = true
  ·rw [if_pos hx] at h ⊢
   rw [List.length_cons,List.length_cons,tRow_length r (k + 1) h]
  ·rw [if_neg hx] at h;cases h
theorem tRows_fault (n : Nat) : ∀ (rows : List (List ByteArray)) (i : Nat) (acc : List (List Int)),(tRows n rows i acc).2.1 = 0 → (tRows n rows i acc).2 = (0,0,0)
 | [],_,_,_ => rfl
 | row :: r,i,acc,h => by
  unfold tRows at h ⊢
  by_cases hn : row.length = n
  ·rw [if_pos hn] at h ⊢
   cases e : (tRow row 0).2 with
   | none => rw [e] at h;exact tRows_fault n r (i + 1) _ h
   | some k => rw [e] at h;simp at h
  ·rw [if_neg hn] at h;simp at h
theorem csvGo_fault : ∀ (K : Nat) (l : List UInt8) (rows : List (List ByteArray)) (row : List ByteArray),(csvGo K l rows row).2.1 = 0 → (csvGo K l rows row).2 = (0,0,0)
 | 0,_,_,_,_ => rfl
 | K + 1,l,rows,row,h => by
  unfold csvGo at h ⊢
  by_cases hh : l = [] ∧ row = []
  ·rw [if_pos hh]
  rw [if_neg hh] at h ⊢
  cases e : csvField l with
  | none => rw [e] at h;simp at h
  | some p =>
   obtain ⟨f,l1⟩ := p
   rw [e] at h
   simp only at h ⊢
   cases e2 : csvAfter l1 with
   | none => rw [e2] at h;simp at h
   | some q =>
    obtain ⟨z,l2⟩ := q
    rw [e2] at h
    cases z with
    | false => exact csvGo_fault K l2 rows _ h
    | true => exact csvGo_fault K l2 _ [] h
theorem readCsv_fault {s : ByteArray} (h : (readCsv s).2.1 = 0) : (readCsv s).2 = (0,0,0) := by
 unfold readCsv at h ⊢
 by_cases hs : s.size > 4000
 ·rw [if_pos hs] at h;simp at h
 ·rw [if_neg hs] at h ⊢
  exact csvGo_fault _ _ _ _ h
theorem headFrom_code {l : List ByteArray} : ∀ {d j : Nat} {p : Int × Nat},headFrom l d j = some p → ¬ p.1 = 0
 | 0,_,_,h => by cases h
 | d + 1,j,p,h => by
  unfold headFrom at h
  split at h
  ·split at h
   ·cases h;exact (by decide : ¬ (6 : Int) = 0)
   ·exact headFrom_code h
  ·cases h;exact (by decide : ¬ (5 : Int) = 0)
theorem csvGo_counts (N : Nat) : ∀ (K : Nat) (l : List UInt8) (rows : List (List ByteArray)) (row : List ByteArray),rows.length + row.length + csvLeft l row ≤ N → (∀ r ∈ rows,r.length ≤ N) → (csvGo K l rows row).1.length ≤ N ∧ ∀ r ∈ (csvGo K l rows row).1,r.length ≤ N := by
 intro K
 induction K with
 | zero => intro l rows row h hR;exact ⟨by show rows.length ≤ N;omega,hR⟩
 | succ K ih =>
  intro l rows row hl hR
  unfold csvGo
  by_cases h : l = [] ∧ row = []
  ·rw [if_pos h];exact ⟨by show rows.length ≤ N;omega,hR⟩
  rw [if_neg h]
  cases e : csvField l with
  | none => exact ⟨Nat.zero_le _,fun r hr => by cases hr⟩
  | some p =>
   obtain ⟨f,l1⟩ := p
   simp only
   cases e2 : csvAfter l1 with
   | none => exact ⟨Nat.zero_le _,fun r hr => by cases hr⟩
   | some q =>
    obtain ⟨z,l2⟩ := q
    cases z with
    | false =>
     have a := csvLeft_more (row := row) (x := ⟨f.toArray⟩) e e2
     exact ih l2 rows _ (by rw [List.length_append,List.length_singleton];omega) hR
    | true =>
     have a := csvLeft_end h e e2
     refine ih l2 _ [] (by rw [List.length_append,List.length_singleton,List.length_nil];omega) ?_
     intro r hr
     rcases List.mem_append.mp hr with hm | hm
     ·exact hR r hm
     ·rw [List.mem_singleton.mp hm,List.length_append,List.length_singleton]
      omega
theorem readCsv_counts (s : ByteArray) : (readCsv s).1.length ≤ 9000 ∧ ∀ r ∈ (readCsv s).1,r.length ≤ 9000 := by
 unfold readCsv
 by_cases h : s.size > 4000
 ·rw [if_pos h]
  exact ⟨Nat.zero_le _,fun r hr => by cases hr⟩
 ·rw [if_neg h]
  have hl : s.data.toList.length = s.size := data_length ..
  exact csvGo_counts 9000 _ _ _ _ (by unfold csvLeft;rw [if_pos rfl];simp;omega) (fun r hr => by cases hr)
theorem tRows_cons (n : Nat) (row : List ByteArray) (r : List (List ByteArray)) (i : Nat) (acc : List (List Int)) : tRows n (row :: r) i acc = if row.length = n then (match (tRow row 0).2 with
   | none => tRows n r (i + 1) (acc ++ [(tRow row 0).1])
   | some k => ([],(9 : Int),(i : Int),(k : Int)))
  else ([],(4 : Int),(i : Int),(0 : Int)) := rfl
theorem toList_bs (l : List UInt8) : (bs l).toList = l := by rw [ByteArray.toList_eq,list_bs]
noncomputable def intEnd (l : List UInt8) (neg : Bool) (o : Option Nat) : Int × Bool := open Classical in match o with
 | none => (0,false)
 | some u => if u > 9223372036854775808 ∨ (neg = false ∧ u = 9223372036854775808) then (0,false)
  else if Lib.itoa (if neg = true then -(u : Int) else (u : Int)) = l then ((if neg = true then -(u : Int) else (u : Int)),true) else (0,false)
theorem intEnd_some (l : List UInt8) (neg : Bool) (u : Nat) : intEnd l neg (some u) = if u > 9223372036854775808 ∨ (neg = false ∧ u = 9223372036854775808) then (0,false)
  else if Lib.itoa (if neg = true then -(u : Int) else (u : Int)) = l then ((if neg = true then -(u : Int) else (u : Int)),true) else (0,false) := rfl
theorem itoa_len20 {n : Int} (h0 : -9223372036854775808 ≤ n) (h1 : n ≤ 9223372036854775807) : (Lib.itoa n).length ≤ 20 := by
 have key : ∀ u : Nat,u ≤ 9223372036854775808 → (Lib.decDigits u).length ≤ 19 := by
  intro u hu
  rw [Lib.decDigits_length]
  exact nDigits_le 18 u (by omega)
 by_cases hn : n < 0
 ·rw [itoa_neg hn,List.length_cons]
  have := key n.natAbs (by omega)
  omega
 ·rw [itoa_pos (by omega)]
  have := key n.natAbs (by omega)
  omega
theorem cut_at (v : Nat) (d : Nat) (h : d ≤ 9) : (-(v : Int) < wrap64 (Int.tdiv ((-9223372036854775808) + (d : Int)) 10)) ↔ v * 10 + d > 9223372036854775808 := by
 have e : Int.tdiv ((-9223372036854775808) + (d : Int)) 10 = -(((9223372036854775808 - d) / 10 : Nat) : Int) := by
  rw [show (-9223372036854775808 : Int) + (d : Int) = -((9223372036854775808 - d : Nat) : Int) from by omega,Int.neg_tdiv]
  rfl
 rw [e,w64 (by omega) (by omega)]
 omega
theorem intEnd_big {l : List UInt8} {neg : Bool} {v : Nat} {r : List UInt8} (h : v > 9223372036854775808) : intEnd l neg (Lib.decFrom v r) = (0,false) := by
 cases e : Lib.decFrom v r with
 | none => rfl
 | some u =>
  have := decFrom_mono _ _ _ e
  rw [intEnd_some,if_pos (Or.inl (by omega))]
theorem specInt_l0 (s : ByteArray) (hs : s.size ≤ 20) (neg : Bool) : ∀ (l : List UInt8) (v : Nat),l <:+ s.data.toList → v ≤ 9223372036854775808 →
  Ev (fun k => spec_IntText.l0 k s (if neg = true then 1 else 0) (-(v : Int)) (pz s l)) (intEnd s.data.toList neg (Lib.decFrom v l)) := by
 intro l
 induction l with
 | nil =>
  intro v ht hv
  refine ev_succ ?_
  simp only [spec_IntText.l0]
  refine ev_neg (by rw [pz_nil];exact Int.lt_irrefl _) ?_
  rw [show Lib.decFrom v [] = some v from rfl,intEnd_some]
  cases neg with
  | false =>
   refine ev_pos (by simp) ?_
   by_cases he : v = 9223372036854775808
   ·subst he
    refine ev_pos (by decide) (ev_eq (Ev.now _) ?_)
    rw [if_pos (Or.inr ⟨rfl,rfl⟩)]
   ·refine ev_neg (by omega) ?_
    rw [show wrap64 (-(-(v : Int))) = (v : Int) from by rw [Int.neg_neg];exact w64 (by omega) (by omega)]
    rw [if_neg (by simp [he];omega)]
    refine (specDigits (v : Int) (by omega) (by omega)).bind ?_
    simp only [toList_bs,ByteArray.toList_eq]
    by_cases h : Lib.itoa (v : Int) = s.data.toList
    ·exact ev_pos h (ev_eq (Ev.now _) (by simp [h]))
    ·exact ev_neg h (ev_eq (Ev.now _) (by simp [h]))
  | true =>
   refine ev_neg (by simp) ?_
   rw [if_neg (by simp;omega)]
   refine (specDigits (-(v : Int)) (by omega) (by omega)).bind ?_
   simp only [toList_bs,ByteArray.toList_eq]
   by_cases h : Lib.itoa (-(v : Int)) = s.data.toList
   ·exact ev_pos h (ev_eq (Ev.now _) (by simp [h]))
   ·exact ev_neg h (ev_eq (Ev.now _) (by simp [h]))
 | cons b l ih =>
  intro v ht hv
  have hb := u8_lt b
  refine ev_succ ?_
  simp only [spec_IntText.l0]
  refine ev_pos pz_lt (ev_pos (pz_pos ht) ?_)
  simp only [bt_pz ht]
  by_cases h0 : b.toNat < 48
  ·refine ev_pos (by omega) (ev_succ ?_)
   simp only [spec_IntText.j3]
   refine ev_pos (by first | rfl | trivial) (ev_eq (Ev.now _) ?_)
   rw [decFrom_cons,digit_bad (by omega)]
   rfl
  refine ev_neg (by omega) (ev_succ ?_)
  simp only [spec_IntText.j3]
  by_cases h1 : b.toNat > 57
  ·refine ev_pos (decide_eq_true (by omega)) (ev_eq (Ev.now _) ?_)
   rw [decFrom_cons,digit_bad (by omega)]
   rfl
  refine ev_neg (by simp;omega) (ev_pos (pz_pos ht) (ev_pos pz_lt ?_))
  simp only [bt_pz ht]
  have hd : ((b.toNat : Int) - 48) % 256 = ((b.toNat - 48 : Nat) : Int) := by omega
  rw [decFrom_cons,digit_byte (by omega) (by omega),Option.bind_some,hd]
  by_cases hc : v * 10 + (b.toNat - 48) > 9223372036854775808
  ·refine ev_pos ((cut_at v (b.toNat - 48) (by omega)).mpr hc) (ev_eq (Ev.now _) ?_)
   exact (intEnd_big hc).symm
  ·refine ev_neg (fun h => hc ((cut_at v (b.toNat - 48) (by omega)).mp h)) ?_
   have e1 : wrap64 (10 * -(v : Int)) = 10 * -(v : Int) := w64 (by omega) (by omega)
   have e2 : wrap64 ((wrap64 (10 * -(v : Int))) - ((b.toNat - 48 : Nat) : Int)) = -((v * 10 + (b.toNat - 48) : Nat) : Int) := by
    rw [e1,w64 (by omega) (by omega)]
    omega
   have e3 : wrap64 (pz s (b :: l) + 1) = pz s l := by
    have := pz_pos ht
    have := pz_le s (b :: l)
    rw [w64 (by omega) (by omega),pz_succ]
   rw [e2,e3]
   exact ih _ (tail_cons ht) (by omega)
theorem intEnd_text (l r : List UInt8) (neg : Bool) (h : l = (if neg = true then [45] else []) ++ r) (hn : neg = false → l.head? ≠ some 45) : intEnd l neg (Lib.decFrom 0 r) = intText l := by
 have back : ∀ n : Int,Lib.itoa n = l → Lib.decFrom 0 r = some n.natAbs ∧ (neg = true → n < 0) ∧ (neg = false → 0 ≤ n) := by
  intro n hi
  cases neg with
  | true =>
   rw [h] at hi
   obtain ⟨h1,h2⟩ := itoa_cons hi
   rw [show r = Lib.decDigits n.natAbs from h2.symm]
   exact ⟨decFrom_decDigits _,fun _ => h1,fun h => by cases h⟩
  | false =>
   obtain ⟨h1,h2⟩ := itoa_head hi (hn rfl)
   rw [h] at h2
   rw [show r = Lib.decDigits n.natAbs from by simpa using h2.symm]
   exact ⟨decFrom_decDigits _,fun h => by (cases h),fun _ => h1⟩
 rcases intText_cases l with ⟨n,h0,h1,h2,h3⟩ | ⟨h2,h3⟩
 ·rw [h3]
  obtain ⟨b1,b2,b3⟩ := back n h2
  rw [b1]
  rw [intEnd_some]
  cases neg with
  | true =>
   have := b2 rfl
   rw [if_neg (by simp;omega)]
   have e : (if true = true then -((n.natAbs : Nat) : Int) else (n.natAbs : Int)) = n := by rw [if_pos rfl];omega
   rw [e,if_pos h2]
  | false =>
   have := b3 rfl
   rw [if_neg (by simp;omega)]
   have e : (if false = true then -((n.natAbs : Nat) : Int) else (n.natAbs : Int)) = n := by rw [if_neg (by simp)];omega
   rw [e,if_pos h2]
 ·rw [h3]
  cases Lib.decFrom 0 r with
  | none => rfl
  | some u =>
   rw [intEnd_some]
   by_cases hb : u > 9223372036854775808 ∨ (neg = false ∧ u = 9223372036854775808)
   ·rw [if_pos hb]
   ·rw [if_neg hb,if_neg]
    refine h2 _ ?_ ?_ <;> cases neg <;> simp at hb ⊢ <;> omega
theorem specIntText_f (s : ByteArray) : Ev (fun k => spec_IntText.f k s) (intText s.data.toList) := by
 have hl : s.data.toList.length = s.size := data_length ..
 unfold spec_IntText.f
 have bad : ¬ (1 ≤ s.size ∧ s.size ≤ 20) → intText s.data.toList = (0,false) := by
  intro h
  refine intText_none fun n h0 h1 h2 => h ?_
  have a := congrArg List.length h2
  rw [hl] at a
  have b := itoa_len20 h0 h1
  have c : 0 < (Lib.itoa n).length := by
   by_cases hn : n < 0
   ·rw [itoa_neg hn];simp
   ·rw [itoa_pos (by omega)]
    exact List.length_pos_iff.mpr (decDigits_ne _)
  omega
 by_cases h : (s.size : Int) < 1
 ·refine ev_pos h (ev_succ ?_)
  simp only [spec_IntText.j0]
  exact ev_pos (by first | rfl | trivial) (ev_eq (Ev.now _) (bad (by omega)).symm)
 refine ev_neg h (ev_succ ?_)
 simp only [spec_IntText.j0]
 by_cases h1 : (s.size : Int) > 20
 ·exact ev_pos (decide_eq_true h1) (ev_eq (Ev.now _) (bad (by omega)).symm)
 refine ev_neg (by simp;omega) (ev_pos (by omega) ?_)
 obtain ⟨b,r,e⟩ : ∃ b r,s.data.toList = b :: r := by
  cases e : s.data.toList with
  | nil => rw [e] at hl;simp at hl;omega
  | cons b r => exact ⟨b,r,rfl⟩
 have hb0 : bt s 0 = (b.toNat : Int) := bt_get (n := 0) (by rw [e];rfl)
 simp only [hb0]
 have ht : b :: r <:+ s.data.toList := by rw [e];exact List.suffix_refl _
 have p0 : pz s (b :: r) = 0 := by rw [← e];exact pz_all s
 have p1 : pz s r = 1 := by have := @pz_succ s b r;omega
 by_cases h45 : b = 45
 ·subst h45
  refine ev_pos rfl (ev_succ ?_)
  simp only [spec_IntText.j1]
  have := specInt_l0 s (by omega) true r 0 (tail_cons ht) (by omega)
  rw [p1] at this
  refine ev_eq this ?_
  exact intEnd_text _ r true (by rw [e];rfl) (fun h => by cases h)
 ·refine ev_neg (fun e => h45 ((u8_eq (n := 45) (by decide)).mp e)) (ev_succ ?_)
  simp only [spec_IntText.j1]
  have := specInt_l0 s (by omega) false (b :: r) 0 ht (by omega)
  rw [p0] at this
  refine ev_eq this ?_
  rw [← e]
  exact intEnd_text _ _ false (by simp) (fun _ => by rw [e];simpa using h45)
theorem specNumber_f (s : ByteArray) : Ev (fun k => spec_Number.f k s) (if (intText s.data.toList).2 = true ∧ 0 ≤ (intText s.data.toList).1 ∧ (intText s.data.toList).1 ≤ 999999999 then ((intText s.data.toList).1,true) else (0,false)) := by
 unfold spec_Number.f
 refine (specIntText_f s).bind ?_
 by_cases h : (intText s.data.toList).2 = true
 ·refine ev_pos h ?_
  simp only [specIn,Option.bind_some]
  by_cases h1 : 0 ≤ (intText s.data.toList).1 ∧ (intText s.data.toList).1 ≤ 999999999
  ·exact ev_pos (by simpa using h1) (ev_eq (Ev.now _) (by rw [if_pos ⟨h,h1⟩]))
  ·exact ev_neg (by simpa using h1) (ev_eq (Ev.now _) (by rw [if_neg (fun e => h1 e.2)]))
 ·exact ev_neg h (ev_eq (Ev.now _) (by rw [if_neg (fun e => h e.1)]))
theorem number_wNum (w : List UInt8) : (∃ u : Nat,u ≤ 999999999 ∧ wNum w = some u ∧ (if (intText w).2 = true ∧ 0 ≤ (intText w).1 ∧ (intText w).1 ≤ 999999999 then ((intText w).1,true) else ((0 : Int),false)) = ((u : Int),true)) ∨
  ((∀ u : Nat,wNum w = some u → 999999999 < u) ∧ (if (intText w).2 = true ∧ 0 ≤ (intText w).1 ∧ (intText w).1 ≤ 999999999 then ((intText w).1,true) else ((0 : Int),false)) = (0,false)) := by
 rcases intText_cases w with ⟨n,h0,h1,h2,h3⟩ | ⟨h2,h3⟩
 ·rw [h3]
  by_cases hn : 0 ≤ n ∧ n ≤ 999999999
  ·left
   refine ⟨n.toNat,by omega,?_,?_⟩
   ·rw [← h2,itoa_pos hn.1,wNum_dec]
    congr 1
    omega
   ·rw [if_pos ⟨rfl,hn⟩]
    congr 1
    omega
  ·right
   refine ⟨fun u hu => ?_,by rw [if_neg (fun e => hn e.2)]⟩
   have h4 := wNum_some hu
   rw [← itoa_nat,← h2] at h4
   have := itoa_inj h4
   omega
 ·right
  refine ⟨fun u hu => ?_,by rw [h3,if_neg (by simp)]⟩
  have h4 := wNum_some hu
  rw [← itoa_nat] at h4
  have := h2 (u : Int)
  by_cases hb : (u : Int) ≤ 9223372036854775807
  ·exact absurd h4 (this (by omega) hb)
  ·omega
theorem fixSign_some (neg : Bool) (n : Nat) : fixSign neg (some n) = if n ≤ 2147483647 then (if neg = true then -(n : Int) else (n : Int),true) else (0,false) := rfl
theorem specReadFix_j4 (neg : Bool) (n : Nat) (hn : n ≤ 1000000000000) : Ev (fun k => spec_ReadFix.j4 k neg (n : Int)) (fixSign neg (some n)) := by
 refine ev_succ ?_
 simp only [spec_ReadFix.j4,spec_l6Value.f,specIn,Option.bind_some]
 rw [fixSign_some]
 cases neg with
 | true =>
  refine ev_pos (by first | rfl | trivial) ?_
  rw [show wrap64 (-(n : Int)) = -(n : Int) from w64 (by omega) (by omega)]
  by_cases h : n ≤ 2147483647
  ·exact ev_pos (decide_eq_true (by omega)) (ev_eq (Ev.now _) (by simp [h]))
  ·exact ev_neg (by simp;omega) (ev_eq (Ev.now _) (by simp [h]))
 | false =>
  refine ev_neg (by simp) ?_
  by_cases h : n ≤ 2147483647
  ·exact ev_pos (decide_eq_true (by omega)) (ev_eq (Ev.now _) (by simp [h]))
  ·exact ev_neg (by simp;omega) (ev_eq (Ev.now _) (by simp [h]))
def unitAt (i : Nat) : Nat := if i = 0 then 100 else if i = 1 then 10 else if i = 2 then 1 else 0
theorem decFrom_zero (v : Nat) : ∀ n : Nat,Lib.decFrom v (List.replicate n 48) = some (v * 10 ^ n)
 | 0 => by simp [Lib.decFrom]
 | n + 1 => by
  rw [List.replicate_succ,decFrom_cons,show Lib.digitVal 48 = some 0 from by decide,Option.bind_some,decFrom_zero _ n]
  congr 1
  rw [Nat.pow_succ,Nat.add_zero,Nat.mul_assoc,Nat.mul_comm 10]
theorem unit_step (u v d j : Nat) (hu : u ≤ 999999999) (hv : v < 100) (hd : d ≤ 9) (hj : j < 3) : wrap64 (((1000 * u + v * 10 ^ (3 - j) : Nat) : Int) + wrap64 (((unitAt j : Nat) : Int) * (d : Int))) = ((1000 * u + (v * 10 + d) * 10 ^ (3 - (j + 1)) : Nat) : Int) := by
 have hU : unitAt j * d ≤ 900 := by
  match j,hj with
  | 0,_ => show 100 * d ≤ 900;omega
  | 1,_ => show 10 * d ≤ 900;omega
  | 2,_ => show 1 * d ≤ 900;omega
 have hV : v * 10 ^ (3 - j) ≤ 100000 := by
  match j,hj with
  | 0,_ => show v * 1000 ≤ _;omega
  | 1,_ => show v * 100 ≤ _;omega
  | 2,_ => show v * 10 ≤ _;omega
 have e : 1000 * u + v * 10 ^ (3 - j) + unitAt j * d = 1000 * u + (v * 10 + d) * 10 ^ (3 - (j + 1)) := by
  match j,hj with
  | 0,_ => show 1000 * u + v * 1000 + 100 * d = 1000 * u + (v * 10 + d) * 100;omega
  | 1,_ => show 1000 * u + v * 100 + 10 * d = 1000 * u + (v * 10 + d) * 10;omega
  | 2,_ => show 1000 * u + v * 10 + 1 * d = 1000 * u + (v * 10 + d) * 1;omega
 rw [← e,← Int.natCast_mul]
 generalize unitAt j * d = x at hU
 generalize v * 10 ^ (3 - j) = y at hV
 rw [w64 (x := (x : Int)) (by omega) (by omega),w64 (by omega) (by omega)]
 omega
theorem unit_next (j : Nat) (hj : j < 3) : wrap64 (Int.tdiv ((unitAt j : Nat) : Int) 10) = ((unitAt (j + 1) : Nat) : Int) := by
 match j,hj with
 | 0,_ => exact w64 (x := 10) (by decide) (by decide)
 | 1,_ => exact w64 (x := 1) (by decide) (by decide)
 | 2,_ => exact w64 (x := 0) (by decide) (by decide)
def Lt10 (v n : Nat) : Prop := v < 10 ^ n
theorem tail_bound {v d n m : Nat} (h : Lt10 v n) (hd : d ≤ 9) (hm : m = n + 1) : Lt10 (v * 10 + d) m := by
 unfold Lt10 at h ⊢
 rw [hm,Nat.pow_succ]
 generalize 10 ^ n = x at h
 omega
theorem hundred {v n : Nat} (h : Lt10 v n) (hn : n ≤ 2) : v < 100 := Nat.lt_of_lt_of_le h (Nat.pow_le_pow_right (by decide) hn)
theorem thousand {v n : Nat} (h : Lt10 v n) (hn : n ≤ 3) : v * 10 ^ (3 - n) ≤ 1000 := by
 have e : 10 ^ n * 10 ^ (3 - n) = 1000 := by rw [← Nat.pow_add,Nat.add_sub_cancel' hn]
 have := Nat.mul_le_mul_right (10 ^ (3 - n)) (Nat.le_of_lt h)
 rw [e] at this
 exact this
theorem specReadFix_l0 (neg : Bool) (parts : List ByteArray) (p : List UInt8) (u : Nat) (hu : u ≤ 999999999) (hp : p.length ≤ 3) (h2 : parts.length = 2) (h1 : rdOf ByteArray.empty parts 1 = bs p) : ∀ (l : List UInt8) (v : Nat),l <:+ p → Lt10 v (p.length - l.length) →
  Ev (fun k => spec_ReadFix.l0 k neg parts ((1000 * u + v * 10 ^ (3 - (p.length - l.length)) : Nat) : Int) ((unitAt (p.length - l.length) : Nat) : Int) ((p.length - l.length : Nat) : Int)) (fixSign neg ((Lib.decFrom v (l ++ List.replicate (3 - p.length) 48)).map fun v => 1000 * u + v)) := by
 intro l
 induction l with
 | nil =>
  intro v ht hv
  refine ev_succ ?_
  simp only [spec_ReadFix.l0]
  rw [h1]
  refine ev_pos (by omega) (ev_neg (by rw [bs_size];simp) ?_)
  rw [List.nil_append,decFrom_zero,Option.map_some]
  have hb : v * 10 ^ (3 - p.length) ≤ 1000 := thousand hv (by simpa using hp)
  simp only [List.length_nil,Nat.sub_zero]
  generalize v * 10 ^ (3 - p.length) = y at hb
  exact specReadFix_j4 neg _ (by omega)
 | cons b l ih =>
  intro v ht hv
  have hlen := ht.length_le
  rw [List.length_cons] at hlen
  have ht' : b :: l <:+ (bs p).data.toList := ht
  have e1 : ((p.length - (b :: l).length : Nat) : Int) = pz (bs p) (b :: l) := by
   unfold pz
   rw [bs_size,List.length_cons]
   omega
  refine ev_succ ?_
  simp only [spec_ReadFix.l0]
  rw [h1,e1]
  refine ev_pos (by omega) (ev_pos pz_lt (ev_pos (pz_pos ht') ?_))
  have hbb := u8_lt b
  rw [bt_pz ht',show wrap64 (b.toNat : Int) = (b.toNat : Int) from w64 (by omega) (by omega),show wrap64 ((b.toNat : Int) - 48) = (b.toNat : Int) - 48 from w64 (by omega) (by omega)]
  refine (ev_of (specIn ((b.toNat : Int) - 48) 0 9)).bind ?_
  rw [List.cons_append,decFrom_cons]
  by_cases hd : 48 ≤ b.toNat ∧ b.toNat ≤ 57
  ·refine ev_pos (decide_eq_true (by omega)) ?_
   rw [digit_byte hd.1 hd.2,Option.bind_some]
   have hl3 : p.length - l.length = p.length - (b :: l).length + 1 := by rw [List.length_cons];omega
   have hi : p.length - (b :: l).length < 3 := by rw [List.length_cons];omega
   have hv' : Lt10 (v * 10 + (b.toNat - 48)) (p.length - l.length) := tail_bound hv (by omega) hl3
   have go := ih (v * 10 + (b.toNat - 48)) ((List.suffix_cons b l).trans ht) hv'
   have hvs : v < 100 := hundred hv (by rw [List.length_cons];omega)
   generalize hj : p.length - (b :: l).length = j at *
   have e2 : wrap64 (pz (bs p) (b :: l) + 1) = ((p.length - l.length : Nat) : Int) := by
    rw [← e1,hl3,w64 (by omega) (by omega)]
    omega
   have e3 : wrap64 (Int.tdiv ((unitAt j : Nat) : Int) 10) = ((unitAt (p.length - l.length) : Nat) : Int) := by
    rw [hl3]
    exact unit_next j hi
   have hdd : ((b.toNat : Int) - 48) = ((b.toNat - 48 : Nat) : Int) := by omega
   have e4 := unit_step u v (b.toNat - 48) j hu hvs (by omega) hi
   rw [← hl3] at e4
   rw [hdd,e2,e3,e4]
   exact go
  ·refine ev_neg (by simp;omega) (ev_eq (Ev.now _) ?_)
   rw [digit_bad hd]
   rfl
theorem thou_w (u : Nat) (hu : u ≤ 999999999) : wrap64 (1000 * (u : Int)) = ((1000 * u : Nat) : Int) := by
 rw [w64 (by omega) (by omega)]
 omega
theorem readFix_cons (b : UInt8) (l : List UInt8) : readFix (b :: l) = if b = 45 then fixBody true l else fixBody false (b :: l) := rfl
theorem specReadFix_j1 (neg : Bool) (l : List UInt8) (hl : l.length ≤ 20) : Ev (fun k => spec_ReadFix.j1 k (bs l) neg) (fixBody neg l) := by
 refine ev_succ ?_
 rw [show (fun k => spec_ReadFix.j1 (k + 1) (bs l) neg) = _ from by funext k;rw [spec_ReadFix.j1]]
 refine (specParts_f (bs l) 46 (by rw [bs_size];omega)).bind ?_
 rw [list_bs,partsL_cut]
 unfold fixBody fixNum
 generalize hc : cutAt 46 l = c
 have hlen := cutAt_length 46 l
 rw [hc] at hlen
 obtain ⟨w,q⟩ := c
 simp only at hlen ⊢
 rw [List.map_cons]
 generalize hps : List.map bs (restParts 46 q) = ps
 refine ev_pos (by rw [List.length_cons];omega) ?_
 rw [show rdOf ByteArray.empty (bs w :: ps) 0 = bs w from rfl]
 refine (specNumber_f (bs w)).bind ?_
 rw [list_bs]
 have two : ∀ z : Bool,z = true → Ev (fun k => spec_ReadFix.j2 k neg (bs w :: ps) 0 z) ((0 : Int),false) := by
  intro z hz
  refine ev_succ ?_
  rw [show (fun k => spec_ReadFix.j2 (k + 1) neg (bs w :: ps) 0 z) = _ from by funext k;rw [spec_ReadFix.j2]]
  exact ev_pos hz (Ev.now _)
 have many : ∀ (x : Int) (z : Bool),z = true → Ev (fun k => spec_ReadFix.j2 k neg (bs w :: ps) x z) ((0 : Int),false) := by
  intro x z hz
  refine ev_succ ?_
  rw [show (fun k => spec_ReadFix.j2 (k + 1) neg (bs w :: ps) x z) = _ from by funext k;rw [spec_ReadFix.j2]]
  exact ev_pos hz (Ev.now _)
 rcases number_wNum w with ⟨u,hu,hw,he⟩ | ⟨hw,he⟩
 ·rw [he]
  refine ev_pos rfl ?_
  rw [hw]
  cases q with
  | none =>
   obtain rfl : ps = [] := hps.symm
   rw [show decide ((((bs w :: ([] : List ByteArray)).length : Nat) : Int) > 2) = false from by simp]
   refine ev_succ ?_
   rw [show (fun k => spec_ReadFix.j2 (k + 1) neg [bs w] (u : Int) false) = _ from by funext k;rw [spec_ReadFix.j2]]
   refine ev_neg (by simp) (ev_neg (by simp) ?_)
   rw [thou_w u hu]
   exact specReadFix_j4 neg (1000 * u) (by omega)
  | some p =>
   simp only [restLen] at hlen
   simp only [restParts] at hps
   rw [partsL_cut] at hps
   cases hq : (cutAt 46 p).2 with
   | some p2 =>
    rw [hq] at hps
    simp only [restParts] at hps
    have h3 : 2 < (bs w :: ps).length := by
     rw [← hps]
     have := List.length_pos_iff.mpr (partsL_ne 46 p2)
     simp only [List.length_cons,List.length_map]
     omega
    refine ev_eq (many _ _ (decide_eq_true (by omega))) ?_
    rw [Option.bind_some]
    have hm : 46 ∈ p := by
     rw [(cutAt_some hq).2]
     simp
    have : pNum (some p) = none := by
     simp only [pNum]
     by_cases hp : 1 ≤ p.length ∧ p.length ≤ 3
     ·rw [if_pos hp]
      cases e : Lib.decFrom 0 (p ++ List.replicate (3 - p.length) 48) with
      | none => rfl
      | some v =>
       exfalso
       have := decFrom_mem e (b := 46) (by simp [hm])
       revert this
       decide
     ·rw [if_neg hp]
    rw [this]
    rfl
   | none =>
    rw [hq,(cutAt_none hq).2] at hps
    obtain rfl : ps = [bs p] := hps.symm
    rw [show decide ((((bs w :: [bs p]).length : Nat) : Int) > 2) = false from by simp]
    refine ev_succ ?_
    rw [show (fun k => spec_ReadFix.j2 (k + 1) neg [bs w,bs p] (u : Int) false) = _ from by funext k;rw [spec_ReadFix.j2]]
    refine ev_neg (by simp) (ev_pos (by simp) (ev_pos (by simp) ?_))
    rw [show rdOf ByteArray.empty [bs w,bs p] 1 = bs p from rfl,bs_size]
    refine (ev_of (specIn (p.length : Int) 1 3)).bind ?_
    by_cases hp : 1 ≤ p.length ∧ p.length ≤ 3
    ·refine ev_pos (decide_eq_true (by omega)) ?_
     rw [thou_w u hu]
     have := specReadFix_l0 neg [bs w,bs p] p u hu hp.2 rfl rfl p 0 (List.suffix_refl _) (by unfold Lt10;rw [Nat.sub_self];decide)
     rw [Nat.sub_self,Nat.zero_mul,Nat.add_zero] at this
     refine ev_eq this ?_
     simp only [pNum]
     rw [if_pos hp,Option.bind_some]
    ·refine ev_neg (by simp;omega) (ev_eq (Ev.now _) ?_)
     simp only [pNum]
     rw [if_neg hp]
     rfl
 ·rw [he]
  refine ev_neg (by simp) (ev_eq (many _ _ rfl) ?_)
  cases hw1 : wNum w with
  | none => rfl
  | some u =>
   have := hw u hw1
   rw [Option.bind_some]
   cases pNum q with
   | none => rfl
   | some v =>
    rw [Option.map_some,fixSign_some,if_neg (by omega)]
theorem specReadFix_f (s : ByteArray) : Ev (fun k => spec_ReadFix.f k s) (readFix s.data.toList) := by
 have hl : s.data.toList.length = s.size := data_length ..
 unfold spec_ReadFix.f
 obtain ⟨⟨l⟩⟩ := s
 change l.length = _ at hl
 change Ev _ (readFix l)
 by_cases h : l.length > 20
 ·refine ev_pos (by omega) (ev_eq (Ev.now _) ?_)
  cases l with
  | nil => simp at h
  | cons b l =>
   rw [List.length_cons] at h
   rw [readFix_cons]
   by_cases hb : b = 45
   ·rw [if_pos hb,fixBody_long (by omega)]
   ·rw [if_neg hb,fixBody_long (by rw [List.length_cons];omega)]
 refine ev_neg (by omega) ?_
 cases l with
 | nil =>
  refine ev_neg (by rw [← hl];decide) (ev_succ ?_)
  rw [show (fun k => spec_ReadFix.j0 (k + 1) (⟨⟨[]⟩⟩ : ByteArray) false) = _ from by funext k;rw [spec_ReadFix.j0]]
  exact ev_neg (by simp) (specReadFix_j1 false [] (by simp))
 | cons b l =>
  rw [List.length_cons] at hl h
  have hb0 : bt (bs (b :: l)) 0 = (b.toNat : Int) := bt_get (n := 0) rfl
  refine ev_pos (by omega) (ev_pos (by omega) ?_)
  change Ev (fun k => spec_ReadFix.j0 k (bs (b :: l)) (bt (bs (b :: l)) 0 == 45)) _
  rw [hb0]
  rw [readFix_cons]
  by_cases hb : b = 45
  ·subst hb
   refine ev_succ ?_
   rw [show (fun k => spec_ReadFix.j0 (k + 1) (bs (45 :: l)) (((45 : UInt8).toNat : Int) == 45)) = _ from by funext k;rw [spec_ReadFix.j0]]
   refine ev_pos rfl (ev_pos (by rw [bs_size,List.length_cons];omega) ?_)
   rw [extract_first,if_pos rfl]
   exact specReadFix_j1 true l (by omega)
  ·rw [if_neg hb,show (((b.toNat : Int)) == 45) = false from by simp;exact fun e => hb ((u8_eq (n := 45) (by decide)).mp e)]
   refine ev_succ ?_
   rw [show (fun k => spec_ReadFix.j0 (k + 1) (bs (b :: l)) false) = _ from by funext k;rw [spec_ReadFix.j0]]
   exact ev_neg (by simp) (specReadFix_j1 false (b :: l) (by rw [List.length_cons];omega))
theorem nm_snoc (x : List UInt8) (b : UInt8) : nm x ++ [(b.toNat : Int)] = nm (x ++ [b]) := (nm_append x [b]).symm
theorem specField_l0 (s : ByteArray) (hs : s.size ≤ 4000) : ∀ (m : Nat) (l x : List UInt8),l.length ≤ m → l <:+ s.data.toList → x.length + l.length ≤ 4000 →
  Ev (fun k => spec_l7Field.l0 k s (pz s l) (nm x)) ((csvQ l).elim ((⟨#[]⟩ : ByteArray),(s.size : Int),false) (fun p => (bs (x ++ p.1),pz s p.2,true))) := by
 intro m
 induction m with
 | zero =>
  intro l x hl ht hx
  obtain rfl := List.length_eq_zero_iff.mp (Nat.le_zero.mp hl)
  refine ev_succ ?_
  simp only [spec_l7Field.l0]
  refine ev_pos (by rw [pz_nil];exact Int.le_refl _) (ev_eq (Ev.now _) ?_)
  rw [pz_nil]
  rfl
 | succ m ih =>
  intro l x hl ht hx
  cases l with
  | nil =>
   refine ev_succ ?_
   simp only [spec_l7Field.l0]
   refine ev_pos (by rw [pz_nil];exact Int.le_refl _) (ev_eq (Ev.now _) ?_)
   rw [pz_nil]
   rfl
  | cons b l =>
   rw [List.length_cons] at hl hx
   refine ev_succ ?_
   simp only [spec_l7Field.l0]
   refine ev_neg (by have := @pz_lt s b l;omega) (ev_pos (pz_pos ht) (ev_pos pz_lt ?_))
   simp only [bt_pz ht,pz_w hs ht]
   unfold csvQ
   have ht1 := tail_cons ht
   by_cases hb : b = 34
   ·subst hb
    refine ev_pos rfl ?_
    rw [if_pos rfl]
    cases l with
    | nil =>
     refine ev_neg (by rw [pz_nil];exact Int.lt_irrefl _) (ev_eq (Ev.now _) ?_)
     rw [strOfNums_nm]
     simp
    | cons c l =>
     rw [List.length_cons] at hl hx
     refine ev_pos pz_lt (ev_pos (pz_pos ht1) ?_)
     simp only [bt_pz ht1,pz_w2 hs ht]
     by_cases hc : c = 34
     ·subst hc
      refine ev_pos rfl (ev_pos (by rw [nm_length];omega) ?_)
      rw [show nm x ++ [34] = nm (x ++ [34]) from nm_snoc x 34]
      refine ev_eq (ih l (x ++ [34]) (by omega) (tail_cons ht1) (by rw [List.length_append,List.length_singleton];omega)) ?_
      simp only [if_true]
      cases csvQ l with
      | none => rfl
      | some p => simp
     ·refine ev_neg (fun e => hc ((u8_eq (n := 34) (by decide)).mp e)) (ev_eq (Ev.now _) ?_)
      rw [if_neg hc,strOfNums_nm]
      simp
   ·refine ev_neg (fun e => hb ((u8_eq (n := 34) (by decide)).mp e)) (ev_pos (by rw [nm_length];omega) ?_)
    rw [nm_snoc,if_neg hb]
    refine ev_eq (ih l (x ++ [b]) (by omega) ht1 (by rw [List.length_append,List.length_singleton];omega)) ?_
    cases csvQ l with
    | none => rfl
    | some p => simp
theorem specField_l1 (s : ByteArray) (hs : s.size ≤ 4000) : ∀ (m : Nat) (l x : List UInt8),l.length ≤ m → l <:+ s.data.toList → x.length + l.length ≤ 4000 →
  Ev (fun k => spec_l7Field.l1 k s (pz s l) (nm x)) (if (csvPlain l).2.head? = some 34 then ((⟨#[]⟩ : ByteArray),pz s (csvPlain l).2,false) else (bs (x ++ (csvPlain l).1),pz s (csvPlain l).2,true)) := by
 intro m
 induction m with
 | zero =>
  intro l x hl ht hx
  obtain rfl := List.length_eq_zero_iff.mp (Nat.le_zero.mp hl)
  refine ev_succ ?_
  simp only [spec_l7Field.l1]
  refine ev_neg (by rw [pz_nil];exact Int.lt_irrefl _) (ev_succ ?_)
  simp only [spec_l7Field.j3]
  refine ev_neg (by decide) (ev_eq (Ev.now _) ?_)
  rw [strOfNums_nm]
  simp [csvPlain]
 | succ m ih =>
  intro l x hl ht hx
  cases l with
  | nil =>
   refine ev_succ ?_
   simp only [spec_l7Field.l1]
   refine ev_neg (by rw [pz_nil];exact Int.lt_irrefl _) (ev_succ ?_)
   simp only [spec_l7Field.j3]
   refine ev_neg (by decide) (ev_eq (Ev.now _) ?_)
   rw [strOfNums_nm]
   simp [csvPlain]
  | cons b l =>
   rw [List.length_cons] at hl hx
   have ht1 := tail_cons ht
   have stop : (b = 44 ∨ b = 10 ∨ b = 13) → (if (csvPlain (b :: l)).2.head? = some 34 then ((⟨#[]⟩ : ByteArray),pz s (csvPlain (b :: l)).2,false) else (bs (x ++ (csvPlain (b :: l)).1),pz s (csvPlain (b :: l)).2,true)) = (strOfNums (nm x),pz s (b :: l),true) := by
    intro h
    have hsp : csvSp b = true := by rcases h with rfl | rfl | rfl <;> decide
    unfold csvPlain
    rw [List.takeWhile_cons_of_neg (by simp [hsp]),List.dropWhile_cons_of_neg (by simp [hsp]),strOfNums_nm,List.append_nil]
    rw [if_neg (by simp only [List.head?_cons,Option.some.injEq];rintro rfl;revert h;decide)]
   refine ev_succ ?_
   simp only [spec_l7Field.l1]
   refine ev_pos pz_lt (ev_pos (pz_pos ht) ?_)
   simp only [bt_pz ht]
   by_cases h1 : b = 44
   ·refine ev_pos (by rw [h1];rfl) (ev_succ ?_)
    simp only [spec_l7Field.j3]
    exact ev_neg (by decide) (ev_eq (Ev.now _) (stop (Or.inl h1)).symm)
   refine ev_neg (fun e => h1 ((u8_eq (n := 44) (by decide)).mp e)) ?_
   by_cases h2 : b = 10
   ·refine ev_pos (by rw [h2];rfl) (ev_succ ?_)
    simp only [spec_l7Field.j3]
    exact ev_neg (by decide) (ev_eq (Ev.now _) (stop (Or.inr (Or.inl h2))).symm)
   refine ev_neg (fun e => h2 ((u8_eq (n := 10) (by decide)).mp e)) (ev_succ ?_)
   simp only [spec_l7Field.j3]
   by_cases h3 : b = 13
   ·refine ev_neg (by rw [h3];decide) (ev_eq (Ev.now _) (stop (Or.inr (Or.inr h3))).symm)
   refine ev_pos (bne_iff_ne.mpr (fun e => h3 ((u8_eq (n := 13) (by decide)).mp e))) (ev_pos (pz_pos ht) (ev_pos pz_lt ?_))
   simp only [bt_pz ht]
   by_cases h4 : b = 34
   ·refine ev_pos (by rw [h4];rfl) (ev_eq (Ev.now _) ?_)
    unfold csvPlain
    rw [List.dropWhile_cons_of_neg (by rw [h4];decide),if_pos (by rw [h4];rfl)]
   ·refine ev_neg (fun e => h4 ((u8_eq (n := 34) (by decide)).mp e)) (ev_pos (by rw [nm_length];omega) ?_)
    have hsp : csvSp b = false := by
     unfold csvSp
     simp [h1,h2,h3,h4]
    rw [nm_snoc]
    simp only [pz_w hs ht]
    refine ev_eq (ih l (x ++ [b]) (by omega) ht1 (by rw [List.length_append,List.length_singleton];omega)) ?_
    unfold csvPlain
    rw [List.takeWhile_cons_of_pos (by simp [hsp]),List.dropWhile_cons_of_pos (by simp [hsp]),List.append_assoc]
    rfl
def fieldS (s : ByteArray) (l : List UInt8) : ByteArray × Int × Bool := match l with
 | [] => (bs [],pz s [],true)
 | b :: r => if b = 34 then (csvQ r).elim ((⟨#[]⟩ : ByteArray),(s.size : Int),false) (fun p => (bs p.1,pz s p.2,true))
  else if (csvPlain (b :: r)).2.head? = some 34 then ((⟨#[]⟩ : ByteArray),pz s (csvPlain (b :: r)).2,false) else (bs (csvPlain (b :: r)).1,pz s (csvPlain (b :: r)).2,true)
theorem specField_f (s : ByteArray) (hs : s.size ≤ 4000) (l : List UInt8) (ht : l <:+ s.data.toList) : Ev (fun k => spec_l7Field.f k s (pz s l)) (fieldS s l) := by
 unfold spec_l7Field.f
 simp only [Option.bind_some]
 have hlen := tail_length ht
 cases l with
 | nil =>
  refine ev_neg (by rw [pz_nil];exact Int.lt_irrefl _) (ev_succ ?_)
  simp only [spec_l7Field.j0]
  refine ev_neg (by decide) (ev_eq (specField_l1 s hs 0 [] [] (Nat.le_refl _) ht (by simp)) ?_)
  simp [csvPlain,fieldS]
 | cons b l =>
  rw [List.length_cons] at hlen
  refine ev_pos pz_lt (ev_pos (pz_pos ht) (ev_succ ?_))
  simp only [spec_l7Field.j0,bt_pz ht,pz_w hs ht]
  unfold fieldS
  by_cases hb : b = 34
  ·refine ev_pos (by rw [hb];rfl) (ev_eq (specField_l0 s hs l.length l [] (Nat.le_refl _) (tail_cons ht) (by simp;omega)) ?_)
   simp [hb]
  ·refine ev_neg (fun e => hb ((u8_eq (n := 34) (by decide)).mp (eq_of_beq e))) (ev_eq (specField_l1 s hs (l.length + 1) (b :: l) [] (by simp) ht (by simp;omega)) ?_)
   simp [hb]
theorem csvAfter_34 {l : List UInt8} (h : l.head? = some 34) : csvAfter l = none := by
 cases l with
 | nil => cases h
 | cons b l =>
  simp only [List.head?_cons,Option.some.injEq] at h
  subst h
  rfl
theorem fieldS_bad {s : ByteArray} {l : List UInt8} (h : (fieldS s l).2.2 = false) : csvField l = none ∨ ∃ f l1,csvField l = some (f,l1) ∧ csvAfter l1 = none := by
 cases l with
 | nil => simp [fieldS] at h
 | cons b l =>
  unfold fieldS at h
  unfold csvField
  by_cases hb : b = 34
  ·simp only [if_pos hb] at h ⊢
   cases e : csvQ l with
   | none => exact Or.inl rfl
   | some p => rw [e] at h;cases h
  ·simp only [if_neg hb] at h ⊢
   by_cases hh : (csvPlain (b :: l)).2.head? = some 34
   ·exact Or.inr ⟨_,_,rfl,csvAfter_34 hh⟩
   ·rw [if_neg hh] at h;cases h
theorem fieldS_ok {s : ByteArray} {l : List UInt8} (h : (fieldS s l).2.2 = true) : ∃ f l1,csvField l = some (f,l1) ∧ fieldS s l = (bs f,pz s l1,true) := by
 cases l with
 | nil => exact ⟨[],[],rfl,rfl⟩
 | cons b l =>
  unfold fieldS at h ⊢
  unfold csvField
  by_cases hb : b = 34
  ·simp only [if_pos hb] at h ⊢
   cases e : csvQ l with
   | none => rw [e] at h;cases h
   | some p => exact ⟨p.1,p.2,rfl,rfl⟩
  ·simp only [if_neg hb] at h ⊢
   by_cases hh : (csvPlain (b :: l)).2.head? = some 34
   ·rw [if_pos hh] at h;cases h
   ·rw [if_neg hh]
    exact ⟨_,_,rfl,rfl⟩
theorem specCsv_go (s : ByteArray) (hs : s.size ≤ 4000) : ∀ (K : Nat) (l : List UInt8) (rows : List (List ByteArray)) (row : List ByteArray),l <:+ s.data.toList → csvLeft l row < K → rows.length + row.length + csvLeft l row ≤ 9000 →
  (¬ (l = [] ∧ row = []) → Ev (fun k => spec_ReadCsv.l1 k s rows (pz s l) row false) (csvGo K l rows row)) ∧ (row = [] → Ev (fun k => spec_ReadCsv.l0 k s rows (pz s l)) (csvGo K l rows [])) := by
 intro K
 induction K with
 | zero => intro l rows row _ h _;omega
 | succ K ih =>
  intro l rows row ht hK hb
  have key : ¬ (l = [] ∧ row = []) → Ev (fun k => spec_ReadCsv.l1 k s rows (pz s l) row false) (csvGo (K + 1) l rows row) := by
   intro hr
   refine ev_succ ?_
   simp only [spec_ReadCsv.l1]
   refine ev_neg (by decide) ((specField_f s hs l ht).bind ?_)
   unfold csvGo
   rw [if_neg hr]
   cases h : (fieldS s l).2.2 with
   | false =>
    refine ev_neg (by decide) (ev_eq (Ev.now _) ?_)
    rcases fieldS_bad h with e | ⟨f,l1,e,e1⟩
    ·rw [e]
    ·rw [e]
     simp only [e1]
   | true =>
    obtain ⟨f,l1,e,e1⟩ := fieldS_ok h
    rw [e,e1]
    have ht1 := (csvField_tail e).trans ht
    have hrow : row.length < 8796093022208 := by omega
    refine ev_pos (by first | rfl | trivial) (ev_pos hrow ?_)
    simp only [Option.bind_some]
    have more : ∀ l2,csvAfter l1 = some (false,l2) → Ev (fun k => spec_ReadCsv.l1 k s rows (pz s l2) (row ++ [bs f]) false) (csvGo K l2 rows (row ++ [bs f])) := by
     intro l2 h2
     have a := csvLeft_more (row := row) (x := bs f) e h2
     exact (ih l2 rows (row ++ [bs f]) ((csvAfter_tail h2).trans ht1) (by omega) (by rw [List.length_append,List.length_singleton];omega)).1 (by simp)
    have done : ∀ l2,csvAfter l1 = some (true,l2) → Ev (fun k => spec_ReadCsv.l1 k s rows (pz s l2) (row ++ [bs f]) true) (csvGo K l2 (rows ++ [row ++ [bs f]]) []) := by
     intro l2 h2
     have a := csvLeft_end hr e h2
     refine ev_succ ?_
     simp only [spec_ReadCsv.l1]
     exact ev_pos trivial (ev_pos (by omega) ((ih l2 (rows ++ [row ++ [bs f]]) [] ((csvAfter_tail h2).trans ht1) (by omega) (by rw [List.length_append,List.length_singleton,List.length_nil];omega)).2 rfl))
    cases l1 with
    | nil =>
     exact ev_pos (by rw [pz_nil];exact Int.le_refl _) (done [] rfl)
    | cons b l1 =>
     refine ev_neg (by have := @pz_lt s b l1;omega) (ev_pos (pz_pos ht1) (ev_pos pz_lt ?_))
     simp only [bt_pz ht1,pz_w hs ht1]
     unfold csvAfter
     simp only
     by_cases h1 : b = 44
     ·rw [if_pos h1]
      exact ev_pos (by rw [h1];rfl) (more l1 (by unfold csvAfter;simp only;rw [if_pos h1]))
     rw [if_neg h1]
     refine ev_neg (fun e => h1 ((u8_eq (n := 44) (by decide)).mp e)) ?_
     by_cases h2 : b = 10
     ·rw [if_pos h2]
      exact ev_pos (by rw [h2];rfl) (done l1 (by unfold csvAfter;simp only;rw [if_neg h1,if_pos h2]))
     rw [if_neg h2]
     refine ev_neg (fun e => h2 ((u8_eq (n := 10) (by decide)).mp e)) ?_
     by_cases h3 : b = 13
     ·rw [if_pos h3]
      refine ev_pos (by rw [h3];rfl) ?_
      cases l1 with
      | nil => exact ev_neg (by rw [pz_nil];exact Int.lt_irrefl _) (Ev.now _)
      | cons c l1 =>
       have ht2 := tail_cons ht1
       refine ev_pos pz_lt (ev_pos (pz_pos ht2) ?_)
       simp only [bt_pz ht2,pz_w2 hs ht1]
       by_cases h4 : c = 10
       ·rw [if_pos h4]
        exact ev_pos (by rw [h4];rfl) (done l1 (by unfold csvAfter;simp only;rw [if_neg h1,if_neg h2,if_pos h3,if_pos h4]))
       ·rw [if_neg h4]
        exact ev_neg (fun e => h4 ((u8_eq (n := 10) (by decide)).mp e)) (Ev.now _)
     ·rw [if_neg h3]
      exact ev_neg (fun e => h3 ((u8_eq (n := 13) (by decide)).mp e)) (Ev.now _)
  refine ⟨key,?_⟩
  rintro rfl
  refine ev_succ ?_
  simp only [spec_ReadCsv.l0]
  cases l with
  | nil =>
   refine ev_neg (by rw [pz_nil];exact Int.lt_irrefl _) (ev_eq (Ev.now _) ?_)
   unfold csvGo
   rw [if_pos ⟨rfl,rfl⟩]
  | cons b l => exact ev_pos pz_lt (key (by simp))
theorem specReadCsv_f (s : ByteArray) : Ev (fun k => spec_ReadCsv.f k s) (readCsv s) := by
 unfold spec_ReadCsv.f readCsv
 simp only [Option.bind_some]
 by_cases h : s.size > 4000
 ·rw [if_pos h]
  exact ev_pos (by omega) (Ev.now _)
 ·rw [if_neg h]
  refine ev_neg (by omega) ?_
  have hl : s.data.toList.length = s.size := data_length ..
  have := (specCsv_go s (by omega) (2 * s.size + 2) s.data.toList [] [] (List.suffix_refl _) (by unfold csvLeft;rw [if_pos rfl];omega) (by unfold csvLeft;rw [if_pos rfl];simp;omega)).2 rfl
  rwa [pz_all] at this
def hdRes : Option (Int × Nat) → Int × Int × Int
 | none => (0,0,0)
 | some p => (p.1,0,(p.2 : Int))
theorem w_next {n : Nat} (h : n ≤ 1000000000) : wrap64 ((n : Int) + 1) = ((n + 1 : Nat) : Int) := by
 rw [w64 (by omega) (by omega)]
 omega
theorem specHead_l0 (l : List ByteArray) (hl : l.length ≤ 1000000) (hs : ∀ x ∈ l,x.size ≤ 4000) : ∀ (d n : Nat),n + d = l.length → Ev (fun k => spec_l9Head.l0 k l (n : Int)) (hdRes (headFrom l d n)) := by
 intro d
 induction d with
 | zero =>
  intro n hn
  refine ev_succ (Ev.congr (fun k => by rw [spec_l9Head.l0]) ?_)
  exact ev_neg (by omega) (Ev.now _)
 | succ d ih =>
  intro n hn
  refine ev_succ (Ev.congr (fun k => by rw [spec_l9Head.l0]) ?_)
  refine ev_pos (by omega) (ev_pos (by omega) ?_)
  have hsz := sAt_size hs n
  refine (specNameOk (sAt l n) (by omega)).bind ?_
  unfold headFrom
  by_cases h : IsName (sAt l n)
  ·rw [if_pos h]
   refine ev_pos (dec_true h) (ev_pos (by omega) ?_)
   rw [Int.toNat_natCast]
   refine (specHas (l.take n) (sAt l n) (by rw [List.length_take];omega)).bind ?_
   rw [dec_congr (hasP_take l (by omega) (sAt l n))]
   by_cases hh : HasP l n (sAt l n)
   ·rw [if_pos hh]
    exact ev_pos (dec_true hh) (Ev.now _)
   ·rw [if_neg hh]
    refine ev_neg (by rw [dec_false hh];decide) ?_
    rw [w_next (by omega)]
    exact ih (n + 1) (by omega)
  ·rw [if_neg h]
   exact ev_neg (by rw [dec_false h];decide) (Ev.now _)
theorem specHead (l : List ByteArray) (hl : l.length ≤ 1000000) (hs : ∀ x ∈ l,x.size ≤ 4000) : Ev (fun k => spec_l9Head.f k l) (if 2 ≤ l.length ∧ l.length ≤ 5 then hdRes (headFrom l l.length 0) else (7,0,0)) := by
 refine Ev.congr (fun k => by rw [spec_l9Head.f]) ?_
 refine (ev_of (specIn (l.length : Int) 2 5)).bind ?_
 by_cases h : 2 ≤ l.length ∧ l.length ≤ 5
 ·rw [if_pos h]
  exact ev_pos (decide_eq_true (by omega)) (specHead_l0 l hl hs l.length 0 (by omega))
 ·rw [if_neg h]
  exact ev_neg (by simp;omega) (Ev.now _)
def rowRes (i : Nat) (rest : List Int → TabR) (acc : List Int) (t : List Int × Option Nat) : TabR := match t.2 with
 | none => rest (acc ++ t.1)
 | some c => badT 9 (i : Int) (c : Int)
theorem rowRes_none {i : Nat} {rest : List Int → TabR} {acc : List Int} {t : List Int × Option Nat} (h : t.2 = none) : rowRes i rest acc t = rest (acc ++ t.1) := by
 unfold rowRes
 rw [h]
theorem rowRes_some {i c : Nat} {rest : List Int → TabR} {acc : List Int} {t : List Int × Option Nat} (h : t.2 = some c) : rowRes i rest acc t = badT 9 (i : Int) (c : Int) := by
 unfold rowRes
 rw [h]
theorem tRow_cons (x : ByteArray) (r : List ByteArray) (k : Nat) : tRow (x :: r) k = if (readFix x.data.toList).2 = true then ((readFix x.data.toList).1 :: (tRow r (k + 1)).1,(tRow r (k + 1)).2) else ([],some k) := rfl
theorem rowRes_cons {i : Nat} {rest : List Int → TabR} {acc : List Int} {x : ByteArray} {r : List ByteArray} {k : Nat} (h : (readFix x.data.toList).2 = true) : rowRes i rest acc (tRow (x :: r) k) = rowRes i rest (acc ++ [(readFix x.data.toList).1]) (tRow r (k + 1)) := by
 rw [tRow_cons,if_pos h]
 unfold rowRes
 simp only
 cases (tRow r (k + 1)).2 with
 | none => simp
 | some c => rfl
theorem specRow_l1 (rows : List (List ByteArray)) (m i : Nat) (row : List ByteArray) (N : List ByteArray) (T : ByteArray) (R : List (List Int)) (Y : List Int) (hi : i < rows.length) (hrow : rd_L2 rows (i : Int) = row) (hlen : row.length = m + 1) (hm : m ≤ 100) (hR : R.length ≤ 1000) (hY : Y.length ≤ 1000)
  (rest : List Int → TabR) (hrest : ∀ v,v.length = m + 1 → Ev (fun k => spec_ReadTable.l0 k rows (m : Int) (wrap64 ((i : Int) + 1)) N T (R ++ [v.take m]) (Y ++ [rd v (m : Int)])) (rest v)) :
  ∀ (l : List ByteArray) (acc : List Int) (j : Nat),row.drop j = l → j + l.length = m + 1 → acc.length = j → Ev (fun k => spec_ReadTable.l1 k rows (m : Int) (i : Int) acc (j : Int) N T R Y) (rowRes i rest acc (tRow l j)) := by
 intro l
 induction l with
 | nil =>
  intro acc j hd hj ha
  rw [List.length_nil] at hj
  refine ev_succ (Ev.congr (fun k => by rw [spec_ReadTable.l1]) ?_)
  refine ev_neg (by omega) ?_
  refine (Ev.now ([] : List Int)).bind ?_
  refine ev_pos (by omega) (ev_pos (by omega) ?_)
  rw [Int.toNat_natCast]
  refine (Ev.now (acc.take m)).bind ?_
  refine ev_pos (by rw [List.length_take];simp;omega) (ev_pos (by omega) (ev_pos (by omega) (ev_pos (by omega) ?_)))
  rw [show tRow [] j = ([],none) from rfl,rowRes_none rfl,List.append_nil,List.nil_append]
  exact hrest acc (by omega)
 | cons x l ih =>
  intro acc j hd hj ha
  rw [List.length_cons] at hj
  have hx : row[j]? = some x := by
   rw [← List.head?_drop,hd]
   rfl
  have hr : rdOf ByteArray.empty row (j : Int) = x := by rw [rdOfn,List.getD_eq_getElem?_getD,hx];rfl
  refine ev_succ (Ev.congr (fun k => by rw [spec_ReadTable.l1]) ?_)
  refine ev_pos (by omega) (ev_pos (by omega) (ev_pos (by omega) (ev_pos (by omega) ?_)))
  rw [hrow,hr]
  refine ev_pos (by omega) ((specReadFix_f x).bind ?_)
  by_cases h : (readFix x.data.toList).2 = true
  ·refine ev_pos h (ev_pos (by omega) ?_)
   rw [rowRes_cons h,w_next (by omega)]
   refine ih _ (j + 1) ?_ (by omega) (by rw [List.length_append,List.length_singleton];omega)
   rw [← List.drop_drop,hd]
   rfl
  ·refine ev_neg h (ev_eq (Ev.now _) ?_)
   rw [rowRes_some (c := j)]
   ·rfl
   ·rw [tRow_cons,if_neg h]
noncomputable def tEnd2 (N : List ByteArray) (T : ByteArray) (m : Nat) (r : List (List Int) × Int × Int × Int) : TabR := if r.2.1 = 0 then (N,T,r.1.map (fun x => x.take m),r.1.map (fun x => rd x (m : Int)),0,0,0) else badT r.2.1 r.2.2.1 r.2.2.2
theorem specRows_l0 (rows : List (List ByteArray)) (m : Nat) (N : List ByteArray) (T : ByteArray) (hm : m ≤ 100) (hrows : rows.length ≤ 100) :
  ∀ (l : List (List ByteArray)) (i : Nat) (acc : List (List Int)),rows.drop i = l → i + l.length = rows.length → acc.length ≤ i → Ev (fun k => spec_ReadTable.l0 k rows (m : Int) (i : Int) N T (acc.map (fun x => x.take m)) (acc.map (fun x => rd x (m : Int)))) (tEnd2 N T m (tRows (m + 1) l i acc)) := by
 intro l
 induction l with
 | nil =>
  intro i acc hd hj ha
  rw [List.length_nil] at hj
  refine ev_succ (Ev.congr (fun k => by rw [spec_ReadTable.l0]) ?_)
  exact ev_neg (by omega) (Ev.now _)
 | cons row l ih =>
  intro i acc hd hj ha
  rw [List.length_cons] at hj
  have hx : rows[i]? = some row := by
   rw [← List.head?_drop,hd]
   rfl
  have hr : rd_L2 rows (i : Int) = row := by unfold rd_L2;rw [List.getD_eq_getElem?_getD,Int.toNat_natCast,hx];rfl
  refine ev_succ (Ev.congr (fun k => by rw [spec_ReadTable.l0]) ?_)
  refine ev_pos (by omega) (ev_pos (by omega) ?_)
  rw [hr,w_next (by omega),tRows_cons]
  by_cases hn : row.length = m + 1
  ·rw [if_pos hn]
   refine ev_pos (by omega) ?_
   have go := specRow_l1 rows m i row N T (acc.map (fun x => x.take m)) (acc.map (fun x => rd x (m : Int))) (by omega) hr hn hm (by rw [List.length_map];omega) (by rw [List.length_map];omega)
    (fun v => tEnd2 N T m (tRows (m + 1) l (i + 1) (acc ++ [v]))) (fun v hv => by
     have := ih (i + 1) (acc ++ [v]) (by rw [← List.drop_drop,hd];rfl) (by omega) (by rw [List.length_append,List.length_singleton];omega)
     rw [List.map_append,List.map_append] at this
     rw [w_next (by omega)]
     exact this) row [] 0 rfl (by omega) rfl
   refine ev_eq go ?_
   cases e : (tRow row 0).2 with
   | none => rw [rowRes_none e,List.nil_append]
   | some c =>
    rw [rowRes_some e]
    rfl
  ·rw [if_neg hn]
   exact ev_neg (by omega) (Ev.now _)
theorem specReadTable_f (s : ByteArray) : Ev (fun k => spec_ReadTable.f k s) (readTable s) := by
 refine Ev.congr (fun k => by rw [spec_ReadTable.f]) ?_
 refine (specReadCsv_f s).bind ?_
 have hsz := readCsv_sizes s
 have hf := @readCsv_fault s
 unfold readTable
 by_cases h0 : (readCsv s).2.1 = 0
 ·rw [if_pos h0]
  refine ev_pos h0 ?_
  cases hc : (readCsv s).1 with
  | nil => exact ev_pos rfl (Ev.now _)
  | cons names rest =>
   rw [hc] at hsz
   have hns := hsz names (by simp)
   refine ev_neg (by rw [List.length_cons];omega) (ev_pos (by rw [List.length_cons];omega) ?_)
   rw [show rd_L2 (names :: rest) 0 = names from rfl]
   have hcnt := readCsv_counts s
   rw [hc,List.length_cons] at hcnt
   have hN : names.length ≤ 1000000 := by have := hcnt.2 names (by simp);omega
   refine (specHead names hN hns).bind ?_
   simp only
   unfold tabBody
   by_cases h25 : 2 ≤ names.length ∧ names.length ≤ 5
   ·rw [if_pos h25,if_pos h25]
    cases hh : headFrom names names.length 0 with
    | some p =>
     refine ev_neg (headFrom_code hh) (Ev.now _)
    | none =>
     refine ev_pos rfl ?_
     rw [show wrap64 (((names :: rest).length : Int) - 1) = (rest.length : Int) from by rw [List.length_cons,w64 (by omega) (by omega)];omega]
     refine (ev_of (specIn (rest.length : Int) 1 40)).bind ?_
     by_cases hr : 1 ≤ rest.length ∧ rest.length ≤ 40
     ·rw [if_pos hr]
      refine ev_pos (decide_eq_true (by omega)) ?_
      have e1 : wrap64 ((names.length : Int) - 1) = ((names.length - 1 : Nat) : Int) := by rw [w64 (by omega) (by omega)];omega
      rw [e1]
      refine (Ev.now ([] : List ByteArray)).bind (ev_pos (by omega) (ev_pos (by omega) ?_))
      rw [Int.toNat_natCast]
      refine (Ev.now (names.take (names.length - 1))).bind (ev_pos (by rw [List.length_take,List.length_nil];omega) (ev_pos (by omega) ?_))
      rw [List.nil_append]
      have go := specRows_l0 (names :: rest) (names.length - 1) (names.take (names.length - 1)) (sAt names (names.length - 1)) (by omega) (by rw [List.length_cons];omega) rest 1 [] rfl (by rw [List.length_cons];omega) (by simp)
      rw [Nat.sub_add_cancel (by omega)] at go
      exact go
     ·rw [if_neg hr]
      exact ev_neg (by simp;omega) (Ev.now _)
   ·rw [if_neg h25,if_neg h25]
    exact ev_neg (by simp) (Ev.now _)
 ·rw [if_neg h0]
  exact ev_neg h0 (Ev.now _)
theorem implWithin (a b c : Int) : impl_within.f a b c = some (decide (b ≤ a ∧ a ≤ c)) := by
 unfold impl_within.f
 by_cases h : b ≤ a
 ·rw [if_pos h];simp [h]
 ·rw [if_neg h];simp [h]
theorem implNameOk_l0 (s : ByteArray) (hl : s.size ≤ 140737488351232) : ∀ (d n : Nat),n + d = s.size → Ev (fun k => impl_NameOk.l0 k s (s.size : Int) (n : Int)) (dec (NameFrom s n ∧ (n = 0 → 0 < s.size → Letter (bt s 0)) ∧ 1 ≤ s.size ∧ s.size ≤ 12)) := by
 intro d
 induction d with
 | zero =>
  intro n hn
  refine ev_end fun k => ?_
  simp only [impl_NameOk.l0,implWithin,Option.bind_some]
  obtain rfl : n = s.size := by omega
  rw [if_neg (by omega),← dec_eq]
  congr 1
  refine dec_congr ⟨fun g => ⟨NameFrom.stop,fun h => by omega,by omega,by omega⟩,fun g => by omega⟩
 | succ d ih =>
  intro n hn
  have hs := NameFrom.step (s := s) (n := n) (by omega)
  have hb := bt_range s (n : Int)
  by_cases h1 : Letter (bt s (n : Int))
  ·have e : dec (NameFrom s n ∧ (n = 0 → 0 < s.size → Letter (bt s 0)) ∧ 1 ≤ s.size ∧ s.size ≤ 12) = dec (NameFrom s (n + 1) ∧ (n + 1 = 0 → 0 < s.size → Letter (bt s 0)) ∧ 1 ≤ s.size ∧ s.size ≤ 12) :=
    dec_congr (by rw [hs];exact ⟨fun g => ⟨g.1.2,fun h => by omega,g.2.2⟩,fun g => ⟨⟨.inl h1,g.1⟩,fun h _ => by subst h;exact h1,g.2.2⟩⟩)
   rw [e]
   refine Ev.step (fun k => ?_) (ih (n + 1) (by omega))
   simp only [impl_NameOk.l0]
   unfold Letter at h1
   rw [if_pos (by omega),if_pos (by omega),if_pos (by omega),if_pos (by omega),if_pos (by omega),w64 (by omega) (by omega)]
   rfl
  ·by_cases h2 : Figure (bt s (n : Int)) ∧ n ≠ 0
   ·have e : dec (NameFrom s n ∧ (n = 0 → 0 < s.size → Letter (bt s 0)) ∧ 1 ≤ s.size ∧ s.size ≤ 12) = dec (NameFrom s (n + 1) ∧ (n + 1 = 0 → 0 < s.size → Letter (bt s 0)) ∧ 1 ≤ s.size ∧ s.size ≤ 12) :=
     dec_congr (by rw [hs];exact ⟨fun g => ⟨g.1.2,fun h => by omega,g.2.2⟩,fun g => ⟨⟨.inr h2.1,g.1⟩,fun h => absurd h h2.2,g.2.2⟩⟩)
    rw [e]
    refine Ev.step (fun k => ?_) (ih (n + 1) (by omega))
    simp only [impl_NameOk.l0]
    unfold Letter at h1
    unfold Figure at h2
    rw [if_pos (by omega),if_pos (by omega),if_pos (by omega)]
    by_cases h3 : bt s (n : Int) ≥ 97
    ·rw [if_pos h3,if_neg (by omega),if_neg (by omega),if_neg (by omega),if_neg (by omega),w64 (by omega) (by omega)]
     rfl
    ·rw [if_neg h3,if_neg (by omega),if_neg (by omega),if_neg (by omega),w64 (by omega) (by omega)]
     rfl
   ·refine ev_end fun k => ?_
    have e : dec (NameFrom s n ∧ (n = 0 → 0 < s.size → Letter (bt s 0)) ∧ 1 ≤ s.size ∧ s.size ≤ 12) = false := dec_false (by
     rw [hs]
     intro ⟨⟨g1,_⟩,g2,_⟩
     by_cases z : n = 0
     ·subst z;exact h1 (g2 rfl (by omega))
     ·exact g1.elim h1 (fun y => h2 ⟨y,z⟩))
    rw [e]
    simp only [impl_NameOk.l0]
    unfold Letter at h1
    unfold Figure at h2
    rw [if_pos (by omega),if_pos (by omega),if_pos (by omega)]
    by_cases z : n = 0
    ·by_cases h3 : bt s (n : Int) ≥ 97
     ·rw [if_pos h3,if_neg (by omega),if_pos (by omega)]
     ·rw [if_neg h3,if_pos (by omega)]
    ·have h4 : bt s (n : Int) < 48 ∨ bt s (n : Int) > 57 := by omega
     by_cases h3 : bt s (n : Int) ≥ 97
     ·rw [if_pos h3,if_neg (by omega),if_neg (by omega),if_neg (by omega),if_pos (by omega)]
     ·rw [if_neg h3,if_neg (by omega)]
      by_cases h5 : bt s (n : Int) < 48
      ·rw [if_pos h5]
      ·rw [if_neg h5,if_pos (by omega)]
theorem implNameOk (s : ByteArray) (hl : s.size ≤ 140737488351232) : Ev (fun k => impl_NameOk.f k s) (dec (IsName s)) := by
 have h := implNameOk_l0 s hl s.size 0 (by omega)
 have e : dec (NameFrom s 0 ∧ ((0 : Nat) = 0 → 0 < s.size → Letter (bt s 0)) ∧ 1 ≤ s.size ∧ s.size ≤ 12) = dec (IsName s) :=
  dec_congr ⟨fun g => ⟨g.2.2.1,g.2.2.2,g.2.1 rfl (by omega),g.1⟩,fun g => ⟨g.2.2.2,fun _ _ => g.2.2.1,g.1,g.2.1⟩⟩
 rw [e] at h
 exact h
theorem implIndexS_l0 (l : List ByteArray) (s : ByteArray) (hl : l.length ≤ 1048576) : ∀ (d n : Nat),n + d = l.length → ∃ r : Int,Ev (fun k => slices_Index_string_string.l0 k l s (l.length : Int) (n : Int)) r ∧ (0 ≤ r ↔ ∃ j,n ≤ j ∧ j < l.length ∧ (sAt l j).toList = s.toList) := by
 intro d
 induction d with
 | zero =>
  intro n hn
  refine ⟨-1,ev_succ ?_,⟨fun h => by omega,fun ⟨j,h1,h2,_⟩ => by omega⟩⟩
  simp only [slices_Index_string_string.l0]
  exact ev_neg (by omega) (Ev.now _)
 | succ d ih =>
  intro n hn
  by_cases h : (sAt l n).toList = s.toList
  ·refine ⟨(n : Int),ev_succ ?_,⟨fun _ => ⟨n,Nat.le_refl _,by omega,h⟩,fun _ => by omega⟩⟩
   simp only [slices_Index_string_string.l0]
   exact ev_pos (by omega) (ev_pos (by omega) (ev_pos (by omega) (ev_pos h.symm (Ev.now _))))
  ·obtain ⟨r,e,hr⟩ := ih (n + 1) (by omega)
   refine ⟨r,ev_succ ?_,hr.trans ⟨fun ⟨j,a,b,c⟩ => ⟨j,by omega,b,c⟩,fun ⟨j,a,b,c⟩ => ⟨j,?_,b,c⟩⟩⟩
   ·simp only [slices_Index_string_string.l0]
    refine ev_pos (by omega) (ev_pos (by omega) (ev_pos (by omega) (ev_neg (fun z => h z.symm) ?_)))
    rw [w64 (x := (n : Int) + 1) (by omega) (by omega)]
    exact e
   ·by_cases e : j = n
    ·exact absurd (e ▸ c) h
    ·omega
theorem implHas (l : List ByteArray) (s : ByteArray) (hl : l.length ≤ 1048576) : Ev (fun k => slices_Contains_string_string.f k l s) (dec (HasP l l.length s)) := by
 unfold slices_Contains_string_string.f slices_Index_string_string.f
 obtain ⟨r,e,hr⟩ := implIndexS_l0 l s hl l.length 0 (by omega)
 refine Ev.bind e (ev_of ?_)
 congr 1
 by_cases h : HasP l l.length s
 ·rw [dec_true h]
  obtain ⟨j,b,c⟩ := h
  exact decide_eq_true (hr.2 ⟨j,Nat.zero_le _,b,c⟩)
 ·rw [dec_false h]
  exact decide_eq_false (fun z => h (by obtain ⟨j,_,b,c⟩ := hr.1 z;exact ⟨j,b,c⟩))
theorem cutPrefix_one (c : UInt8) (l : List UInt8) : strings_CutPrefix.f (bs l) (⟨#[c]⟩ : ByteArray) = some (match l with | [] => (bs [],false) | b :: r => if b = c then (bs r,true) else (bs (b :: r),false)) := by
 have hp : stringslite_HasPrefix.f (bs l) (⟨#[c]⟩ : ByteArray) = some (match l with | [] => false | b :: _ => b == c) := by
  unfold stringslite_HasPrefix.f
  rw [show ((⟨#[c]⟩ : ByteArray).size : Int) = 1 from rfl,bs_size]
  cases l with
  | nil => rfl
  | cons b l =>
   rw [if_pos (by rw [List.length_cons];omega),if_pos (by decide),if_pos (by rw [List.length_cons];omega),ByteArray.toList_eq,ByteArray.toList_eq,ByteArray.data_extract,Array.toList_extract,List.extract_eq_take_drop,list_bs]
   simp
 unfold strings_CutPrefix.f stringslite_CutPrefix.f
 rw [hp]
 cases l with
 | nil => rfl
 | cons b l =>
  simp only [Option.bind_some]
  by_cases h : b = c
  ·rw [if_pos (by simpa using h),if_pos h,show ((⟨#[c]⟩ : ByteArray).size : Int) = 1 from rfl,if_pos (by decide),if_pos (by rw [bs_size,List.length_cons];omega),Option.bind_some]
   rw [show ((1 : Int).toNat) = 1 from rfl,extract_first]
  ·rw [if_neg (by simpa using h),if_neg h,Option.bind_some]
theorem dropWhile_nil {p : UInt8 → Bool} : ∀ {l : List UInt8},l.dropWhile p = [] ↔ ∀ b ∈ l,p b = true
 | [] => by simp
 | b :: l => by
  cases h : p b with
  | true => rw [List.dropWhile_cons_of_pos h,dropWhile_nil];simp [h]
  | false => rw [List.dropWhile_cons_of_neg (by simp [h])];simp [h]
theorem trimS_nil (l cs : List UInt8) : Lib.trimS l cs = [] ↔ ∀ b ∈ l,cs.contains b = true := by
 unfold Lib.trimS Lib.trimLeftS Lib.trimRightS
 rw [dropWhile_nil]
 constructor
 ·intro h b hb
  have e : l.reverse.dropWhile (cs.contains ·) = [] := by
   cases hd : l.reverse.dropWhile (cs.contains ·) with
   | nil => rfl
   | cons c r =>
    exfalso
    have h1 := h c (by rw [hd];simp)
    have h2 := List.head?_dropWhile_not (cs.contains ·) l.reverse
    rw [hd] at h2
    simp only [List.head?_cons] at h2
    rw [h1] at h2
    cases h2
  rw [dropWhile_nil] at e
  exact e b (List.mem_reverse.mpr hb)
 ·intro h b hb
  have := (List.dropWhile_sublist (l := l.reverse) (cs.contains ·)).subset (List.mem_reverse.mp hb)
  exact h b (List.mem_reverse.mp this)
theorem digits_contains (b : UInt8) : ([48,49,50,51,52,53,54,55,56,57] : List UInt8).contains b = true ↔ 48 ≤ b.toNat ∧ b.toNat ≤ 57 := by
 constructor
 ·intro h
  simp only [List.contains_cons,List.contains_nil,Bool.or_false,Bool.or_eq_true,beq_iff_eq] at h
  rcases h with rfl | rfl | rfl | rfl | rfl | rfl | rfl | rfl | rfl | rfl <;> decide
 ·rintro ⟨h0,h1⟩
  have : b = UInt8.ofNat b.toNat := by simp
  generalize b.toNat = n at *
  subst this
  have : n = 48 ∨ n = 49 ∨ n = 50 ∨ n = 51 ∨ n = 52 ∨ n = 53 ∨ n = 54 ∨ n = 55 ∨ n = 56 ∨ n = 57 := by omega
  rcases this with rfl | rfl | rfl | rfl | rfl | rfl | rfl | rfl | rfl | rfl <;> decide
def AllDigits (l : List UInt8) : Prop := ∀ b ∈ l,48 ≤ b.toNat ∧ b.toNat ≤ 57
theorem areDigits_f (l : List UInt8) (hl : l.length ≤ 4294967280) : impl_areDigits.f (bs l) = some (dec (l ≠ [] ∧ AllDigits l)) := by
 unfold impl_areDigits.f
 rw [ByteArray.toList_eq,list_bs]
 by_cases h : l = []
 ·rw [if_pos h,dec_false (fun e => e.1 h)]
 rw [if_neg h]
 unfold strings_Trim.f
 rw [if_pos ⟨by rw [bs_size];omega,by decide,by decide⟩,Option.bind_some,list_bs]
 congr 1
 rw [ByteArray.toList_eq]
 show (Lib.trimS l [48,49,50,51,52,53,54,55,56,57] == []) = _
 by_cases hd : AllDigits l
 ·rw [dec_true ⟨h,hd⟩,(trimS_nil _ _).mpr (fun b hb => (digits_contains b).mpr (hd b hb))]
  rfl
 ·rw [dec_false (fun e => hd e.2)]
  refine beq_eq_false_iff_ne.mpr fun e => hd fun b hb => (digits_contains b).mp ((trimS_nil _ _).mp e b hb)
theorem decFrom_all : ∀ {l : List UInt8} (acc : Nat),AllDigits l → ∃ n,Lib.decFrom acc l = some n
 | [],acc,_ => ⟨acc,rfl⟩
 | b :: l,acc,h => by
  rw [decFrom_cons,digit_byte (h b (by simp)).1 (h b (by simp)).2,Option.bind_some]
  exact decFrom_all _ (fun c hc => h c (by simp [hc]))
theorem val_dec : ∀ {l : List UInt8} {acc n : Nat},Lib.decFrom acc l = some n → l.foldl (fun n b => 10 * n + ((b.toNat : Int) - 48)) (acc : Int) = (n : Int)
 | [],acc,n,h => by cases h;rfl
 | b :: l,acc,n,h => by
  have hb := decFrom_mem h (b := b) (by simp)
  rw [decFrom_cons,digit_byte hb.1 hb.2,Option.bind_some] at h
  rw [List.foldl_cons,show (10 : Int) * (acc : Int) + ((b.toNat : Int) - 48) = ((acc * 10 + (b.toNat - 48) : Nat) : Int) from by omega]
  exact val_dec h
theorem wNum_digits {w : List UInt8} (h0 : w ≠ []) (hd : AllDigits w) (hz : ¬ (1 < w.length ∧ w.head? = some 48)) : ∃ u,wNum w = some u ∧ Lib.decFrom 0 w = some u := by
 obtain ⟨u,hu⟩ := decFrom_all 0 hd
 refine ⟨u,?_,hu⟩
 have := decDigits_of w.length w u rfl hu h0 (fun h e => hz ⟨by omega,e⟩)
 rw [← this,wNum_dec]
theorem wNum_bad {w : List UInt8} (h : ¬ (w ≠ [] ∧ AllDigits w) ∨ (1 < w.length ∧ w.head? = some 48)) : wNum w = none := by
 cases e : wNum w with
 | none => rfl
 | some u =>
  exfalso
  have hw := wNum_some e
  rcases h with h | h
  ·refine h ⟨fun e0 => decDigits_ne u (hw.trans e0),fun b hb => ?_⟩
   rw [← hw] at hb
   exact decDigits_digit hb
  ·by_cases hu : 10 ≤ u
   ·have := decDigits_head u hu
    rw [hw] at this
    exact this h.2
   ·have := congrArg List.length hw
    rw [Lib.decDigits_length,Lib.nDigits_small (by omega)] at this
    omega
theorem decFrom_shift (b : Nat) : ∀ {l : List UInt8} {a v : Nat},Lib.decFrom a l = some v → Lib.decFrom (a + b) l = some (v + b * 10 ^ l.length)
 | [],a,v,h => by cases h;simp [Lib.decFrom]
 | c :: l,a,v,h => by
  rw [decFrom_cons] at h ⊢
  obtain ⟨d,hd,h⟩ := Option.bind_eq_some_iff.mp h
  rw [hd,Option.bind_some,show (a + b) * 10 + d = (a * 10 + d) + b * 10 from by omega,decFrom_shift (b * 10) h,List.length_cons,Nat.pow_succ,Nat.mul_assoc,Nat.mul_comm 10]
theorem all_bs (w p : List UInt8) (hp : p.length ≤ 3) : impl_ReadFix.all (bs w) (bs p) = bs (w ++ (p ++ List.replicate (3 - p.length) 48)) := by
 unfold impl_ReadFix.all
 rw [bs_append,show (⟨#[48,48,48]⟩ : ByteArray).extract (bs p).size 3 = bs (List.replicate (3 - p.length) 48) from ?_,bs_append,List.append_assoc]
 rw [bs_size]
 apply ba_ext
 rw [ByteArray.data_extract,Array.toList_extract,List.extract_eq_take_drop,list_bs]
 match h : p.length,hp with
 | 0,_ => rfl
 | 1,_ => rfl
 | 2,_ => rfl
 | 3,_ => rfl
theorem implFin (neg : Bool) (w p : List UInt8) (u : Nat) (hw : wNum w = some u) (hu : Lib.decFrom 0 w = some u) (hwd : AllDigits w) (hp : p.length ≤ 3) (hpd : AllDigits p) :
  impl_ReadFix.fin neg (bs w) (bs p) = some (fixSign neg ((Lib.decFrom 0 (p ++ List.replicate (3 - p.length) 48)).map fun v => 1000 * u + v)) := by
 have hz : AllDigits (p ++ List.replicate (3 - p.length) 48) := by
  intro b hb
  rcases List.mem_append.mp hb with h | h
  ·exact hpd b h
  ·rw [(List.mem_replicate.mp h).2];decide
 obtain ⟨v,hv⟩ := decFrom_all 0 hz
 have hl : (p ++ List.replicate (3 - p.length) 48).length = 3 := by rw [List.length_append,List.length_replicate];omega
 have hall : Lib.decFrom 0 (w ++ (p ++ List.replicate (3 - p.length) 48)) = some (1000 * u + v) := by
  rw [decFrom_append,hu,Option.bind_some]
  have := decFrom_shift u hv
  rw [Nat.zero_add,hl] at this
  rw [this,show v + u * 10 ^ 3 = 1000 * u + v from by omega]
 rw [hv,Option.map_some]
 unfold impl_ReadFix.fin
 rw [bs_size]
 by_cases h10 : w.length ≤ 10
 ·have hA : (w ++ (p ++ List.replicate (3 - p.length) 48)).all impl_ReadFix.dg = true := by
   refine List.all_eq_true.mpr fun b hb => decide_eq_true ?_
   rcases List.mem_append.mp hb with h | h
   ·exact hwd b h
   ·exact hz b h
  rw [if_pos h10,bs_size,all_bs w p hp,list_bs,if_pos ⟨hp,hA⟩]
  ·have hval : impl_ReadFix.val (w ++ (p ++ List.replicate (3 - p.length) 48)) = ((1000 * u + v : Nat) : Int) := by
    unfold impl_ReadFix.val
    exact val_dec (acc := 0) hall
   rw [hval]
   unfold impl_isDecimal.f
   rw [implWithin,Option.bind_some,Option.bind_some,fixSign_some]
   by_cases h : 1000 * u + v ≤ 2147483647
   ·rw [if_pos (decide_eq_true (by omega)),if_pos h]
   ·rw [if_neg (by simp;omega),if_neg h]
 ·rw [if_neg h10,fixSign_some,if_neg]
  intro hb
  have h1 := congrArg List.length (wNum_some hw)
  rw [Lib.decDigits_length] at h1
  have h2 := nDigits_le 9 u (by omega)
  omega
theorem implBody (neg : Bool) (l : List UInt8) (hl : l.length ≤ 4294967280) : ((strings_Cut.f (bs l) (⟨#[46]⟩ : ByteArray)).bind fun u => (impl_areDigits.f u.1).bind fun b1 => (if b1 = true then (if 1 < u.1.size ∧ bt u.1 0 = 48 then some (0,false) else (if u.2.2 = true then (impl_areDigits.f u.2.1).bind fun b2 => (if b2 = true then (if u.2.1.size ≤ 3 then impl_ReadFix.fin neg u.1 u.2.1 else some (0,false)) else some (0,false)) else impl_ReadFix.fin neg u.1 u.2.1)) else some (0,false))) = some (fixBody neg l) := by
 have hc : strings_Cut.f (bs l) (⟨#[46]⟩ : ByteArray) = some (bs (cutAt 46 l).1,bs ((cutAt 46 l).2.getD []),(cutAt 46 l).2.isSome) := by
  unfold strings_Cut.f
  rw [if_pos (by rw [bs_size];omega)]
  show some (bs (Lib.cut l [46]).1,bs (Lib.cut l [46]).2.1,(Lib.cut l [46]).2.2) = _
  rw [cut_cutAt]
 rw [hc,Option.bind_some]
 unfold fixBody fixNum
 have hlen := cutAt_length 46 l
 generalize cutAt 46 l = c at hlen ⊢
 obtain ⟨w,q⟩ := c
 simp only at hlen ⊢
 rw [areDigits_f w (by omega),Option.bind_some]
 by_cases hw : w ≠ [] ∧ AllDigits w
 ·rw [if_pos (dec_true hw)]
  have hb : (1 < (bs w).size ∧ bt (bs w) 0 = 48) ↔ (1 < w.length ∧ w.head? = some 48) := by
   rw [bs_size]
   cases w with
   | nil => simp
   | cons b w =>
    have hb0 : bt (bs (b :: w)) 0 = (b.toNat : Int) := bt_get (n := 0) rfl
    rw [hb0,List.head?_cons,Option.some.injEq]
    exact and_congr_right fun _ => u8_eq (n := 48) (by decide)
  by_cases hz : 1 < w.length ∧ w.head? = some 48
  ·rw [if_pos (hb.mpr hz),wNum_bad (Or.inr hz)]
   rfl
  ·rw [if_neg (fun e => hz (hb.mp e))]
   obtain ⟨u,hu,hu2⟩ := wNum_digits hw.1 hw.2 hz
   rw [hu,Option.bind_some]
   cases q with
   | none =>
    rw [if_neg (by simp)]
    rw [show bs ((none : Option (List UInt8)).getD []) = bs [] from rfl,implFin neg w [] u hu hu2 hw.2 (by simp) (fun b hb => by simp at hb)]
    congr 2
   | some p =>
    simp only [restLen] at hlen
    rw [if_pos (show (some p).isSome = true from rfl),show (some p).getD [] = p from rfl,areDigits_f p (by omega),Option.bind_some]
    by_cases hp : p ≠ [] ∧ AllDigits p
    ·rw [if_pos (dec_true hp),bs_size]
     have hp1 := List.length_pos_iff.mpr hp.1
     by_cases h3 : p.length ≤ 3
     ·rw [if_pos h3,implFin neg w p u hu hu2 hw.2 h3 hp.2]
      simp only [pNum]
      rw [if_pos ⟨hp1,h3⟩]
     ·rw [if_neg h3]
      simp only [pNum]
      rw [if_neg (fun e => h3 e.2)]
      rfl
    ·rw [if_neg (by rw [dec_false hp];simp)]
     have : pNum (some p) = none := by
      simp only [pNum]
      by_cases h : 1 ≤ p.length ∧ p.length ≤ 3
      ·rw [if_pos h]
       cases e : Lib.decFrom 0 (p ++ List.replicate (3 - p.length) 48) with
       | none => rfl
       | some v =>
        refine absurd ⟨List.length_pos_iff.mp h.1,fun b hb => decFrom_mem e (by simp [hb])⟩ hp
      ·rw [if_neg h]
     rw [this]
     rfl
 ·rw [if_neg (by rw [dec_false hw];simp),wNum_bad (Or.inl hw)]
  rfl
theorem implReadFix_f (s : ByteArray) (hs : s.size ≤ 4294967280) : impl_ReadFix.f s = some (readFix s.data.toList) := by
 have hl : s.data.toList.length = s.size := data_length ..
 unfold impl_ReadFix.f
 rw [← bs_list s,cutPrefix_one,list_bs,Option.bind_some]
 cases h : s.data.toList with
 | nil => exact implBody false [] (by simp)
 | cons b l =>
  rw [h,List.length_cons] at hl
  rw [readFix_cons]
  simp only
  by_cases hb : b = 45
  ·rw [if_pos hb,if_pos hb]
   exact implBody true l (by omega)
  ·rw [if_neg hb,if_neg hb]
   exact implBody false (b :: l) (by rw [List.length_cons];omega)
theorem ia_plain : ∀ l : List UInt8,Lib.indexAny l [44,34,10,13] = if (csvPlain l).2 = [] then -1 else ((csvPlain l).1.length : Int)
 | [] => rfl
 | b :: l => by
  have ih := ia_plain l
  have hc : ([44,34,10,13] : List UInt8).contains b = csvSp b := by
   unfold csvSp
   simp only [List.contains_cons,List.contains_nil,Bool.or_false]
   rw [Bool.or_assoc,Bool.or_assoc]
  unfold Lib.indexAny
  unfold csvPlain at ih ⊢
  rw [hc]
  cases hs : csvSp b with
  | true =>
   rw [List.takeWhile_cons_of_neg (by simp [hs]),List.dropWhile_cons_of_neg (by simp [hs])]
   simp
  | false =>
   rw [List.takeWhile_cons_of_pos (by simp [hs]),List.dropWhile_cons_of_pos (by simp [hs]),ih]
   by_cases he : l.dropWhile (fun b => !csvSp b) = []
   ·simp [he]
   ·simp only [if_neg he]
    rw [if_neg (by simp),if_neg (by simp),List.length_cons]
    push_cast
    rfl
theorem implQuoted_l0 (s : ByteArray) (hs : s.size ≤ 4000) : ∀ (m : Nat) (l x : List UInt8),l.length ≤ m → l <:+ s.data.toList → x.length + l.length ≤ 4000 →
  Ev (fun k => impl_csvReader_quoted.l0 k (nm x) s (pz s l)) ((csvQ l).elim ((⟨#[]⟩ : ByteArray),false,s,(s.size : Int)) (fun p => (bs (x ++ p.1),true,s,pz s p.2))) := by
 intro m
 induction m with
 | zero =>
  intro l x hl ht hx
  obtain rfl := List.length_eq_zero_iff.mp (Nat.le_zero.mp hl)
  refine ev_succ ?_
  simp only [impl_csvReader_quoted.l0]
  refine ev_neg (by rw [pz_nil];exact Int.lt_irrefl _) (ev_eq (Ev.now _) ?_)
  rw [pz_nil]
  rfl
 | succ m ih =>
  intro l x hl ht hx
  cases l with
  | nil =>
   refine ev_succ ?_
   simp only [impl_csvReader_quoted.l0]
   refine ev_neg (by rw [pz_nil];exact Int.lt_irrefl _) (ev_eq (Ev.now _) ?_)
   rw [pz_nil]
   rfl
  | cons b l =>
   rw [List.length_cons] at hl hx
   refine ev_succ ?_
   simp only [impl_csvReader_quoted.l0]
   refine ev_pos pz_lt (ev_pos (pz_pos ht) ?_)
   simp only [bt_pz ht,pz_w hs ht]
   unfold csvQ
   have ht1 := tail_cons ht
   by_cases hb : b = 34
   ·subst hb
    refine ev_pos rfl ?_
    rw [if_pos rfl]
    cases l with
    | nil =>
     refine ev_pos (pz_nil s) (ev_eq (Ev.now _) ?_)
     rw [strOfNums_nm]
     simp
    | cons c l =>
     rw [List.length_cons] at hl hx
     refine ev_neg (by have := @pz_lt s c l;omega) (ev_pos (pz_pos ht1) (ev_pos pz_lt ?_))
     simp only [bt_pz ht1,pz_w hs ht1]
     by_cases hc : c = 34
     ·subst hc
      refine ev_pos rfl (ev_pos (by rw [nm_length];omega) ?_)
      rw [show nm x ++ [34] = nm (x ++ [34]) from nm_snoc x 34]
      refine ev_eq (ih l (x ++ [34]) (by omega) (tail_cons ht1) (by rw [List.length_append,List.length_singleton];omega)) ?_
      simp only [if_true]
      cases csvQ l with
      | none => rfl
      | some p => simp
     ·refine ev_neg (fun e => hc ((u8_eq (n := 34) (by decide)).mp e)) (ev_eq (Ev.now _) ?_)
      rw [if_neg hc,strOfNums_nm]
      simp
   ·refine ev_neg (fun e => hb ((u8_eq (n := 34) (by decide)).mp e)) (ev_pos (by rw [nm_length];omega) ?_)
    rw [nm_snoc,if_neg hb]
    refine ev_eq (ih l (x ++ [b]) (by omega) ht1 (by rw [List.length_append,List.length_singleton];omega)) ?_
    cases csvQ l with
    | none => rfl
    | some p => simp
theorem plain_split (l : List UInt8) : (csvPlain l).1 ++ (csvPlain l).2 = l := List.takeWhile_append_dropWhile ..
theorem implPlain_f (s : ByteArray) (hs : s.size ≤ 4000) (l : List UInt8) (ht : l <:+ s.data.toList) : impl_csvReader_plain.f s (pz s l) = some (bs (csvPlain l).1,s,pz s (csvPlain l).2) := by
 have h0 := pz_pos ht
 have h1 := pz_le s l
 have hl := tail_length ht
 have hp := csvPlain_length l
 have cut : ∀ e : Int,e = pz s (csvPlain l).2 → s.extract (pz s l).toNat e.toNat = bs (csvPlain l).1 := by
  intro e he
  refine ba_ext ?_
  rw [ByteArray.data_extract,Array.toList_extract,List.extract_eq_take_drop,list_bs,pz_toNat ht]
  rw [show e.toNat - (pz s l).toNat = (csvPlain l).1.length from by subst he;unfold pz at h0 ⊢;omega]
  have := congrArg (List.take (csvPlain l).1.length) (plain_split l)
  rw [List.take_left] at this
  exact this.symm
 unfold impl_csvReader_plain.f
 rw [if_pos h0,if_pos h1,ext_pz ht]
 unfold strings_IndexAny.f
 rw [if_pos ⟨by rw [bs_size];omega,rfl⟩,Option.bind_some,list_bs,ia_plain]
 by_cases he : (csvPlain l).2 = []
 ·have e1 : wrap64 ((s.size : Int) - pz s l) = (s.size : Int) - pz s l := w64 (by omega) (by omega)
  have e2 : wrap64 (pz s l + ((s.size : Int) - pz s l)) = (s.size : Int) := by rw [w64 (by omega) (by omega)];omega
  rw [if_pos he,if_pos (by decide),e1,e2,if_pos h1,if_pos (Int.le_refl _),cut _ (by rw [he,pz_nil]),he,pz_nil]
 ·have e2 : wrap64 (pz s l + ((csvPlain l).1.length : Int)) = pz s (csvPlain l).2 := by
   rw [w64 (by unfold pz;omega) (by unfold pz;omega)]
   unfold pz
   omega
  rw [if_neg he,if_neg (by omega),e2,if_pos (by unfold pz;omega),if_pos (pz_le _ _),cut _ rfl]
def afterI (s : ByteArray) (l : List UInt8) : Int × ByteArray × Int := (csvAfter l).elim (3,s,pz s l) (fun p => (if p.1 = true then 2 else 1,s,pz s p.2))
theorem hp_crlf (l : List UInt8) : strings_HasPrefix.f (bs l) (⟨#[13,10]⟩ : ByteArray) = some (l.take 2 == [13,10]) := by
 unfold strings_HasPrefix.f stringslite_HasPrefix.f
 have e2 : ((⟨#[13,10]⟩ : ByteArray).size : Int) = 2 := rfl
 rw [e2,bs_size]
 by_cases h : (l.length : Int) ≥ 2
 ·rw [if_pos h,if_pos (by decide),if_pos h,Option.bind_some,ByteArray.toList_eq,ByteArray.toList_eq,ByteArray.data_extract,Array.toList_extract,List.extract_eq_take_drop,list_bs]
  rfl
 ·rw [if_neg h,Option.bind_some]
  match l,h with
  | [],_ => rfl
  | [a],_ => simp
  | a :: b :: l,h => simp at h;omega
theorem implAfter_f (s : ByteArray) (hs : s.size ≤ 4000) (l : List UInt8) (ht : l <:+ s.data.toList) : impl_csvReader_after.f s (pz s l) = some (afterI s l) := by
 have h0 := pz_pos ht
 have h1 := pz_le s l
 unfold impl_csvReader_after.f
 rw [if_pos h0,if_pos h1,ext_pz ht,ByteArray.toList_eq,list_bs]
 cases l with
 | nil => rfl
 | cons b l =>
  have hb0 : bt (bs (b :: l)) 0 = (b.toNat : Int) := bt_get (n := 0) rfl
  rw [if_neg (by simp),if_pos (by rw [bs_size,List.length_cons];omega),hb0]
  unfold afterI csvAfter
  simp only
  by_cases h1 : b = 44
  ·rw [if_pos (by rw [h1];rfl),if_pos h1,pz_w hs ht]
   rfl
  rw [if_neg (show ¬ ((b.toNat : Int) = 44) from fun e => h1 ((u8_eq (n := 44) (by decide)).mp e)),if_neg h1]
  by_cases h2 : b = 10
  ·rw [if_pos (by rw [h2];rfl),if_pos h2,pz_w hs ht]
   rfl
  rw [if_neg (show ¬ ((b.toNat : Int) = 10) from fun e => h2 ((u8_eq (n := 10) (by decide)).mp e)),if_neg h2,hp_crlf,Option.bind_some]
  by_cases h3 : b = 13
  ·rw [if_pos h3]
   subst h3
   cases l with
   | nil => rfl
   | cons c l =>
    simp only
    by_cases h4 : c = 10
    ·rw [if_pos h4,if_pos (by rw [h4];rfl),pz_w2 hs ht]
     rfl
    ·rw [if_neg h4,if_neg (by simp [h4])]
     rfl
  ·rw [if_neg h3,if_neg (by cases l <;> simp [h3])]
   rfl
theorem implCsv_go (s : ByteArray) (hs : s.size ≤ 4000) : ∀ (K : Nat) (l : List UInt8) (rows : List (List ByteArray)) (row : List ByteArray),l <:+ s.data.toList → csvLeft l row < K → rows.length + row.length + csvLeft l row ≤ 9000 →
  Ev (fun k => impl_ReadCsv.l0 k s rows row s (pz s l)) (csvGo K l rows row) := by
 intro K
 induction K with
 | zero => intro l rows row _ h _;omega
 | succ K ih =>
  intro l rows row ht hK hb
  have key : ∀ (f l1 : List UInt8) (q : Option (List UInt8 × List UInt8)),¬ (l = [] ∧ row = []) → q = csvField l → q = some (f,l1) → Ev (fun k => impl_ReadCsv.j3 k s rows row (bs f) true s (pz s l1)) (csvGo (K + 1) l rows row) := by
   intro f l1 q hr hq e
   rw [hq] at e
   have ht1 := (csvField_tail e).trans ht
   refine ev_succ ?_
   simp only [impl_ReadCsv.j3]
   refine ev_pos (by first | rfl | trivial) (ev_pos (by omega) ?_)
   simp only [Option.bind_some,implAfter_f s hs l1 ht1]
   unfold csvGo
   rw [if_neg hr,e]
   simp only
   unfold afterI
   cases ha : csvAfter l1 with
   | none => exact ev_pos rfl (Ev.now _)
   | some p =>
    obtain ⟨z,l2⟩ := p
    cases z with
    | false =>
     have a := csvLeft_more (row := row) (x := bs f) e ha
     refine ev_neg (by simp) (ev_neg (by simp) ?_)
     exact ih l2 rows (row ++ [bs f]) ((csvAfter_tail ha).trans ht1) (by omega) (by rw [List.length_append,List.length_singleton];omega)
    | true =>
     have a := csvLeft_end hr e ha
     refine ev_neg (by simp) (ev_pos (by simp) (ev_pos (by omega) ?_))
     exact ih l2 (rows ++ [row ++ [bs f]]) [] ((csvAfter_tail ha).trans ht1) (by omega) (by rw [List.length_append,List.length_singleton,List.length_nil];omega)
  have two : ∀ b l',l = b :: l' → Ev (fun k => impl_ReadCsv.j1 k s rows row true s (pz s l)) (csvGo (K + 1) l rows row) := by
   intro b l' e
   subst e
   refine ev_succ ?_
   simp only [impl_ReadCsv.j1]
   refine ev_pos (by first | rfl | trivial) (ev_pos pz_lt (ev_pos (pz_pos ht) (ev_succ ?_)))
   simp only [impl_ReadCsv.j2,bt_pz ht]
   by_cases hq : b = 34
   ·refine ev_pos (by rw [hq];rfl) ?_
    have hQ : Ev (fun k => impl_csvReader_quoted.f k s (pz s (b :: l'))) ((csvQ l').elim ((⟨#[]⟩ : ByteArray),false,s,(s.size : Int)) (fun p => (bs ([] ++ p.1),true,s,pz s p.2))) := by
     unfold impl_csvReader_quoted.f
     rw [pz_w hs ht]
     exact implQuoted_l0 s hs l'.length l' [] (Nat.le_refl _) (tail_cons ht) (by have := tail_length ht;rw [List.length_cons] at this;rw [List.length_nil];omega)
    refine hQ.bind ?_
    have ef : csvField (b :: l') = csvQ l' := by unfold csvField;simp only;rw [if_pos hq]
    cases e : csvQ l' with
    | none =>
     refine ev_succ ?_
     simp only [impl_ReadCsv.j3,Option.elim]
     refine ev_neg (by simp) (ev_eq (Ev.now _) ?_)
     unfold csvGo
     rw [if_neg (by simp),ef,e]
    | some p => exact key p.1 p.2 _ (by simp) rfl (by rw [ef,e])
   ·refine ev_neg (fun e => hq ((u8_eq (n := 34) (by decide)).mp (eq_of_beq e))) ?_
    simp only [implPlain_f s hs _ ht,Option.bind_some]
    exact key _ _ _ (by simp) rfl (by unfold csvField;simp only;rw [if_neg hq])
  refine ev_succ ?_
  simp only [impl_ReadCsv.l0]
  cases l with
  | cons b l' => exact ev_pos pz_lt (two b l' rfl)
  | nil =>
   refine ev_neg (by rw [pz_nil];exact Int.lt_irrefl _) (ev_succ ?_)
   simp only [impl_ReadCsv.j1]
   by_cases hr : row = []
   ·subst hr
    refine ev_neg (by simp) (ev_eq (Ev.now _) ?_)
    unfold csvGo
    rw [if_pos ⟨rfl,rfl⟩]
   ·have h1 : 0 < row.length := List.length_pos_iff.mpr hr
    refine ev_pos (by simp;omega) (ev_neg (by rw [pz_nil];exact Int.lt_irrefl _) (ev_succ ?_))
    simp only [impl_ReadCsv.j2]
    refine ev_neg (by simp) ?_
    simp only [implPlain_f s hs _ ht,Option.bind_some]
    exact key [] [] _ (fun h => hr h.2) rfl rfl
theorem implReadCsv_f (s : ByteArray) : Ev (fun k => impl_ReadCsv.f k s) (readCsv s) := by
 unfold impl_ReadCsv.f readCsv
 by_cases h : s.size > 4000
 ·rw [if_pos h]
  exact ev_pos (by omega) (Ev.now _)
 ·rw [if_neg h]
  refine ev_neg (by omega) ?_
  have hl : s.data.toList.length = s.size := data_length ..
  have := implCsv_go s (by omega) (2 * s.size + 2) s.data.toList [] [] (List.suffix_refl _) (by unfold csvLeft;rw [if_pos rfl];omega) (by unfold csvLeft;rw [if_pos rfl];simp;omega)
  rwa [pz_all] at this
theorem implRow_l1 (n i : Nat) (rows : List (List ByteArray)) (row : List ByteArray) (X : List (List Int)) (hlen : row.length ≤ 1000) (hs : ∀ x ∈ row,x.size ≤ 4000) (hX : X.length ≤ 1000) (hi : i ≤ 1000000)
  (res : List Int → List (List Int) × Int × Int × Int) (hres : ∀ v,v.length = row.length → Ev (fun k => impl_readRows.l0 k (n : Int) (X ++ [v]) rows (rows.length : Int) (wrap64 ((i : Int) + 1))) (res v)) :
  ∀ (l : List ByteArray) (acc : List Int) (j : Nat),row.drop j = l → j + l.length = row.length → acc.length = j → Ev (fun k => impl_readRows.l1 k (n : Int) X (i : Int) acc rows (rows.length : Int) (i : Int) row (row.length : Int) (j : Int)) (match (tRow l j).2 with | none => res (acc ++ (tRow l j).1) | some c => ([],9,((i + 1 : Nat) : Int),(c : Int))) := by
 intro l
 induction l with
 | nil =>
  intro acc j hd hj ha
  rw [List.length_nil] at hj
  refine ev_succ (Ev.congr (fun k => by rw [impl_readRows.l1]) ?_)
  refine ev_neg (by omega) (ev_pos (by omega) ?_)
  rw [show tRow [] j = ([],none) from rfl]
  simp only [List.append_nil]
  exact hres acc (by omega)
 | cons x l ih =>
  intro acc j hd hj ha
  rw [List.length_cons] at hj
  have hx : row[j]? = some x := by
   rw [← List.head?_drop,hd]
   rfl
  have hr : rdOf ByteArray.empty row (j : Int) = x := by rw [rdOfn,List.getD_eq_getElem?_getD,hx];rfl
  have hxs := hs x (List.mem_of_getElem? hx)
  refine ev_succ (Ev.congr (fun k => by rw [impl_readRows.l1]) ?_)
  refine ev_pos (by omega) (ev_pos (by omega) (ev_pos (by omega) ?_))
  rw [hr]
  refine (ev_of (implReadFix_f x (by omega))).bind ?_
  rw [tRow_cons]
  by_cases h : (readFix x.data.toList).2 = true
  ·refine ev_pos h (ev_pos (by omega) ?_)
   rw [if_pos h,w_next (by omega)]
   have := ih (acc ++ [(readFix x.data.toList).1]) (j + 1) (by rw [← List.drop_drop,hd];rfl) (by omega) (by rw [List.length_append,List.length_singleton];omega)
   simp only
   rw [List.append_assoc] at this
   exact this
  ·rw [if_neg h]
   refine ev_neg h (ev_eq (Ev.now _) ?_)
   rw [w_next (by omega)]
theorem implRows_l0 (n : Nat) (rows : List (List ByteArray)) (hrows : rows.length ≤ 1000) (hn : n ≤ 1000) (hs : ∀ r ∈ rows,∀ x ∈ r,x.size ≤ 4000) :
  ∀ (l : List (List ByteArray)) (i : Nat) (acc : List (List Int)),rows.drop i = l → i + l.length = rows.length → acc.length ≤ i → Ev (fun k => impl_readRows.l0 k (n : Int) acc rows (rows.length : Int) (i : Int)) (tRows n l (i + 1) acc) := by
 intro l
 induction l with
 | nil =>
  intro i acc hd hj ha
  rw [List.length_nil] at hj
  refine ev_succ (Ev.congr (fun k => by rw [impl_readRows.l0]) ?_)
  exact ev_neg (by omega) (Ev.now _)
 | cons row l ih =>
  intro i acc hd hj ha
  rw [List.length_cons] at hj
  have hx : rows[i]? = some row := by
   rw [← List.head?_drop,hd]
   rfl
  have hr : rd_L2 rows (i : Int) = row := by unfold rd_L2;rw [List.getD_eq_getElem?_getD,Int.toNat_natCast,hx];rfl
  refine ev_succ (Ev.congr (fun k => by rw [impl_readRows.l0]) ?_)
  refine ev_pos (by omega) (ev_pos (by omega) (ev_pos (by omega) ?_))
  rw [hr,tRows_cons]
  by_cases h : row.length = n
  ·rw [if_pos h]
   refine ev_pos (by omega) ?_
   have go := implRow_l1 n i rows row acc (by omega) (hs row (List.mem_of_getElem? hx)) (by omega) (by omega) (fun v => tRows n l (i + 1 + 1) (acc ++ [v])) (fun v hv => by
    rw [w_next (by omega)]
    exact ih (i + 1) (acc ++ [v]) (by rw [← List.drop_drop,hd];rfl) (by omega) (by rw [List.length_append,List.length_singleton];omega)) row [] 0 rfl (by omega) rfl
   exact go
  ·rw [if_neg h]
   refine ev_neg (by omega) (ev_eq (Ev.now _) ?_)
   rw [w_next (by omega)]
theorem implReadRows (names : List ByteArray) (rest : List (List ByteArray)) (n : Nat) (hrows : rest.length ≤ 1000) (hn : n ≤ 1000) (hs : ∀ r ∈ rest,∀ x ∈ r,x.size ≤ 4000) : Ev (fun k => impl_readRows.f k (names :: rest) (n : Int)) (tRows n rest 1 []) := by
 refine Ev.congr (fun k => by rw [impl_readRows.f]) ?_
 refine ev_pos (by rw [List.length_cons];omega) ?_
 refine (Ev.now ((names :: rest).drop 1)).bind ?_
 exact implRows_l0 n rest hrows hn hs rest 0 [] rfl (by omega) (by simp)
theorem tRows_len (n : Nat) : ∀ (rows : List (List ByteArray)) (i : Nat) (acc : List (List Int)),(∀ v ∈ acc,v.length = n) → (tRows n rows i acc).2.1 = 0 → (∀ v ∈ (tRows n rows i acc).1,v.length = n) ∧ (tRows n rows i acc).1.length = acc.length + rows.length
 | [],_,_,ha,_ => ⟨ha,by simp [tRows]⟩
 | row :: r,i,acc,ha,h => by
  rw [tRows_cons] at h ⊢
  by_cases hn : row.length = n
  ·rw [if_pos hn] at h ⊢
   cases e : (tRow row 0).2 with
   | none =>
    rw [e] at h
    have := tRows_len n r (i + 1) (acc ++ [(tRow row 0).1]) (by
     intro v hv
     rcases List.mem_append.mp hv with hm | hm
     ·exact ha v hm
     ·rw [List.mem_singleton.mp hm,tRow_length row 0 e,hn]) h
    refine ⟨this.1,?_⟩
    show (tRows n r (i + 1) (acc ++ [(tRow row 0).1])).1.length = _
    have h2 := this.2
    rw [List.length_append,List.length_singleton] at h2
    rw [List.length_cons]
    omega
   | some k => rw [e] at h;simp at h
  ·rw [if_neg hn] at h;simp at h
theorem implTab_l1 (m : Nat) (nums : List (List Int)) (N : List ByteArray) (T : ByteArray) (hm : m ≤ 100) (hn : nums.length ≤ 1000) (hv : ∀ v ∈ nums,v.length = m + 1) :
  ∀ (l : List (List Int)) (i : Nat) (R : List (List Int)) (Y : List Int),nums.drop i = l → i + l.length = nums.length → R.length = i → Y.length = i → Ev (fun k => impl_ReadTable.l1 k (m : Int) nums (nums.length : Int) (i : Int) N T R Y) (N,T,R ++ l.map (fun x => x.take m),Y ++ l.map (fun x => rd x (m : Int)),0,0,0) := by
 intro l
 induction l with
 | nil =>
  intro i R Y hd hj hR hY
  rw [List.length_nil] at hj
  refine ev_succ (Ev.congr (fun k => by rw [impl_ReadTable.l1]) ?_)
  refine ev_neg (by omega) (ev_eq (Ev.now _) ?_)
  simp
 | cons v l ih =>
  intro i R Y hd hj hR hY
  rw [List.length_cons] at hj
  have hx : nums[i]? = some v := by
   rw [← List.head?_drop,hd]
   rfl
  have hr : rd_L4 nums (i : Int) = v := by unfold rd_L4;rw [List.getD_eq_getElem?_getD,Int.toNat_natCast,hx];rfl
  have hvl := hv v (List.mem_of_getElem? hx)
  refine ev_succ (Ev.congr (fun k => by rw [impl_ReadTable.l1]) ?_)
  refine ev_pos (by omega) (ev_pos (by omega) (ev_pos (by omega) (ev_pos (by omega) ?_)))
  rw [hr]
  refine ev_pos (by omega) ?_
  rw [Int.toNat_natCast]
  have hc : slices_Clone_int_int.f (v.take m) = some (v.take m) := by
   unfold slices_Clone_int_int.f
   rw [if_pos (by rw [List.length_take];omega)]
  refine (ev_of hc).bind ?_
  refine (Ev.now [v.take m]).bind ?_
  refine ev_pos (by rw [List.length_singleton];omega) (ev_pos (by omega) ?_)
  refine (Ev.now [rd v (m : Int)]).bind ?_
  refine ev_pos (by rw [List.length_singleton];omega) ?_
  rw [w_next (by omega)]
  have := ih (i + 1) (R ++ [v.take m]) (Y ++ [rd v (m : Int)]) (by rw [← List.drop_drop,hd];rfl) (by omega) (by rw [List.length_append,List.length_singleton];omega) (by rw [List.length_append,List.length_singleton];omega)
  refine ev_eq this ?_
  simp
theorem faultP {a b c : Int} (h : a = 0 → (a,b,c) = (0,0,0)) : ((!(a == 0) || (!(b == 0) || (!(c == 0)))) = true) ↔ ¬ a = 0 := by
 by_cases ha : a = 0
 ·have := h ha
  simp only [Prod.mk.injEq] at this
  simp [this]
 ·simp [ha]
theorem implTab_l0 (rows : List (List ByteArray)) (l : List ByteArray) (hl : l.length ≤ 1000000) (hs : ∀ x ∈ l,x.size ≤ 4000) (out : TabR) (hout : Ev (fun k => impl_ReadTable.l0 k rows l l (l.length : Int) (l.length : Int)) out) : ∀ (d n : Nat),n + d = l.length → Ev (fun k => impl_ReadTable.l0 k rows l l (l.length : Int) (n : Int)) (match headFrom l d n with | none => out | some p => badT p.1 0 p.2) := by
 intro d
 induction d with
 | zero =>
  intro n hn
  obtain rfl : n = l.length := by omega
  exact hout
 | succ d ih =>
  intro n hn
  refine ev_succ (Ev.congr (fun k => by rw [impl_ReadTable.l0]) ?_)
  refine ev_pos (by omega) (ev_pos (by omega) (ev_pos (by omega) ?_))
  have hsz := sAt_size hs n
  refine (implNameOk (sAt l n) (by omega)).bind ?_
  unfold headFrom
  by_cases h : IsName (sAt l n)
  ·rw [if_pos h]
   refine ev_pos (dec_true h) (ev_pos (by omega) ?_)
   rw [Int.toNat_natCast]
   refine (implHas (l.take n) (sAt l n) (by rw [List.length_take];omega)).bind ?_
   rw [dec_congr (hasP_take l (by omega) (sAt l n))]
   by_cases hh : HasP l n (sAt l n)
   ·rw [if_pos hh]
    exact ev_pos (dec_true hh) (Ev.now _)
   ·rw [if_neg hh]
    refine ev_neg (by rw [dec_false hh];decide) ?_
    rw [w_next (by omega)]
    exact ih (n + 1) (by omega)
  ·rw [if_neg h]
   exact ev_neg (by rw [dec_false h];decide) (Ev.now _)
theorem implReadTable_f (s : ByteArray) : Ev (fun k => impl_ReadTable.f k s) (readTable s) := by
 refine Ev.congr (fun k => by rw [impl_ReadTable.f]) ?_
 refine (implReadCsv_f s).bind ?_
 have hsz := readCsv_sizes s
 have hcnt := readCsv_counts s
 have hf := @readCsv_fault s
 unfold readTable
 by_cases h0 : (readCsv s).2.1 = 0
 ·rw [if_pos h0]
  refine ev_neg (fun e => (faultP (fun _ => hf h0)).mp e h0) ?_
  cases hc : (readCsv s).1 with
  | nil => exact ev_pos rfl (Ev.now _)
  | cons names rest =>
   rw [hc] at hsz
   rw [hc,List.length_cons] at hcnt
   have hns := hsz names (by simp)
   have hN := hcnt.2 names (by simp)
   refine ev_neg (by rw [List.length_cons];omega) (ev_pos (by rw [List.length_cons];omega) ?_)
   rw [show rd_L2 (names :: rest) 0 = names from rfl]
   refine (ev_of (implWithin (names.length : Int) 2 5)).bind ?_
   simp only
   unfold tabBody
   by_cases h25 : 2 ≤ names.length ∧ names.length ≤ 5
   ·rw [if_pos h25]
    refine ev_pos (decide_eq_true (by omega)) ?_
    refine ev_eq (implTab_l0 (names :: rest) names (by omega) hns (if 1 ≤ rest.length ∧ rest.length ≤ 40 then tabEnd names (tRows names.length rest 1 []) else badT 8 0 0) ?_ names.length 0 (by omega)) (by cases headFrom names names.length 0 <;> rfl)
    refine ev_succ (Ev.congr (fun k => by rw [impl_ReadTable.l0]) ?_)
    refine ev_neg (by omega) ?_
    rw [show wrap64 (((names :: rest).length : Int) - 1) = (rest.length : Int) from by rw [List.length_cons,w64 (by omega) (by omega)];omega]
    refine (ev_of (implWithin (rest.length : Int) 1 40)).bind ?_
    by_cases hr : 1 ≤ rest.length ∧ rest.length ≤ 40
    ·rw [if_pos hr]
     refine ev_pos (decide_eq_true (by omega)) ?_
     refine (implReadRows names rest names.length (by omega) (by omega) (fun r hr => hsz r (by simp [hr]))).bind ?_
     unfold tabEnd
     by_cases hz : (tRows names.length rest 1 []).2.1 = 0
     ·rw [if_pos hz]
      have hzz := tRows_fault _ _ _ _ hz
      refine ev_neg (fun e => (faultP (fun _ => hzz)).mp e hz) ?_
      have e1 : wrap64 ((names.length : Int) - 1) = ((names.length - 1 : Nat) : Int) := by rw [w64 (by omega) (by omega)];omega
      rw [e1]
      refine ev_pos (by omega) (ev_pos (by omega) ?_)
      rw [Int.toNat_natCast]
      have hcl : slices_Clone_string_string.f (names.take (names.length - 1)) = some (names.take (names.length - 1)) := by
       unfold slices_Clone_string_string.f
       rw [if_pos (by rw [List.length_take];omega)]
      refine (ev_of hcl).bind (ev_pos (by omega) ?_)
      have hlen := tRows_len names.length rest 1 [] (fun v hv => by cases hv) hz
      have go := implTab_l1 (names.length - 1) (tRows names.length rest 1 []).1 (names.take (names.length - 1)) (sAt names (names.length - 1)) (by omega) (by rw [hlen.2,List.length_nil];omega) (by intro v hv;rw [hlen.1 v hv];omega) (tRows names.length rest 1 []).1 0 [] [] rfl (by omega) rfl rfl
      exact go
     ·rw [if_neg hz]
      exact ev_pos ((faultP (fun h => absurd h hz)).mpr hz) (Ev.now _)
    ·rw [if_neg hr]
     exact ev_neg (by simp;omega) (Ev.now _)
   ·rw [if_neg h25]
    exact ev_neg (by simp;omega) (Ev.now _)
 ·rw [if_neg h0]
  exact ev_pos ((faultP (fun h => absurd h h0)).mpr h0) (Ev.now _)
theorem rdL (xs : List (List Int)) (i : Int) : rd_L4 xs i = xs.getD i.toNat [] := rfl
def wt (l : List (List Int)) : Nat := l.length + (l.map List.length).sum
theorem wt_mem {l : List (List Int)} {x : List Int} (h : x ∈ l) : x.length ≤ wt l := by
 unfold wt
 induction l with
 | nil => simp at h
 | cons y l ih =>
  simp only [List.mem_cons] at h
  simp only [List.map_cons,List.sum_cons,List.length_cons]
  rcases h with rfl | h
  ·omega
  ·have := ih h;omega
theorem eqIntS_l0 (l : List Int) (hl : l.length ≤ 35184372088832) : ∀ (d n : Nat),n + d = l.length → Ev (fun k => laws_eqIntS.l0 k l l (n : Int)) true := by
 intro d
 induction d with
 | zero =>
  intro n hn
  refine ev_end fun k => ?_
  simp only [laws_eqIntS.l0]
  rw [if_neg (by omega)]
 | succ d ih =>
  intro n hn
  refine Ev.step (fun k => ?_) (ih (n + 1) (by omega))
  simp only [laws_eqIntS.l0]
  rw [if_pos (by omega),if_pos (by omega),if_pos (by omega),if_pos trivial,w64 (by omega) (by omega)]
  rfl
theorem eqIntS (l : List Int) (hl : l.length ≤ 35184372088832) : Ev (fun k => laws_eqIntS.f k l l) true := by
 refine Ev.congr (fun k => ?_) (eqIntS_l0 l hl l.length 0 (by omega))
 unfold laws_eqIntS.f
 rw [if_pos rfl]
 rfl
theorem eqIntSS (l : List (List Int)) (hl : wt l ≤ 1048576) : Ev (fun k => laws_eqIntSS.f k l l) true := by
 have h1 : l.length ≤ wt l := by unfold wt;omega
 unfold laws_eqIntSS.f
 refine ev_pos rfl ?_
 refine ev_eq (all_loop (fun k i => laws_eqIntSS.l0 k l l i) l.length (fun _ => True) ?_ ?_ ?_ l.length 0 (by omega)) (dec_true (fun _ _ _ => trivial))
 ·refine ev_succ ?_
  simp only [laws_eqIntSS.l0]
  exact ev_neg (by omega) (Ev.now _)
 ·intro n r hn _ h
  refine ev_succ ?_
  have hx : l[n]? = some l[n] := List.getElem?_eq_getElem hn
  have hm := wt_mem (List.mem_of_getElem? hx)
  simp only [laws_eqIntSS.l0,rdL,gd_nat [] hx]
  refine ev_pos (by omega) (ev_pos (by omega) (ev_pos (by omega) (Ev.bind (eqIntS _ (by omega)) (ev_pos rfl ?_))))
  rw [w64 (x := (n : Int) + 1) (by omega) (by omega)]
  exact h
 ·intro n hn h
  exact absurd trivial h
theorem eqStringsA (l : List ByteArray) (hl : l.length ≤ 17592186044416) : Ev (fun k => laws_eqStringS.f k l l) true := by
 unfold laws_eqStringS.f
 refine ev_pos rfl ?_
 refine ev_eq (all_loop (fun k i => laws_eqStringS.l0 k l l i) l.length (fun _ => True) ?_ ?_ ?_ l.length 0 (by omega)) (dec_true (fun _ _ _ => trivial))
 ·refine ev_succ ?_
  simp only [laws_eqStringS.l0]
  exact ev_neg (by omega) (Ev.now _)
 ·intro n r hn _ h
  refine ev_succ ?_
  simp only [laws_eqStringS.l0]
  refine ev_pos (by omega) (ev_pos (by omega) (ev_pos (by omega) (ev_pos trivial ?_)))
  rw [w64 (x := (n : Int) + 1) (by omega) (by omega)]
  exact h
 ·intro n hn h
  exact absurd trivial h
theorem eqTableA (a : List ByteArray) (t : ByteArray) (b : List (List Int)) (c : List Int) (ha : a.length ≤ 1048576) (hb : wt b ≤ 1048576) (hc : c.length ≤ 1048576) : Ev (fun k => laws_eqTable.f k a t b c a t b c) true := by
 unfold laws_eqTable.f
 exact Ev.bind (eqStringsA a (by omega)) (ev_pos rfl (ev_pos rfl (Ev.bind (eqIntSS b hb) (ev_pos rfl (Ev.bind (eqIntS c (by omega)) (ev_pos rfl (Ev.now _)))))))
theorem markText_l0 : ∀ (n : Nat) (x : ByteArray),n ≤ 4194304 → x.size + n ≤ 8388608 → ∃ s,Ev (fun k => laws_markText.l0 k (n : Int) x) s := by
 intro n
 induction n using Nat.strongRecOn with
 | _ n ih =>
  intro x hn hx
  by_cases h : (n : Int) > 0
  ·have e : wrap64 (Int.tdiv (n : Int) 10) = ((n / 10 : Nat) : Int) := by
    show wrap64 (Int.tdiv (n : Int) ((10 : Nat) : Int)) = _
    rw [← Int.ofNat_tdiv]
    exact w64 (by omega) (by omega)
   have hs : ∀ d : Int,(strOfNums [d]).size = 1 := fun d => strOfNums_size [d]
   obtain ⟨s,es⟩ := ih (n / 10) (by omega) ((strOfNums [(wrap64 (48 + (Int.tmod (n : Int) 10))) % 256]) ++ x) (by omega) (by rw [ByteArray.size_append,hs];omega)
   refine ⟨s,ev_succ ?_⟩
   simp only [laws_markText.l0,Option.bind_some,e]
   exact ev_pos h (ev_pos (by rw [hs];omega) es)
  ·refine ⟨(⟨#[109]⟩ : ByteArray) ++ x,ev_succ ?_⟩
   simp only [laws_markText.l0]
   exact ev_neg h (ev_pos (by omega) (Ev.now _))
theorem markText (a : Int) (h0 : 0 ≤ a) (h : a ≤ 4194304) : ∃ s,Ev (fun k => laws_markText.f k a) s := by
 unfold laws_markText.f
 by_cases g : a ≤ 0
 ·exact ⟨_,ev_pos g (Ev.now _)⟩
 ·obtain ⟨n,rfl⟩ := Int.eq_ofNat_of_zero_le h0
  obtain ⟨s,e⟩ := markText_l0 n (⟨#[]⟩ : ByteArray) (by omega) (by show 0 + n ≤ _;omega)
  exact ⟨s,ev_neg g e⟩
def marked (m : Int) : Nat → List Int
 | 0 => []
 | n + 1 => m :: marked (m + 1) n
theorem marked_length (m : Int) (n : Nat) : (marked m n).length = n := by
 induction n generalizing m with
 | zero => rfl
 | succ n ih => simp [marked,ih]
theorem marked_get (m : Int) (n j : Nat) (h : j < n) : (marked m n)[j]? = some (m + (j : Int)) := by
 induction n generalizing m j with
 | zero => omega
 | succ n ih =>
  cases j with
  | zero => simp [marked]
  | succ j =>
   simp only [marked,List.getElem?_cons_succ]
   rw [ih (m + 1) j (by omega)]
   congr 1
   omega
theorem rd_marked {m : Int} {n : Nat} {j : Int} (h0 : 0 ≤ j) (h : j < (n : Int)) : rd (marked m n) j = m + j := by
 obtain ⟨i,rfl⟩ := Int.eq_ofNat_of_zero_le h0
 exact rd_of (marked_get m n i (by omega))
theorem markIntS_l0 (m : Int) (hm : 0 ≤ m) : ∀ (d n : Nat) (x : List Int),n + d = x.length → m + x.length ≤ 35184372088832 → (∀ j : Nat,j < n → x[j]? = some (m + (j : Int))) →
  Ev (fun k => laws_markIntS.l0 k x (m + (n : Int)) (n : Int)) (m + (x.length : Int),marked m x.length) := by
 intro d
 induction d with
 | zero =>
  intro n x hn hl hp
  refine ev_end fun k => ?_
  simp only [laws_markIntS.l0]
  rw [if_neg (by omega)]
  obtain rfl : n = x.length := by omega
  congr 2
  exact List.ext_getElem? fun j => by
   by_cases h : j < x.length
   ·rw [hp j h,marked_get _ _ _ h]
   ·rw [List.getElem?_eq_none (by omega),List.getElem?_eq_none (by rw [marked_length];omega)]
 | succ d ih =>
  intro n x hn hl hp
  have hlen : (x.set n (m + (n : Int))).length = x.length := by simp
  have := ih (n + 1) (x.set n (m + (n : Int))) (by rw [hlen];omega) (by rw [hlen];omega) (by
   intro j hj
   rw [List.getElem?_set]
   by_cases h : j = n
   ·subst h
    rw [if_pos (by omega),if_pos (by omega)]
   ·rw [if_neg (by omega)]
    exact hp j (by omega))
  rw [hlen] at this
  refine Ev.step (fun k => ?_) this
  simp only [laws_markIntS.l0]
  rw [if_pos (by omega),if_pos (by omega),w64 (x := (n : Int) + 1) (by omega) (by omega),w64 (by omega) (by omega)]
  have e : m + (n : Int) + 1 = m + ((n + 1 : Nat) : Int) := by omega
  rw [e]
  rfl
theorem markIntS (l : List Int) (m : Int) (hm : 0 ≤ m) (hl : m + l.length ≤ 35184372088832) : Ev (fun k => laws_markIntS.f k l m) (m + (l.length : Int),marked m l.length) := by
 have := markIntS_l0 m hm l.length 0 l (by omega) hl (fun j h => by omega)
 exact Ev.congr (fun k => by unfold laws_markIntS.f;simp) this
theorem heldIntS_l0 (m : Int) (N : Nat) (hm : 0 ≤ m) (hN : m + N ≤ 35184372088832) : ∀ (d n : Nat),n + d = N → Ev (fun k => laws_heldIntS.l0 k (marked m N) (m + (n : Int)) (n : Int)) (m + (N : Int)) := by
 intro d
 induction d with
 | zero =>
  intro n hn
  refine ev_end fun k => ?_
  simp only [laws_heldIntS.l0]
  rw [if_neg (by rw [marked_length];omega)]
  congr 1;omega
 | succ d ih =>
  intro n hn
  refine Ev.step (fun k => ?_) (ih (n + 1) (by omega))
  simp only [laws_heldIntS.l0]
  rw [if_pos (by rw [marked_length];omega),if_pos (by omega),if_pos (rd_marked (by omega) (by omega)),w64 (x := (n : Int) + 1) (by omega) (by omega),w64 (by omega) (by omega)]
  have e : m + (n : Int) + 1 = m + ((n + 1 : Nat) : Int) := by omega
  rw [e]
  rfl
theorem heldIntS (N : Nat) (m : Int) (hm : 0 ≤ m) (hN : m + N ≤ 35184372088832) : Ev (fun k => laws_heldIntS.f k (marked m N) m) (m + (N : Int)) := by
 have := heldIntS_l0 m N hm hN N 0 (by omega)
 exact Ev.congr (fun k => by unfold laws_heldIntS.f;simp) this
def tot (l : List (List Int)) : Nat := (l.map List.length).sum
def markedL (m : Int) : List (List Int) → List (List Int)
 | [] => []
 | x :: xs => marked m x.length :: markedL (m + (x.length : Int)) xs
theorem tot_le_wt (l : List (List Int)) : l.length + tot l = wt l := rfl
theorem tot_cons (x : List Int) (l : List (List Int)) : tot (x :: l) = x.length + tot l := by unfold tot;simp
theorem row_at (p xs : List (List Int)) (x : List Int) : (p ++ x :: xs).getD p.length [] = x := by simp
theorem row_set (p xs : List (List Int)) (x y : List Int) : (p ++ x :: xs).set p.length y = (p ++ [y]) ++ xs := by simp
theorem markIntSS_at (l : List (List Int)) : ∀ (p : List (List Int)) (m : Int),0 ≤ m → m + (tot l : Int) ≤ 4194304 → p.length + l.length ≤ 1048576 → Ev (fun k => laws_markIntSS.l0 k (p ++ l) m (p.length : Int)) (m + (tot l : Int),p ++ markedL m l) := by
 induction l with
 | nil =>
  intro p m h0 hm hl
  refine ev_succ ?_
  simp only [laws_markIntSS.l0,List.append_nil]
  exact ev_neg (by omega) (ev_eq (Ev.now _) (by simp [tot,markedL]))
 | cons x l ih =>
  intro p m h0 hm hl
  rw [tot_cons] at hm ⊢
  simp only [List.length_cons] at hl
  have h := ih (p ++ [marked m x.length]) (m + (x.length : Int)) (by omega) (by omega) (by simp only [List.length_append,List.length_cons,List.length_nil];omega)
  have e1 : ((p ++ [marked m x.length]).length : Int) = (p.length : Int) + 1 := by simp
  rw [e1] at h
  refine ev_succ ?_
  have er : laws_markIntSS.row (p ++ x :: l) (p.length : Int) = x := by
   show (p ++ x :: l).getD (Int.toNat (p.length : Int)) [] = x
   rw [Int.toNat_natCast]
   exact row_at p l x
  simp only [laws_markIntSS.l0,er,Int.toNat_natCast,row_set,List.length_append,List.length_cons]
  rw [w64 (x := (p.length : Int) + 1) (by omega) (by omega)]
  refine ev_pos (by omega) (ev_pos (by omega) (Ev.bind (markIntS x m h0 (by omega)) ?_))
  simp only [row_set]
  refine ev_eq h ?_
  rw [show m + (x.length : Int) + (tot l : Int) = m + ((x.length + tot l : Nat) : Int) by omega]
  simp [markedL]
theorem markIntSS (l : List (List Int)) (m : Int) (h0 : 0 ≤ m) (hm : m + (tot l : Int) ≤ 4194304) (hl : l.length ≤ 1048576) : Ev (fun k => laws_markIntSS.f k l m) (m + (tot l : Int),markedL m l) := by
 unfold laws_markIntSS.f
 have h := markIntSS_at l [] m h0 hm (by simp only [List.length_nil];omega)
 simpa using h
theorem heldIntSS_at (l : List (List Int)) : ∀ (p : List (List Int)) (m : Int),0 ≤ m → m + (tot l : Int) ≤ 4194304 → p.length + l.length ≤ 1048576 → Ev (fun k => laws_heldIntSS.l0 k (p ++ markedL m l) m (p.length : Int)) (m + (tot l : Int)) := by
 induction l with
 | nil =>
  intro p m h0 hm hl
  refine ev_succ ?_
  simp only [laws_heldIntSS.l0,markedL,List.append_nil]
  exact ev_neg (by omega) (ev_eq (Ev.now _) (by simp [tot]))
 | cons x l ih =>
  intro p m h0 hm hl
  rw [tot_cons] at hm ⊢
  simp only [List.length_cons] at hl
  have h := ih (p ++ [marked m x.length]) (m + (x.length : Int)) (by omega) (by omega) (by simp only [List.length_append,List.length_cons,List.length_nil];omega)
  have e1 : ((p ++ [marked m x.length]).length : Int) = (p.length : Int) + 1 := by simp
  rw [e1] at h
  refine ev_succ ?_
  simp only [markedL]
  have er : rd_L4 (p ++ marked m x.length :: markedL (m + (x.length : Int)) l) (p.length : Int) = marked m x.length := by
   rw [rdL,Int.toNat_natCast]
   exact row_at p _ _
  simp only [laws_heldIntSS.l0,er,List.length_append,List.length_cons]
  rw [w64 (x := (p.length : Int) + 1) (by omega) (by omega)]
  refine ev_pos (by omega) (ev_pos (by omega) (Ev.bind (heldIntS x.length m h0 (by omega)) (ev_neg (by omega) ?_)))
  rw [show p ++ marked m x.length :: markedL (m + (x.length : Int)) l = (p ++ [marked m x.length]) ++ markedL (m + (x.length : Int)) l by simp]
  refine ev_eq h ?_
  omega
theorem heldIntSS (l : List (List Int)) (m : Int) (h0 : 0 ≤ m) (hm : m + (tot l : Int) ≤ 4194304) (hl : l.length ≤ 1048576) : Ev (fun k => laws_heldIntSS.f k (markedL m l) m) (m + (tot l : Int)) := by
 unfold laws_heldIntSS.f
 have h := heldIntSS_at l [] m h0 hm (by simp only [List.length_nil];omega)
 simpa using h
noncomputable def mtext (m : Int) : ByteArray := open Classical in if h : ∃ s,Ev (fun k => laws_markText.f k m) s then h.choose else (⟨#[]⟩ : ByteArray)
theorem mtext_ev (m : Int) (h0 : 0 ≤ m) (h : m ≤ 4194304) : Ev (fun k => laws_markText.f k m) (mtext m) := by
 have e := markText m h0 h
 unfold mtext
 rw [dif_pos e]
 exact e.choose_spec
noncomputable def markedT (m : Int) : Nat → List ByteArray
 | 0 => []
 | n + 1 => mtext m :: markedT (m + 1) n
theorem markStringS_at (l : List ByteArray) : ∀ (p : List ByteArray) (m : Int),0 ≤ m → m + (l.length : Int) ≤ 4194304 → p.length + l.length ≤ 1048576 → Ev (fun k => laws_markStringS.l0 k (p ++ l) m (p.length : Int)) (m + (l.length : Int),p ++ markedT m l.length) := by
 induction l with
 | nil =>
  intro p m h0 hm hl
  refine ev_succ ?_
  simp only [laws_markStringS.l0,List.append_nil]
  exact ev_neg (by omega) (ev_eq (Ev.now _) (by simp [markedT]))
 | cons x l ih =>
  intro p m h0 hm hl
  simp only [List.length_cons] at hl hm
  have h := ih (p ++ [mtext m]) (m + 1) (by omega) (by omega) (by simp only [List.length_append,List.length_cons,List.length_nil];omega)
  have e1 : ((p ++ [mtext m]).length : Int) = (p.length : Int) + 1 := by simp
  rw [e1] at h
  refine ev_succ ?_
  simp only [laws_markStringS.l0,List.length_append,List.length_cons]
  rw [w64 (x := (p.length : Int) + 1) (by omega) (by omega),w64 (x := m + 1) (by omega) (by omega)]
  refine ev_pos (by omega) (Ev.bind (mtext_ev m h0 (by omega)) (ev_pos (by omega) ?_))
  rw [show (p ++ x :: l).set (p.length : Int).toNat (mtext m) = (p ++ [mtext m]) ++ l by simp]
  refine ev_eq h ?_
  rw [show m + 1 + (l.length : Int) = m + ((l.length + 1 : Nat) : Int) by omega]
  simp [markedT]
theorem markStringS (l : List ByteArray) (m : Int) (h0 : 0 ≤ m) (hm : m + (l.length : Int) ≤ 4194304) (hl : l.length ≤ 1048576) : Ev (fun k => laws_markStringS.f k l m) (m + (l.length : Int),markedT m l.length) := by
 unfold laws_markStringS.f
 have h := markStringS_at l [] m h0 hm (by simp only [List.length_nil];omega)
 simpa using h
theorem heldStringS_at : ∀ (n : Nat) (p : List ByteArray) (m : Int),0 ≤ m → m + (n : Int) ≤ 4194304 → p.length + n ≤ 1048576 → Ev (fun k => laws_heldStringS.l0 k (p ++ markedT m n) m (p.length : Int)) (m + (n : Int)) := by
 intro n
 induction n with
 | zero =>
  intro p m h0 hm hl
  refine ev_succ ?_
  simp only [laws_heldStringS.l0,markedT,List.append_nil]
  exact ev_neg (by omega) (ev_eq (Ev.now _) (by simp))
 | succ n ih =>
  intro p m h0 hm hl
  have h := ih (p ++ [mtext m]) (m + 1) (by omega) (by omega) (by simp only [List.length_append,List.length_cons,List.length_nil];omega)
  have e1 : ((p ++ [mtext m]).length : Int) = (p.length : Int) + 1 := by simp
  rw [e1] at h
  refine ev_succ ?_
  simp only [laws_heldStringS.l0,markedT]
  have er : (rdOf ByteArray.empty (p ++ mtext m :: markedT (m + 1) n) (p.length : Int)).toList = (mtext m).toList := by
   unfold rdOf
   rw [Int.toNat_natCast]
   simp
  rw [w64 (x := (p.length : Int) + 1) (by omega) (by omega),w64 (x := m + 1) (by omega) (by omega)]
  refine ev_pos (by rw [List.length_append,List.length_cons];omega) (ev_pos (by omega) (Ev.bind (mtext_ev m h0 (by omega)) (ev_pos er ?_)))
  rw [show p ++ mtext m :: markedT (m + 1) n = (p ++ [mtext m]) ++ markedT (m + 1) n by simp]
  refine ev_eq h ?_
  omega
theorem heldStringS (n : Nat) (m : Int) (h0 : 0 ≤ m) (hm : m + (n : Int) ≤ 4194304) (hl : n ≤ 1048576) : Ev (fun k => laws_heldStringS.f k (markedT m n) m) (m + (n : Int)) := by
 unfold laws_heldStringS.f
 have h := heldStringS_at n [] m h0 hm (by simp only [List.length_nil];omega)
 simpa using h
theorem markTableAt (a : List ByteArray) (t : ByteArray) (b : List (List Int)) (c : List Int) (h : a.length + wt b + c.length ≤ 1048576) : Ev (fun k => laws_markTable.f k a t b c 1) (1 + (a.length : Int) + (tot b : Int) + (c.length : Int),markedT 1 a.length,markedL (1 + (a.length : Int)) b,marked (1 + (a.length : Int) + (tot b : Int)) c.length) := by
 have hb := tot_le_wt b
 unfold laws_markTable.f
 exact Ev.bind (markStringS a 1 (by omega) (by omega) (by omega)) (Ev.bind (markIntSS b (1 + (a.length : Int)) (by omega) (by omega) (by omega)) (Ev.bind (markIntS c (1 + (a.length : Int) + (tot b : Int)) (by omega) (by omega)) (Ev.now _)))
theorem heldTableAt (a : List ByteArray) (t : ByteArray) (b : List (List Int)) (c : List Int) (h : a.length + wt b + c.length ≤ 1048576) : Ev (fun k => laws_heldTable.f k (markedT 1 a.length) t (markedL (1 + (a.length : Int)) b) (marked (1 + (a.length : Int) + (tot b : Int)) c.length) 1) (1 + (a.length : Int) + (tot b : Int) + (c.length : Int)) := by
 have hb := tot_le_wt b
 unfold laws_heldTable.f
 exact Ev.bind (heldStringS a.length 1 (by omega) (by omega) (by omega)) (ev_neg (by omega) (Ev.bind (heldIntSS b (1 + (a.length : Int)) (by omega) (by omega) (by omega)) (ev_neg (by omega) (Ev.bind (heldIntS c.length (1 + (a.length : Int) + (tot b : Int)) (by omega) (by omega)) (ev_neg (by omega) (Ev.now _))))))
theorem eqFault (a b c : Int) : laws_eqFault.f a b c a b c = some true := by
 unfold laws_eqFault.f
 simp
theorem tRows_most (n : Nat) : ∀ (rows : List (List ByteArray)) (i : Nat) (acc : List (List Int)),(tRows n rows i acc).1.length ≤ acc.length + rows.length
 | [],_,_ => Nat.le_refl _
 | row :: r,i,acc => by
  rw [tRows_cons]
  split
  ·split
   ·refine Nat.le_trans (tRows_most n r (i + 1) _) ?_
    simp only [List.length_append,List.length_cons,List.length_nil]
    omega
   ·exact Nat.zero_le _
  ·exact Nat.zero_le _
theorem wt_take (n : Nat) (l : List (List Int)) : wt (l.map (fun x => x.take n)) ≤ l.length + l.length * n := by
 induction l with
 | nil => exact Nat.zero_le _
 | cons x l ih =>
  unfold wt at ih ⊢
  simp only [List.map_cons,List.sum_cons,List.length_cons,List.length_map] at ih ⊢
  have : (x.take n).length ≤ n := by rw [List.length_take];omega
  rw [Nat.add_mul]
  omega
theorem badT_small (a b c : Int) : (badT a b c).1.length ≤ 1000 ∧ wt (badT a b c).2.2.1 ≤ 1000 ∧ (badT a b c).2.2.2.1.length ≤ 1000 := ⟨Nat.zero_le _,Nat.zero_le _,Nat.zero_le _⟩
theorem readTable_small (s : ByteArray) : (readTable s).1.length ≤ 1000 ∧ wt (readTable s).2.2.1 ≤ 1000 ∧ (readTable s).2.2.2.1.length ≤ 1000 := by
 unfold readTable
 split
 ·split
  ·exact badT_small ..
  ·rename_i names rest _
   unfold tabBody
   split
   ·rename_i hn
    split
    ·exact badT_small ..
    ·split
     ·rename_i hr
      unfold tabEnd
      split
      ·have hl := tRows_most names.length rest 1 []
       have hw := wt_take (names.length - 1) (tRows names.length rest 1 []).1
       have hm : (tRows names.length rest 1 []).1.length * (names.length - 1) ≤ 40 * 4 := Nat.mul_le_mul (by simp only [List.length_nil] at hl;omega) (by omega)
       simp only [List.length_nil] at hl
       refine ⟨?_,?_,?_⟩
       ·show (names.take (names.length - 1)).length ≤ 1000
        rw [List.length_take]
        omega
       ·show wt ((tRows names.length rest 1 []).1.map (fun x => x.take (names.length - 1))) ≤ 1000
        omega
       ·show ((tRows names.length rest 1 []).1.map (fun x => rd x ((names.length - 1 : Nat) : Int))).length ≤ 1000
        rw [List.length_map]
        omega
      ·exact badT_small ..
     ·exact badT_small ..
   ·exact badT_small ..
 ·exact badT_small ..
theorem FnExactReadTable : laws_FnExactReadTable.Pure := by
 intro a0 w0
 refine Ev.rounds ?_
 unfold laws_FnExactReadTable.f
 by_cases b : (a0.size : Int) > 1048576
 ·exact ev_pos b (Ev.now _)
 refine ev_neg b ?_
 have sp := specReadTable_f a0
 have im := implReadTable_f a0
 have sm := readTable_small a0
 revert sp im sm
 generalize readTable a0 = T
 obtain ⟨t1,t2,t3,t4,t5,t6,t7⟩ := T
 intro sp im sm
 dsimp only at sm
 have eq := eqTableA t1 t2 t3 t4 (by omega) (by omega) (by omega)
 have fl := ev_of (eqFault t5 t6 t7)
 have mk := markTableAt t1 t2 t3 t4 (by omega)
 have hd := heldTableAt t1 t2 t3 t4 (by omega)
 refine Ev.bind sp (Ev.bind im (Ev.bind eq (ev_pos rfl (Ev.bind fl (ev_succ ?_)))))
 simp only [laws_FnExactReadTable.j0]
 refine ev_neg (by simp) (Ev.bind mk (Ev.bind hd (ev_neg (by omega) (ev_pos rfl (Ev.bind im (Ev.bind eq (ev_pos rfl (Ev.bind fl (ev_succ ?_)))))))))
 simp only [laws_FnExactReadTable.j1]
 exact ev_neg (by simp) (Ev.bind hd (ev_neg (by omega) (ev_pos rfl (Ev.now _))))
end Go.Proofs.YtepnbcdbagjmbaaDoor.Pure
