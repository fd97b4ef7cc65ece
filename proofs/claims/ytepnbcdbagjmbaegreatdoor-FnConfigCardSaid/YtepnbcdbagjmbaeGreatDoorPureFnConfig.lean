/- settings are read as they were written; what is read is right; for all bytes. Conditions: none but the row's own.
-/
import Derived.Test.YtepnbcdbagjmbaeGreatDoorQFnConfigx22
import Derived.Lib.Atoi
import Derived.Lib.AtoiAllCases
import Derived.Lib.ItoaLen
import Derived.Lib.Split
import Derived.Lib.SplitLaws
set_option linter.unusedVariables false
set_option linter.unusedSimpArgs false
namespace Go.Proofs.YtepnbcdbagjmbaeGreatDoor.Pure
open Go.RowKit Go.Proofs.YtepnbcdbagjmbaeGreatDoor.QFnConfig Go.Proofs.YtepnbcdbagjmbaeGreatDoorW.PrintWords Go.Proofs.YtepnbcdbagjmbaeGreatDoorW.PrintLast Go.Proofs.YtepnbcdbagjmbaeGreatDoorW.PrintMore
theorem w64 {x : Int} (h1 : -9223372036854775808 ≤ x) (h2 : x ≤ 9223372036854775807) : wrap64 x = x := by unfold wrap64;omega
theorem rd_eq {xs : List Int} {i : Int} (h0 : 0 ≤ i) (h : i < (xs.length : Int)) : xs[i.toNat]? = some (rd xs i) := by
 unfold rd
 rw [List.getD_eq_getElem?_getD,List.getElem?_eq_getElem (by omega)]
 rfl
theorem rd_mem {xs : List Int} {i : Int} (h0 : 0 ≤ i) (h : i < (xs.length : Int)) : rd xs i ∈ xs := List.mem_of_getElem? (rd_eq h0 h)
theorem rd_of {xs : List Int} {n : Nat} {v : Int} (h : xs[n]? = some v) : rd xs (n : Int) = v := by
 unfold rd
 rw [List.getD_eq_getElem?_getD,Int.toNat_natCast,h]
 rfl
theorem ev_of {α : Type} {r : α} {p : Option α} (h : p = some r) : Ev (fun _ => p) r := ⟨0,fun _ _ => h⟩
theorem ev_end {α : Type} {g : Nat → Option α} {r : α} (h : ∀ k,g (k + 1) = some r) : Ev g r := Ev.step (f := fun _ => some r) h (Ev.now r)
theorem ev_pos {α : Type} {c : Prop} [Decidable c] {f g : Nat → Option α} {r : α} (hc : c) (h : Ev f r) : Ev (fun k => if c then f k else g k) r := Ev.congr (fun _ => if_pos hc) h
theorem ev_neg {α : Type} {c : Prop} [Decidable c] {f g : Nat → Option α} {r : α} (hc : ¬ c) (h : Ev g r) : Ev (fun k => if c then f k else g k) r := Ev.congr (fun _ => if_neg hc) h
noncomputable def dec (p : Prop) : Bool := @decide p (Classical.propDecidable p)
theorem dec_true {p : Prop} (h : p) : dec p = true := @decide_eq_true p (Classical.propDecidable p) h
theorem dec_false {p : Prop} (h : ¬ p) : dec p = false := @decide_eq_false p (Classical.propDecidable p) h
theorem dec_congr {p q : Prop} (h : p ↔ q) : dec p = dec q := by rw [propext h]
theorem dec_eq {p : Prop} [Decidable p] : dec p = decide p := by
 by_cases h : p
 ·rw [dec_true h,decide_eq_true h]
 ·rw [dec_false h,decide_eq_false h]
theorem ev_succ {α : Type} {g : Nat → Option α} {r : α} (h : Ev (fun k => g (k + 1)) r) : Ev g r := by
 obtain ⟨K,h⟩ := h
 refine ⟨K + 1,fun n hn => ?_⟩
 obtain ⟨m,rfl⟩ : ∃ m,n = m + 1 := ⟨n - 1,by omega⟩
 exact h m (by omega)
theorem ev_eq {α : Type} {g : Nat → Option α} {r r' : α} (h : Ev g r) (e : r = r') : Ev g r' := e ▸ h
theorem gd_eq {α : Type} (z : α) {xs : List α} {i : Int} (h0 : 0 ≤ i) (h : i < (xs.length : Int)) : xs[i.toNat]? = some (xs.getD i.toNat z) := by
 rw [List.getD_eq_getElem?_getD,List.getElem?_eq_getElem (by omega)]
 rfl
theorem all_loop (F : Nat → Int → Option Bool) (L : Nat) (p : Nat → Prop) (hend : Ev (fun k => F k (L : Int)) true)
  (hyes : ∀ (n : Nat) (r : Bool),n < L → p n → Ev (fun k => F k ((n + 1 : Nat) : Int)) r → Ev (fun k => F k (n : Int)) r)
  (hno : ∀ n : Nat,n < L → ¬ p n → Ev (fun k => F k (n : Int)) false) :
  ∀ (d n : Nat),n + d = L → Ev (fun k => F k (n : Int)) (dec (∀ j,n ≤ j → j < L → p j)) := by
 intro d
 induction d with
 | zero =>
  intro n hn
  obtain rfl : n = L := by omega
  exact ev_eq hend (dec_true (fun j h1 h2 => by omega)).symm
 | succ d ih =>
  intro n hn
  by_cases h : p n
  ·refine hyes n _ (by omega) h (ev_eq (ih (n + 1) (by omega)) (dec_congr ⟨fun g j h1 h2 => ?_,fun g j h1 h2 => g j (by omega) h2⟩))
   by_cases e : j = n
   ·exact e ▸ h
   ·exact g j (by omega) h2
  ·exact ev_eq (hno n (by omega) h) (dec_false (fun g => h (g n (Nat.le_refl _) (by omega)))).symm
theorem all_loop2 (F : Nat → Int → Option Bool) (L : Nat) (p : Nat → Prop) (E : Prop) (hend : Ev (fun k => F k (L : Int)) (dec E))
  (hyes : ∀ (n : Nat) (r : Bool),n < L → p n → Ev (fun k => F k ((n + 1 : Nat) : Int)) r → Ev (fun k => F k (n : Int)) r)
  (hno : ∀ n : Nat,n < L → ¬ p n → Ev (fun k => F k (n : Int)) false) :
  ∀ (d n : Nat),n + d = L → Ev (fun k => F k (n : Int)) (dec ((∀ j,n ≤ j → j < L → p j) ∧ E)) := by
 intro d
 induction d with
 | zero =>
  intro n hn
  obtain rfl : n = L := by omega
  exact ev_eq hend (dec_congr ⟨fun h => ⟨fun j h1 h2 => by omega,h⟩,fun h => h.2⟩)
 | succ d ih =>
  intro n hn
  by_cases h : p n
  ·refine hyes n _ (by omega) h (ev_eq (ih (n + 1) (by omega)) (dec_congr ⟨fun g => ⟨fun j h1 h2 => ?_,g.2⟩,fun g => ⟨fun j h1 h2 => g.1 j (by omega) h2,g.2⟩⟩))
   by_cases e : j = n
   ·exact e ▸ h
   ·exact g.1 j (by omega) h2
  ·exact ev_eq (hno n (by omega) h) (dec_false (fun g => h (g.1 n (Nat.le_refl _) (by omega)))).symm
theorem lawsBig (l : List Int) : laws_big.f l = some (decide ((l.length : Int) > 1048576)) := rfl
def bs (l : List UInt8) : ByteArray := ⟨l.toArray⟩
theorem list_bs (l : List UInt8) : (bs l).data.toList = l := rfl
theorem bs_list (s : ByteArray) : bs s.data.toList = s := by
 obtain ⟨⟨l⟩⟩ := s
 rfl
theorem bs_size (l : List UInt8) : (bs l).size = l.length := by
 unfold bs ByteArray.size
 simp
theorem bs_inj {a b : List UInt8} (h : bs a = bs b) : a = b := by
 rw [← list_bs a,h,list_bs]
theorem ba_ext {a b : ByteArray} (h : a.data.toList = b.data.toList) : a = b := by rw [← bs_list a,h,bs_list]
theorem ba_append (a b : ByteArray) : (a ++ b).data.toList = a.data.toList ++ b.data.toList := by
 rw [ByteArray.data_append,Array.toList_append]
theorem bs_append (a b : List UInt8) : bs a ++ bs b = bs (a ++ b) := ba_ext (by rw [ba_append];rfl)
theorem strOfNums_bs (xs : List Int) : strOfNums xs = bs (xs.map fun n => UInt8.ofNat n.toNat) := rfl
def nm (l : List UInt8) : List Int := l.map fun b => (b.toNat : Int)
theorem bytesOf_nm (s : ByteArray) : bytesOf s = nm s.data.toList := rfl
theorem nm_append (a b : List UInt8) : nm (a ++ b) = nm a ++ nm b := List.map_append
theorem nm_length (a : List UInt8) : (nm a).length = a.length := List.length_map ..
theorem strOfNums_nm (l : List UInt8) : strOfNums (nm l) = bs l := by
 rw [strOfNums_bs]
 congr 1
 unfold nm
 rw [List.map_map]
 conv => rhs;rw [← List.map_id l]
 refine List.map_congr_left fun b _ => ?_
 simp
theorem bt_list (s : ByteArray) (n : Nat) : bt s (n : Int) = ((s.data.toList.getD n 0).toNat : Int) := by
 unfold bt
 rw [List.getD_eq_getElem?_getD]
 by_cases h : n < s.size
 ·rw [dif_pos (by rw [Int.toNat_natCast];exact h)]
  have h' : n < s.data.toList.length := by rw [data_length];exact h
  rw [List.getElem?_eq_getElem h']
  simp
  rfl
 ·rw [dif_neg (by rw [Int.toNat_natCast];exact h)]
  have h' : s.data.toList.length ≤ n := by rw [data_length];omega
  rw [List.getElem?_eq_none h']
  rfl
theorem bt_get {s : ByteArray} {n : Nat} {b : UInt8} (h : s.data.toList[n]? = some b) : bt s (n : Int) = (b.toNat : Int) := by
 rw [bt_list,List.getD_eq_getElem?_getD,h]
 rfl
theorem u8_eq {b : UInt8} {n : Nat} (h : n < 256) : ((b.toNat : Int) = (n : Int)) ↔ b = UInt8.ofNat n := by
 constructor
 ·intro e
  apply UInt8.toNat_inj.1
  rw [UInt8.toNat_ofNat']
  omega
 ·rintro rfl
  rw [UInt8.toNat_ofNat']
  omega
theorem ofNat_toNat {n : Nat} (h : n < 256) : (UInt8.ofNat n).toNat = n := by
 rw [UInt8.toNat_ofNat'];omega
theorem digitVal_dg {d : Nat} (h : d < 10) : Lib.digitVal (UInt8.ofNat (48 + d)) = some d := by
 unfold Lib.digitVal
 rw [ofNat_toNat (by omega),if_pos (by omega)]
 congr 1
 omega
theorem digitVal_some {b : UInt8} {d : Nat} (h : Lib.digitVal b = some d) : b = UInt8.ofNat (48 + d) ∧ d < 10 ∧ b.toNat = 48 + d := by
 unfold Lib.digitVal at h
 split at h
 ·rename_i g
  have e : b.toNat - 48 = d := Option.some.inj h
  refine ⟨?_,by omega,by omega⟩
  apply UInt8.toNat_inj.1
  rw [ofNat_toNat (by omega)]
  omega
 ·cases h
theorem decFrom_append (b : List UInt8) : ∀ (a : List UInt8) (acc : Nat),Lib.decFrom acc (a ++ b) = (Lib.decFrom acc a).bind fun n => Lib.decFrom n b
 | [],acc => rfl
 | x :: a,acc => by
  rw [List.cons_append]
  simp only [Lib.decFrom]
  cases Lib.digitVal x with
  | none => rfl
  | some d => exact decFrom_append b a _
theorem decFrom_one (acc d : Nat) (h : d < 10) : Lib.decFrom acc [UInt8.ofNat (48 + d)] = some (acc * 10 + d) := by
 simp only [Lib.decFrom,digitVal_dg h]
theorem decDigits_big {u : Nat} (h : ¬ u < 10) : Lib.decDigits u = Lib.decDigits (u / 10) ++ [UInt8.ofNat (48 + u % 10)] := by
 rw [Lib.decDigits,dif_neg h]
theorem decFrom_decDigits (u : Nat) : Lib.decFrom 0 (Lib.decDigits u) = some u := by
 induction u using Nat.strongRecOn with
 | _ u ih =>
  by_cases h : u < 10
  ·rw [Lib.decDigits_one h,decFrom_one 0 u h]
   congr 1
   omega
  ·rw [decDigits_big h,decFrom_append,ih (u / 10) (by omega)]
   show Lib.decFrom (u / 10) _ = _
   rw [decFrom_one _ _ (by omega)]
   congr 1
   omega
theorem decDigits_ne (u : Nat) : Lib.decDigits u ≠ [] := by
 intro h
 have := Lib.decDigits_length u
 have := Lib.nDigits_pos u
 rw [h] at *
 simp only [List.length_nil] at *
 omega
theorem decFrom_mono : ∀ (l : List UInt8) (acc n : Nat),Lib.decFrom acc l = some n → acc ≤ n
 | [],acc,n,h => by
  have := Option.some.inj h
  omega
 | b :: l,acc,n,h => by
  simp only [Lib.decFrom] at h
  cases e : Lib.digitVal b with
  | none => rw [e] at h;cases h
  | some d =>
   rw [e] at h
   have := decFrom_mono l _ n h
   omega
theorem decDigits_digit {u : Nat} {b : UInt8} (h : b ∈ Lib.decDigits u) : 48 ≤ b.toNat ∧ b.toNat ≤ 57 := by
 obtain ⟨k,hk⟩ := List.mem_iff_getElem?.mp h
 obtain ⟨d,hd⟩ := Lib.digit_of_decFrom _ _ _ (decFrom_decDigits u) k b hk
 have := digitVal_some hd
 omega
theorem itoa_nat (u : Nat) : Lib.itoa (u : Int) = Lib.decDigits u := by
 unfold Lib.itoa
 rw [if_neg (by omega),Int.toNat_natCast]
theorem itoa_inj {a b : Int} (h : Lib.itoa a = Lib.itoa b) : a = b := by
 have d45 : ∀ u,∀ r,Lib.decDigits u ≠ 45 :: r := fun u r e => by
  have := decDigits_digit (u := u) (b := 45) (by rw [e];exact List.mem_cons_self ..)
  have : (45 : UInt8).toNat = 45 := rfl
  omega
 unfold Lib.itoa at h
 by_cases ha : a < 0
 ·rw [if_pos ha] at h
  by_cases hb : b < 0
  ·rw [if_pos hb] at h
   have e := congrArg (Lib.decFrom 0) (List.cons.inj h).2
   rw [decFrom_decDigits,decFrom_decDigits] at e
   have := Option.some.inj e
   omega
  ·rw [if_neg hb] at h
   exact absurd h.symm (d45 _ _)
 ·rw [if_neg ha] at h
  by_cases hb : b < 0
  ·rw [if_pos hb] at h
   exact absurd h (d45 _ _)
  ·rw [if_neg hb] at h
   have e := congrArg (Lib.decFrom 0) h
   rw [decFrom_decDigits,decFrom_decDigits] at e
   have := Option.some.inj e
   omega
theorem parseUint10_dec : ∀ (l : List UInt8) (acc n : Nat),Lib.decFrom acc l = some n → n < 18446744073709551616 → Lib.parseUint10 acc l = .ok n
 | [],acc,n,h,_ => by
  have := Option.some.inj h
  subst this
  rfl
 | b :: l,acc,n,h,hn => by
  simp only [Lib.decFrom] at h
  cases e : Lib.digitVal b with
  | none => rw [e] at h;cases h
  | some d =>
   rw [e] at h
   have m := decFrom_mono l _ n h
   obtain ⟨_,hd,ht⟩ := digitVal_some e
   simp only [Lib.parseUint10]
   have ed : b.toNat - 48 = d := by omega
   rw [if_pos (by omega),if_neg (by omega),if_neg (by omega),ed]
   exact parseUint10_dec l _ n h hn
theorem atoiAll_itoa {n : Int} (h0 : -9223372036854775808 ≤ n) (h1 : n ≤ 9223372036854775807) : Lib.atoiAll (Lib.itoa n) = .ok n := by
 unfold Lib.itoa
 by_cases h : n < 0
 ·rw [if_pos h,Lib.atoiAll_minus]
  unfold Lib.parseMag
  rw [if_neg (decDigits_ne _),parseUint10_dec _ _ _ (decFrom_decDigits _) (by omega)]
  show (if 9223372036854775808 < n.natAbs then Lib.NumEnd.range else .ok (-(n.natAbs : Int))) = _
  rw [if_neg (by omega)]
  congr 1
  omega
 ·rw [if_neg h]
  cases hd : Lib.decDigits n.toNat with
  | nil => exact absurd hd (decDigits_ne _)
  | cons c r =>
   have hc := decDigits_digit (u := n.toNat) (b := c) (by rw [hd];exact List.mem_cons_self ..)
   rw [Lib.atoiAll_plain c r (by omega) (by omega),← hd]
   unfold Lib.parseMag
   rw [if_neg (decDigits_ne _),parseUint10_dec _ _ _ (decFrom_decDigits _) (by omega)]
   show (if 9223372036854775808 ≤ n.toNat then Lib.NumEnd.range else .ok (n.toNat : Int)) = _
   rw [if_neg (by omega)]
   congr 1
   omega
def digs (u : Nat) : List UInt8 := if u = 0 then [] else Lib.decDigits u
theorem digs_step {u : Nat} (h : u ≠ 0) : digs u = digs (u / 10) ++ [UInt8.ofNat (48 + u % 10)] := by
 unfold digs
 rw [if_neg h]
 by_cases h1 : u < 10
 ·rw [if_pos (by omega),Lib.decDigits_one h1,Nat.mod_eq_of_lt h1]
  rfl
 ·rw [if_neg (by omega),decDigits_big h1]
theorem digit_num (u : Nat) : strOfNums [wrap64 (48 + ((u % 10 : Nat) : Int)) % 256] = bs [UInt8.ofNat (48 + u % 10)] := by
 rw [strOfNums_bs,w64 (by omega) (by omega)]
 congr 2
 show UInt8.ofNat ((48 + ((u % 10 : Nat) : Int)) % 256).toNat :: [] = _
 congr 2
 omega
theorem specDigits_l0 (neg : Bool) : ∀ (u : Nat) (n : Int) (t : List UInt8),n.natAbs = u → n ≤ 9223372036854775807 → -9223372036854775808 ≤ n → t.length + (digs u).length ≤ 100 →
  Ev (fun k => spec_Digits.l0 k n neg (bs t)) (bs ((if neg = true then [45] else []) ++ (digs u ++ t))) := by
 intro u
 induction u using Nat.strongRecOn with
 | _ u ih =>
  intro n t hu h1 h0 ht
  refine ev_succ ?_
  simp only [spec_Digits.l0,Option.bind_some]
  by_cases hz : n = 0
  ·subst hz
   obtain rfl : (0 : Nat) = u := hu
   refine ev_pos rfl ?_
   cases neg with
   | true =>
    refine ev_pos rfl (ev_pos (by rw [bs_size];omega) (ev_eq (Ev.now _) ?_))
    exact bs_append [45] t
   | false => exact ev_neg (by decide) (Ev.now _)
  ·have hr : n = -(u : Int) ∨ n = (u : Int) := by omega
   have hu0 : u ≠ 0 := by omega
   have et : wrap64 (Int.tdiv n 10) = Int.tdiv n 10 := by
    rcases hr with e | e <;> rw [e]
    ·rw [Int.neg_tdiv]
     show wrap64 (-Int.tdiv (u : Int) ((10 : Nat) : Int)) = _
     rw [← Int.ofNat_tdiv];exact w64 (by omega) (by omega)
    ·show wrap64 (Int.tdiv (u : Int) ((10 : Nat) : Int)) = _
     rw [← Int.ofNat_tdiv];exact w64 (by omega) (by omega)
   have en : (Int.tdiv n 10).natAbs = u / 10 := by
    rw [Int.natAbs_tdiv,hu];rfl
   have hl := congrArg List.length (digs_step hu0)
   rw [List.length_append,List.length_singleton] at hl
   have go : Ev (fun k => spec_Digits.l0 k (wrap64 (Int.tdiv n 10)) neg (bs ([UInt8.ofNat (48 + u % 10)] ++ t))) (bs ((if neg = true then [45] else []) ++ (digs u ++ t))) := by
    rw [et]
    refine ev_eq (ih (u / 10) (by omega) _ _ en ?_ ?_ ?_) (by rw [digs_step hu0,List.append_assoc])
    ·omega
    ·omega
    ·rw [List.length_append,List.length_singleton]
     omega
   have hm : Int.tmod n 10 = -((u % 10 : Nat) : Int) ∨ Int.tmod n 10 = ((u % 10 : Nat) : Int) := by
    rcases hr with e | e <;> rw [e]
    ·left
     rw [Int.neg_tmod]
     show -Int.tmod (u : Int) ((10 : Nat) : Int) = _
     rw [← Int.ofNat_tmod]
    ·right
     show Int.tmod (u : Int) ((10 : Nat) : Int) = _
     rw [← Int.ofNat_tmod]
   refine ev_neg hz ?_
   by_cases hb : Int.tmod n 10 < 0
   ·refine ev_pos hb ?_
    have e1 : wrap64 (-(Int.tmod n 10)) = ((u % 10 : Nat) : Int) := by
     rw [w64 (by omega) (by omega)];omega
    rw [e1,digit_num,bs_append]
    exact ev_pos (by rw [bs_size,bs_size,List.length_singleton];omega) go
   ·refine ev_neg hb ?_
    have e1 : Int.tmod n 10 = ((u % 10 : Nat) : Int) := by omega
    rw [e1,digit_num,bs_append]
    exact ev_pos (by rw [bs_size,bs_size,List.length_singleton];omega) go
theorem specDigits (n : Int) (h0 : -9223372036854775808 ≤ n) (h1 : n ≤ 9223372036854775807) : Ev (fun k => spec_Digits.f k n) (bs (Lib.itoa n)) := by
 unfold spec_Digits.f
 by_cases hz : n = 0
 ·subst hz
  exact ev_pos rfl (ev_eq (Ev.now _) (by rw [show Lib.itoa 0 = Lib.decDigits 0 from itoa_nat 0,Lib.decDigits_one (by omega)];rfl))
 ·have hd : digs n.natAbs = Lib.decDigits n.natAbs := by unfold digs;rw [if_neg (by omega)]
  refine ev_neg hz (ev_eq (specDigits_l0 _ n.natAbs n [] rfl h1 h0 (by have := Lib.nDigits_le20 n.natAbs (by omega);rw [hd,Lib.decDigits_length,List.length_nil];omega)) ?_)
  congr 1
  rw [hd,List.append_nil]
  unfold Lib.itoa
  by_cases h : n < 0
  ·rw [if_pos h,if_pos (decide_eq_true h)]
   rfl
  ·rw [if_neg h,if_neg (by simpa using h)]
   have : n.natAbs = n.toNat := by omega
   rw [this]
   rfl
noncomputable def intText (l : List UInt8) : Int × Bool := open Classical in if h : ∃ n : Int,-9223372036854775808 ≤ n ∧ n ≤ 9223372036854775807 ∧ Lib.itoa n = l then (h.choose,true) else (0,false)
theorem intText_itoa {n : Int} (h0 : -9223372036854775808 ≤ n) (h1 : n ≤ 9223372036854775807) : intText (Lib.itoa n) = (n,true) := by
 have h : ∃ m : Int,-9223372036854775808 ≤ m ∧ m ≤ 9223372036854775807 ∧ Lib.itoa m = Lib.itoa n := ⟨n,h0,h1,rfl⟩
 unfold intText
 rw [dif_pos h]
 exact congrArg (·,true) (itoa_inj h.choose_spec.2.2)
theorem intText_none {l : List UInt8} (h : ∀ n : Int,-9223372036854775808 ≤ n → n ≤ 9223372036854775807 → Lib.itoa n ≠ l) : intText l = (0,false) := by
 unfold intText
 rw [dif_neg]
 rintro ⟨n,h0,h1,h2⟩
 exact h n h0 h1 h2
theorem intText_cases (l : List UInt8) : (∃ n : Int,-9223372036854775808 ≤ n ∧ n ≤ 9223372036854775807 ∧ Lib.itoa n = l ∧ intText l = (n,true)) ∨ ((∀ n : Int,-9223372036854775808 ≤ n → n ≤ 9223372036854775807 → Lib.itoa n ≠ l) ∧ intText l = (0,false)) := by
 by_cases h : ∃ n : Int,-9223372036854775808 ≤ n ∧ n ≤ 9223372036854775807 ∧ Lib.itoa n = l
 ·obtain ⟨n,h0,h1,rfl⟩ := h
  exact Or.inl ⟨n,h0,h1,rfl,intText_itoa h0 h1⟩
 ·have h' : ∀ n : Int,-9223372036854775808 ≤ n → n ≤ 9223372036854775807 → Lib.itoa n ≠ l := fun n h0 h1 h2 => h ⟨n,h0,h1,h2⟩
  exact Or.inr ⟨h',intText_none h'⟩
theorem itoa_neg {n : Int} (h : n < 0) : Lib.itoa n = 45 :: Lib.decDigits n.natAbs := by
 unfold Lib.itoa
 first | rw [if_pos h] | (simp [h])
theorem itoa_pos {n : Int} (h : 0 ≤ n) : Lib.itoa n = Lib.decDigits n.natAbs := by
 obtain ⟨u,rfl⟩ := Int.eq_ofNat_of_zero_le h
 exact itoa_nat u
theorem itoa_cons {n : Int} {r : List UInt8} (h : Lib.itoa n = 45 :: r) : n < 0 ∧ Lib.decDigits n.natAbs = r := by
 by_cases hn : n < 0
 ·rw [itoa_neg hn] at h
  exact ⟨hn,(List.cons.inj h).2⟩
 ·rw [itoa_pos (by omega)] at h
  have := decDigits_digit (u := n.natAbs) (b := 45) (by rw [h];exact List.mem_cons_self ..)
  exact absurd this.1 (by decide)
theorem itoa_head {n : Int} {l : List UInt8} (h : Lib.itoa n = l) (hl : l.head? ≠ some 45) : 0 ≤ n ∧ Lib.decDigits n.natAbs = l := by
 by_cases hn : n < 0
 ·rw [itoa_neg hn] at h
  subst h
  exact absurd rfl hl
 ·rw [itoa_pos (by omega)] at h
  exact ⟨by omega,h⟩
theorem digit_byte {b : UInt8} (h0 : 48 ≤ b.toNat) (h1 : b.toNat ≤ 57) : Lib.digitVal b = some (b.toNat - 48) := by
 have : b = UInt8.ofNat (48 + (b.toNat - 48)) := by
  apply UInt8.toNat_inj.1
  rw [UInt8.toNat_ofNat']
  omega
 rw [this,digitVal_dg (by omega),UInt8.toNat_ofNat']
 congr 1
 omega
theorem digit_bad {b : UInt8} (h : ¬ (48 ≤ b.toNat ∧ b.toNat ≤ 57)) : Lib.digitVal b = none := by
 cases e : Lib.digitVal b with
 | none => rfl
 | some d =>
  have := digitVal_some e
  omega
theorem decFrom_cons (acc : Nat) (b : UInt8) (l : List UInt8) : Lib.decFrom acc (b :: l) = (Lib.digitVal b).bind fun d => Lib.decFrom (acc * 10 + d) l := by
 rw [Lib.decFrom]
 cases Lib.digitVal b <;> rfl
theorem nDigits_le : ∀ (k u : Nat),u < 10 ^ (k + 1) → Lib.nDigits u ≤ k + 1
 | 0,u,h => by rw [Lib.nDigits_small (by simpa using h)];omega
 | k + 1,u,h => by
  by_cases hu : u < 10
  ·rw [Lib.nDigits_small hu];omega
  ·rw [Lib.nDigits_big hu]
   have := nDigits_le k (u / 10) (by rw [Nat.pow_succ] at h;omega)
   omega
theorem u8_lt (b : UInt8) : b.toNat < 256 := UInt8.toNat_lt b
def pz (s : ByteArray) (l : List UInt8) : Int := (s.size : Int) - (l.length : Int)
theorem pz_nil (s : ByteArray) : pz s [] = (s.size : Int) := by simp [pz]
theorem pz_le (s : ByteArray) (l : List UInt8) : pz s l ≤ (s.size : Int) := by unfold pz;omega
theorem pz_all (s : ByteArray) : pz s s.data.toList = 0 := by unfold pz;rw [data_length];omega
theorem tail_length {s : ByteArray} {l : List UInt8} (h : l <:+ s.data.toList) : l.length ≤ s.size := by
 have := h.length_le
 rwa [data_length] at this
theorem pz_pos {s : ByteArray} {l : List UInt8} (h : l <:+ s.data.toList) : 0 ≤ pz s l := by
 have := tail_length h
 unfold pz
 omega
theorem pz_lt {s : ByteArray} {b : UInt8} {l : List UInt8} : pz s (b :: l) < (s.size : Int) := by
 unfold pz
 rw [List.length_cons]
 omega
theorem pz_succ {s : ByteArray} {b : UInt8} {l : List UInt8} : pz s (b :: l) + 1 = pz s l := by
 unfold pz
 rw [List.length_cons]
 omega
theorem tail_cons {s : ByteArray} {b : UInt8} {l : List UInt8} (h : b :: l <:+ s.data.toList) : l <:+ s.data.toList := (List.suffix_cons b l).trans h
theorem tail_nat {s : ByteArray} {l : List UInt8} (h : l <:+ s.data.toList) : pz s l = ((s.data.toList.length - l.length : Nat) : Int) := by
 have := h.length_le
 unfold pz
 rw [← data_length]
 omega
theorem bt_pz {s : ByteArray} {b : UInt8} {l : List UInt8} (h : b :: l <:+ s.data.toList) : bt s (pz s (b :: l)) = (b.toNat : Int) := by
 obtain ⟨t,e⟩ := h
 rw [tail_nat ⟨t,e⟩]
 refine bt_get ?_
 rw [← e,List.length_append,Nat.add_sub_cancel,List.getElem?_append_right (Nat.le_refl _),Nat.sub_self]
 rfl
theorem pz_toNat {s : ByteArray} {l : List UInt8} (h : l <:+ s.data.toList) : s.data.toList.drop (pz s l).toNat = l := by
 rw [tail_nat h,Int.toNat_natCast]
 exact (List.suffix_iff_eq_drop.mp h).symm
def partsL (c : UInt8) : List UInt8 → List (List UInt8)
 | [] => [[]]
 | b :: l => if b = c then [] :: partsL c l else match partsL c l with
  | [] => [[b]]
  | p :: r => (b :: p) :: r
def addHead (w : List UInt8) : List (List UInt8) → List (List UInt8)
 | [] => [w]
 | p :: r => (w ++ p) :: r
theorem partsL_ne (c : UInt8) (l : List UInt8) : partsL c l ≠ [] := by
 cases l with
 | nil => simp [partsL]
 | cons b l =>
  unfold partsL
  split
  ·simp
  ·split <;> simp
theorem addHead_nil {ps : List (List UInt8)} (h : ps ≠ []) : addHead [] ps = ps := by
 cases ps with
 | nil => exact absurd rfl h
 | cons p r => rfl
theorem addHead_hit (c : UInt8) (w l : List UInt8) : addHead w (partsL c (c :: l)) = w :: partsL c l := by
 rw [partsL,if_pos rfl]
 simp [addHead]
theorem addHead_miss {c b : UInt8} (h : b ≠ c) (w l : List UInt8) : addHead w (partsL c (b :: l)) = addHead (w ++ [b]) (partsL c l) := by
 rw [partsL,if_neg h]
 cases partsL c l with
 | nil => rfl
 | cons p r => simp [addHead]
theorem pz_wB {s : ByteArray} {b : UInt8} {l : List UInt8} (hs : s.size ≤ 1000000000) (h : b :: l <:+ s.data.toList) : wrap64 (pz s (b :: l) + 1) = pz s l := by
 have h1 := pz_pos h
 have h2 := pz_le s (b :: l)
 rw [w64 (by omega) (by omega),pz_succ]
theorem ext_mid {s : ByteArray} {w l : List UInt8} (h : w ++ l <:+ s.data.toList) : s.extract (pz s (w ++ l)).toNat (pz s l).toNat = bs w := by
 refine ba_ext ?_
 rw [ByteArray.data_extract,Array.toList_extract,List.extract_eq_take_drop,list_bs,pz_toNat h]
 have h0 := pz_pos h
 rw [show (pz s l).toNat - (pz s (w ++ l)).toNat = w.length from by unfold pz at h0 ⊢;rw [List.length_append] at h0 ⊢;omega]
 exact List.take_left
theorem specParts_l0 (s : ByteArray) (c : UInt8) (hs : s.size ≤ 1000000000) : ∀ (l w : List UInt8) (out : List ByteArray),w ++ l <:+ s.data.toList → out.length + l.length ≤ 1000000000 →
  Ev (fun k => spec_Parts.l0 k s (c.toNat : Int) out (pz s (w ++ l)) (pz s l)) (out ++ (addHead w (partsL c l)).map bs) := by
 intro l
 induction l with
 | nil =>
  intro w out ht ho
  have h0 := pz_pos ht
  have h1 := pz_le s (w ++ [])
  refine ev_succ ?_
  simp only [spec_Parts.l0]
  refine ev_pos (by rw [pz_nil];exact Int.le_refl _) (ev_pos (pz_nil s) (ev_pos h0 (ev_pos (by rw [pz_nil];exact h1) (ev_pos (by omega) (ev_succ ?_)))))
  simp only [spec_Parts.l0]
  refine ev_neg (by rw [pz_nil,w64 (by omega) (by omega)];omega) (ev_eq (Ev.now _) ?_)
  rw [ext_mid ht]
  simp [partsL,addHead]
 | cons b l ih =>
  intro w out ht ho
  have hb : b :: l <:+ s.data.toList := (List.suffix_append w _).trans ht
  have h0 := pz_pos ht
  rw [List.length_cons] at ho
  refine ev_succ ?_
  simp only [spec_Parts.l0]
  refine ev_pos (pz_le _ _) (ev_neg (by have := @pz_lt s b l;omega) (ev_pos (pz_pos hb) (ev_pos pz_lt ?_)))
  simp only [bt_pz hb,pz_wB hs hb]
  by_cases h : b = c
  ·subst h
   refine ev_pos rfl (ev_pos h0 (ev_pos (by unfold pz;rw [List.length_append];omega) (ev_pos (by omega) ?_)))
   rw [ext_mid ht,addHead_hit]
   have := ih [] (out ++ [bs w]) (tail_cons hb) (by rw [List.length_append,List.length_singleton];omega)
   rw [addHead_nil (partsL_ne b l)] at this
   refine ev_eq this ?_
   simp
  ·refine ev_neg (fun e => h (UInt8.toNat_inj.1 (by omega))) ?_
   rw [addHead_miss h]
   have := ih (w ++ [b]) out (by rw [List.append_assoc];exact ht) (by omega)
   rwa [List.append_assoc] at this
theorem specParts_f (s : ByteArray) (c : UInt8) (hs : s.size ≤ 1000000000) : Ev (fun k => spec_Parts.f k s (c.toNat : Int)) ((partsL c s.data.toList).map bs) := by
 unfold spec_Parts.f
 have hl : s.data.toList.length = s.size := data_length ..
 have := specParts_l0 s c hs s.data.toList [] [] (List.suffix_refl _) (by rw [hl,List.length_nil];omega)
 rw [List.nil_append,pz_all,addHead_nil (partsL_ne _ _)] at this
 exact this
def cutAt (c : UInt8) (l : List UInt8) : List UInt8 × Option (List UInt8) := match l with
 | [] => ([],none)
 | b :: r => if b = c then ([],some r) else (b :: (cutAt c r).1,(cutAt c r).2)
def restParts (c : UInt8) : Option (List UInt8) → List (List UInt8)
 | none => []
 | some p => partsL c p
def restLen : Option (List UInt8) → Nat
 | none => 0
 | some p => p.length + 1
theorem partsL_cut (c : UInt8) : ∀ l : List UInt8,partsL c l = (cutAt c l).1 :: restParts c (cutAt c l).2
 | [] => rfl
 | b :: l => by
  have ih := partsL_cut c l
  rw [partsL,cutAt]
  by_cases h : b = c
  ·simp only [if_pos h]
   rfl
  ·simp only [if_neg h]
   rw [ih]
theorem cutAt_none {c : UInt8} : ∀ {l : List UInt8},(cutAt c l).2 = none → c ∉ l ∧ (cutAt c l).1 = l
 | [],_ => ⟨by simp,rfl⟩
 | b :: l,h => by
  unfold cutAt at h ⊢
  by_cases hb : b = c
  ·rw [if_pos hb] at h;cases h
  ·rw [if_neg hb] at h ⊢
   obtain ⟨h1,h2⟩ := cutAt_none (l := l) h
   exact ⟨by simp [h1];exact fun e => hb e.symm,by simp [h2]⟩
theorem cutAt_not_mem {c : UInt8} : ∀ {l : List UInt8},c ∉ l → cutAt c l = (l,none)
 | [],_ => rfl
 | b :: l,h => by
  rw [List.mem_cons,not_or] at h
  unfold cutAt
  rw [if_neg (fun e => h.1 e.symm),cutAt_not_mem h.2]
theorem cutAt_mid {c : UInt8} {w p : List UInt8} (h : c ∉ w) : cutAt c (w ++ c :: p) = (w,some p) := by
 induction w with
 | nil => simp [cutAt]
 | cons b w ih =>
  rw [List.mem_cons,not_or] at h
  rw [List.cons_append,cutAt,if_neg (fun e => h.1 e.symm),ih h.2]
theorem cutAt_some {c : UInt8} : ∀ {l p : List UInt8},(cutAt c l).2 = some p → c ∉ (cutAt c l).1 ∧ l = (cutAt c l).1 ++ c :: p
 | [],p,h => by cases h
 | b :: l,p,h => by
  unfold cutAt at h ⊢
  by_cases hb : b = c
  ·rw [if_pos hb] at h ⊢
   cases h
   exact ⟨by simp,by simp [hb]⟩
  ·rw [if_neg hb] at h ⊢
   obtain ⟨h1,h2⟩ := cutAt_some (l := l) h
   refine ⟨by simp [h1];exact fun e => hb e.symm,?_⟩
   simp only [List.cons_append]
   rw [← h2]
theorem cutAt_length (c : UInt8) (l : List UInt8) : (cutAt c l).1.length + restLen (cutAt c l).2 = l.length := by
 cases h : (cutAt c l).2 with
 | none => simp [(cutAt_none h).2,restLen]
 | some p =>
  have := congrArg List.length (cutAt_some h).2
  rw [List.length_append,List.length_cons] at this
  simp only [restLen]
  omega
theorem index_cutAt (c : UInt8) : ∀ l : List UInt8,Lib.index l [c] = if (cutAt c l).2 = none then -1 else ((cutAt c l).1.length : Int)
 | [] => rfl
 | b :: l => by
  have ih := index_cutAt c l
  unfold Lib.index cutAt
  rw [ih]
  by_cases h : b = c
  ·subst h
   simp [List.isPrefixOf]
  ·have h1 : ([c].isPrefixOf (b :: l)) = false := by simp [List.isPrefixOf];exact fun e => h e.symm
   rw [h1,if_neg (by simp),if_neg h]
   by_cases hn : (cutAt c l).2 = none
   ·simp [hn]
   ·simp only [if_neg hn]
    rw [if_neg (by simp),List.length_cons]
    push_cast
    rfl
theorem cut_cutAt (c : UInt8) (l : List UInt8) : Lib.cut l [c] = ((cutAt c l).1,(cutAt c l).2.getD [],(cutAt c l).2.isSome) := by
 unfold Lib.cut
 rw [index_cutAt]
 cases h : (cutAt c l).2 with
 | none =>
  rw [if_pos rfl,if_neg (by decide),(cutAt_none h).2]
  rfl
 | some p =>
  rw [if_neg (show ¬ (some p = none) from fun e => by cases e),if_pos (by omega),Int.toNat_natCast]
  have e := (cutAt_some h).2
  generalize (cutAt c l).1 = w at e ⊢
  subst e
  rw [List.take_left,List.length_singleton,List.drop_append,List.drop_of_length_le (by omega)]
  simp
theorem toList_bs (l : List UInt8) : (bs l).toList = l := by rw [ByteArray.toList_eq,list_bs]
noncomputable def intEnd (l : List UInt8) (neg : Bool) (o : Option Nat) : Int × Bool := open Classical in match o with
 | none => (0,false)
 | some u => if u > 9223372036854775808 ∨ (neg = false ∧ u = 9223372036854775808) then (0,false)
  else if Lib.itoa (if neg = true then -(u : Int) else (u : Int)) = l then ((if neg = true then -(u : Int) else (u : Int)),true) else (0,false)
theorem intEnd_some (l : List UInt8) (neg : Bool) (u : Nat) : intEnd l neg (some u) = if u > 9223372036854775808 ∨ (neg = false ∧ u = 9223372036854775808) then (0,false)
  else if Lib.itoa (if neg = true then -(u : Int) else (u : Int)) = l then ((if neg = true then -(u : Int) else (u : Int)),true) else (0,false) := rfl
theorem itoa_len20 {n : Int} (h0 : -9223372036854775808 ≤ n) (h1 : n ≤ 9223372036854775807) : (Lib.itoa n).length ≤ 20 := by
 have key : ∀ u : Nat,u ≤ 9223372036854775808 → (Lib.decDigits u).length ≤ 19 := by
  intro u hu
  rw [Lib.decDigits_length]
  exact nDigits_le 18 u (by omega)
 by_cases hn : n < 0
 ·rw [itoa_neg hn,List.length_cons]
  have := key n.natAbs (by omega)
  omega
 ·rw [itoa_pos (by omega)]
  have := key n.natAbs (by omega)
  omega
theorem cut_at (v : Nat) (d : Nat) (h : d ≤ 9) : (-(v : Int) < wrap64 (Int.tdiv ((-9223372036854775808) + (d : Int)) 10)) ↔ v * 10 + d > 9223372036854775808 := by
 have e : Int.tdiv ((-9223372036854775808) + (d : Int)) 10 = -(((9223372036854775808 - d) / 10 : Nat) : Int) := by
  rw [show (-9223372036854775808 : Int) + (d : Int) = -((9223372036854775808 - d : Nat) : Int) from by omega,Int.neg_tdiv]
  rfl
 rw [e,w64 (by omega) (by omega)]
 omega
theorem intEnd_big {l : List UInt8} {neg : Bool} {v : Nat} {r : List UInt8} (h : v > 9223372036854775808) : intEnd l neg (Lib.decFrom v r) = (0,false) := by
 cases e : Lib.decFrom v r with
 | none => rfl
 | some u =>
  have := decFrom_mono _ _ _ e
  rw [intEnd_some,if_pos (Or.inl (by omega))]
theorem specInt_l0 (s : ByteArray) (hs : s.size ≤ 20) (neg : Bool) : ∀ (l : List UInt8) (v : Nat),l <:+ s.data.toList → v ≤ 9223372036854775808 →
  Ev (fun k => spec_IntText.l0 k s (if neg = true then 1 else 0) (-(v : Int)) (pz s l)) (intEnd s.data.toList neg (Lib.decFrom v l)) := by
 intro l
 induction l with
 | nil =>
  intro v ht hv
  refine ev_succ ?_
  simp only [spec_IntText.l0]
  refine ev_neg (by rw [pz_nil];exact Int.lt_irrefl _) ?_
  rw [show Lib.decFrom v [] = some v from rfl,intEnd_some]
  cases neg with
  | false =>
   refine ev_pos (by simp) ?_
   by_cases he : v = 9223372036854775808
   ·subst he
    refine ev_pos (by decide) (ev_eq (Ev.now _) ?_)
    rw [if_pos (Or.inr ⟨rfl,rfl⟩)]
   ·refine ev_neg (by omega) ?_
    rw [show wrap64 (-(-(v : Int))) = (v : Int) from by rw [Int.neg_neg];exact w64 (by omega) (by omega)]
    rw [if_neg (by simp [he];omega)]
    refine (specDigits (v : Int) (by omega) (by omega)).bind ?_
    simp only [toList_bs,ByteArray.toList_eq]
    by_cases h : Lib.itoa (v : Int) = s.data.toList
    ·exact ev_pos h (ev_eq (Ev.now _) (by simp [h]))
    ·exact ev_neg h (ev_eq (Ev.now _) (by simp [h]))
  | true =>
   refine ev_neg (by simp) ?_
   rw [if_neg (by simp;omega)]
   refine (specDigits (-(v : Int)) (by omega) (by omega)).bind ?_
   simp only [toList_bs,ByteArray.toList_eq]
   by_cases h : Lib.itoa (-(v : Int)) = s.data.toList
   ·exact ev_pos h (ev_eq (Ev.now _) (by simp [h]))
   ·exact ev_neg h (ev_eq (Ev.now _) (by simp [h]))
 | cons b l ih =>
  intro v ht hv
  have hb := u8_lt b
  refine ev_succ ?_
  simp only [spec_IntText.l0]
  refine ev_pos pz_lt (ev_pos (pz_pos ht) ?_)
  simp only [bt_pz ht]
  by_cases h0 : b.toNat < 48
  ·refine ev_pos (by omega) (ev_succ ?_)
   simp only [spec_IntText.j3]
   refine ev_pos (by first | rfl | trivial) (ev_eq (Ev.now _) ?_)
   rw [decFrom_cons,digit_bad (by omega)]
   rfl
  refine ev_neg (by omega) (ev_succ ?_)
  simp only [spec_IntText.j3]
  by_cases h1 : b.toNat > 57
  ·refine ev_pos (decide_eq_true (by omega)) (ev_eq (Ev.now _) ?_)
   rw [decFrom_cons,digit_bad (by omega)]
   rfl
  refine ev_neg (by simp;omega) (ev_pos (pz_pos ht) (ev_pos pz_lt ?_))
  simp only [bt_pz ht]
  have hd : ((b.toNat : Int) - 48) % 256 = ((b.toNat - 48 : Nat) : Int) := by omega
  rw [decFrom_cons,digit_byte (by omega) (by omega),Option.bind_some,hd]
  by_cases hc : v * 10 + (b.toNat - 48) > 9223372036854775808
  ·refine ev_pos ((cut_at v (b.toNat - 48) (by omega)).mpr hc) (ev_eq (Ev.now _) ?_)
   exact (intEnd_big hc).symm
  ·refine ev_neg (fun h => hc ((cut_at v (b.toNat - 48) (by omega)).mp h)) ?_
   have e1 : wrap64 (10 * -(v : Int)) = 10 * -(v : Int) := w64 (by omega) (by omega)
   have e2 : wrap64 ((wrap64 (10 * -(v : Int))) - ((b.toNat - 48 : Nat) : Int)) = -((v * 10 + (b.toNat - 48) : Nat) : Int) := by
    rw [e1,w64 (by omega) (by omega)]
    omega
   have e3 : wrap64 (pz s (b :: l) + 1) = pz s l := by
    have := pz_pos ht
    have := pz_le s (b :: l)
    rw [w64 (by omega) (by omega),pz_succ]
   rw [e2,e3]
   exact ih _ (tail_cons ht) (by omega)
theorem intEnd_text (l r : List UInt8) (neg : Bool) (h : l = (if neg = true then [45] else []) ++ r) (hn : neg = false → l.head? ≠ some 45) : intEnd l neg (Lib.decFrom 0 r) = intText l := by
 have back : ∀ n : Int,Lib.itoa n = l → Lib.decFrom 0 r = some n.natAbs ∧ (neg = true → n < 0) ∧ (neg = false → 0 ≤ n) := by
  intro n hi
  cases neg with
  | true =>
   rw [h] at hi
   obtain ⟨h1,h2⟩ := itoa_cons hi
   rw [show r = Lib.decDigits n.natAbs from h2.symm]
   exact ⟨decFrom_decDigits _,fun _ => h1,fun h => by cases h⟩
  | false =>
   obtain ⟨h1,h2⟩ := itoa_head hi (hn rfl)
   rw [h] at h2
   rw [show r = Lib.decDigits n.natAbs from by simpa using h2.symm]
   exact ⟨decFrom_decDigits _,fun h => by (cases h),fun _ => h1⟩
 rcases intText_cases l with ⟨n,h0,h1,h2,h3⟩ | ⟨h2,h3⟩
 ·rw [h3]
  obtain ⟨b1,b2,b3⟩ := back n h2
  rw [b1]
  rw [intEnd_some]
  cases neg with
  | true =>
   have := b2 rfl
   rw [if_neg (by simp;omega)]
   have e : (if true = true then -((n.natAbs : Nat) : Int) else (n.natAbs : Int)) = n := by rw [if_pos rfl];omega
   rw [e,if_pos h2]
  | false =>
   have := b3 rfl
   rw [if_neg (by simp;omega)]
   have e : (if false = true then -((n.natAbs : Nat) : Int) else (n.natAbs : Int)) = n := by rw [if_neg (by simp)];omega
   rw [e,if_pos h2]
 ·rw [h3]
  cases Lib.decFrom 0 r with
  | none => rfl
  | some u =>
   rw [intEnd_some]
   by_cases hb : u > 9223372036854775808 ∨ (neg = false ∧ u = 9223372036854775808)
   ·rw [if_pos hb]
   ·rw [if_neg hb,if_neg]
    refine h2 _ ?_ ?_ <;> cases neg <;> simp at hb ⊢ <;> omega
theorem specIntText_f (s : ByteArray) : Ev (fun k => spec_IntText.f k s) (intText s.data.toList) := by
 have hl : s.data.toList.length = s.size := data_length ..
 unfold spec_IntText.f
 have bad : ¬ (1 ≤ s.size ∧ s.size ≤ 20) → intText s.data.toList = (0,false) := by
  intro h
  refine intText_none fun n h0 h1 h2 => h ?_
  have a := congrArg List.length h2
  rw [hl] at a
  have b := itoa_len20 h0 h1
  have c : 0 < (Lib.itoa n).length := by
   by_cases hn : n < 0
   ·rw [itoa_neg hn];simp
   ·rw [itoa_pos (by omega)]
    exact List.length_pos_iff.mpr (decDigits_ne _)
  omega
 by_cases h : (s.size : Int) < 1
 ·refine ev_pos h (ev_succ ?_)
  simp only [spec_IntText.j0]
  exact ev_pos (by first | rfl | trivial) (ev_eq (Ev.now _) (bad (by omega)).symm)
 refine ev_neg h (ev_succ ?_)
 simp only [spec_IntText.j0]
 by_cases h1 : (s.size : Int) > 20
 ·exact ev_pos (decide_eq_true h1) (ev_eq (Ev.now _) (bad (by omega)).symm)
 refine ev_neg (by simp;omega) (ev_pos (by omega) ?_)
 obtain ⟨b,r,e⟩ : ∃ b r,s.data.toList = b :: r := by
  cases e : s.data.toList with
  | nil => rw [e] at hl;simp at hl;omega
  | cons b r => exact ⟨b,r,rfl⟩
 have hb0 : bt s 0 = (b.toNat : Int) := bt_get (n := 0) (by rw [e];rfl)
 simp only [hb0]
 have ht : b :: r <:+ s.data.toList := by rw [e];exact List.suffix_refl _
 have p0 : pz s (b :: r) = 0 := by rw [← e];exact pz_all s
 have p1 : pz s r = 1 := by have := @pz_succ s b r;omega
 by_cases h45 : b = 45
 ·subst h45
  refine ev_pos rfl (ev_succ ?_)
  simp only [spec_IntText.j1]
  have := specInt_l0 s (by omega) true r 0 (tail_cons ht) (by omega)
  rw [p1] at this
  refine ev_eq this ?_
  exact intEnd_text _ r true (by rw [e];rfl) (fun h => by cases h)
 ·refine ev_neg (fun e => h45 ((u8_eq (n := 45) (by decide)).mp e)) (ev_succ ?_)
  simp only [spec_IntText.j1]
  have := specInt_l0 s (by omega) false (b :: r) 0 ht (by omega)
  rw [p0] at this
  refine ev_eq this ?_
  rw [← e]
  exact intEnd_text _ _ false (by simp) (fun _ => by rw [e];simpa using h45)
theorem specIn (a b c : Int) : spec_l1In.f a b c = some (decide (b ≤ a ∧ a ≤ c)) := by
 unfold spec_l1In.f
 by_cases h : b ≤ a
 ·rw [if_pos h];simp [h]
 ·rw [if_neg h];simp [h]
theorem specNumber_f (s : ByteArray) : Ev (fun k => spec_Number.f k s) (if (intText s.data.toList).2 = true ∧ 0 ≤ (intText s.data.toList).1 ∧ (intText s.data.toList).1 ≤ 999999999 then ((intText s.data.toList).1,true) else (0,false)) := by
 unfold spec_Number.f
 refine (specIntText_f s).bind ?_
 by_cases h : (intText s.data.toList).2 = true
 ·refine ev_pos h ?_
  simp only [specIn,Option.bind_some]
  by_cases h1 : 0 ≤ (intText s.data.toList).1 ∧ (intText s.data.toList).1 ≤ 999999999
  ·exact ev_pos (by simpa using h1) (ev_eq (Ev.now _) (by rw [if_pos ⟨h,h1⟩]))
  ·exact ev_neg (by simpa using h1) (ev_eq (Ev.now _) (by rw [if_neg (fun e => h1 e.2)]))
 ·exact ev_neg h (ev_eq (Ev.now _) (by rw [if_neg (fun e => h e.1)]))
theorem implWithin (a b c : Int) : impl_within.f a b c = some (decide (b ≤ a ∧ a ≤ c)) := by
 unfold impl_within.f
 by_cases h : b ≤ a
 ·rw [if_pos h];simp [h]
 ·rw [if_neg h];simp [h]
noncomputable def numOf (l : List UInt8) : Int × Bool := if (intText l).2 = true ∧ 0 ≤ (intText l).1 ∧ (intText l).1 ≤ 999999999 then ((intText l).1,true) else (0,false)
theorem specNum (s : ByteArray) : Ev (fun k => spec_Number.f k s) (numOf s.data.toList) := specNumber_f s
theorem implIntText_f (s : ByteArray) (hs : s.size ≤ 281474976710656) : impl_IntText.f s = some (intText s.data.toList) := by
 unfold impl_IntText.f
 rw [if_pos hs]
 have none_ : (∀ n : Int,Lib.atoiAll s.data.toList ≠ .ok n) → intText s.data.toList = (0,false) := fun h => intText_none fun n h0 h1 e => h n (by rw [← e];exact atoiAll_itoa h0 h1)
 cases hA : Lib.atoiAll s.data.toList with
 | ok v =>
  obtain ⟨h0,h1⟩ := Lib.atoiAll_bounds hA
  have hd : impl_Digits.f v = some (bs (Lib.itoa v)) := by
   unfold impl_Digits.f strconv_Itoa.f
   rw [if_pos ⟨h0,h1⟩]
   rfl
  simp only [hd,Option.bind_some]
  by_cases h : bs (Lib.itoa v) = s
  ·rw [if_pos h,← h,list_bs,intText_itoa h0 h1]
  ·rw [if_neg h]
   refine congrArg some (Eq.symm (intText_none fun n n0 n1 e => h ?_))
   have : v = n := by
    have a := atoiAll_itoa n0 n1
    rw [e,hA] at a
    injection a
   rw [this,e,bs_list]
 | range => exact congrArg some (none_ fun n e => by rw [hA] at e;cases e).symm
 | _ => exact congrArg some (none_ fun n e => by rw [hA] at e;cases e).symm
theorem implNum (s : ByteArray) (hs : s.size ≤ 281474976710656) : impl_Number.f s = some (numOf s.data.toList) := by
 unfold impl_Number.f numOf
 rw [implIntText_f s hs]
 simp only [Option.bind_some,implWithin]
 by_cases h : (intText s.data.toList).2 = true
 ·rw [if_pos h]
  by_cases g : 0 ≤ (intText s.data.toList).1 ∧ (intText s.data.toList).1 ≤ 999999999
  ·rw [if_pos (decide_eq_true g),if_pos ⟨h,g⟩]
  ·rw [if_neg (by rw [decide_eq_false g];simp),if_neg (fun z => g z.2)]
 ·rw [if_neg h,if_neg (fun z => h z.1)]
theorem numOf_true {l : List UInt8} (h : (numOf l).2 = true) : ∃ n : Int,0 ≤ n ∧ n ≤ 999999999 ∧ Lib.itoa n = l ∧ numOf l = (n,true) := by
 unfold numOf at h ⊢
 split at h
 ·rename_i c
  rcases intText_cases l with ⟨n,h0,h1,e,hi⟩ | ⟨_,hi⟩
  ·rw [hi] at c ⊢
   exact ⟨n,c.2.1,c.2.2,e,by rw [if_pos c]⟩
  ·rw [hi] at c
   cases c.1
 ·cases h
theorem numOf_itoa {n : Int} (h0 : 0 ≤ n) (h1 : n ≤ 999999999) : numOf (Lib.itoa n) = (n,true) := by
 unfold numOf
 rw [intText_itoa (by omega) (by omega),if_pos ⟨rfl,h0,h1⟩]
theorem numOf_mem {l : List UInt8} {c : UInt8} (h : (numOf l).2 = true) (hc : c ∈ l) : 48 ≤ c.toNat ∧ c.toNat ≤ 57 := by
 obtain ⟨n,h0,_,e,_⟩ := numOf_true h
 rw [← e,itoa_pos h0] at hc
 exact decDigits_digit hc
theorem numOf_nil : numOf [] = (0,false) := by
 cases h : (numOf []).2 with
 | true =>
  obtain ⟨n,h0,_,e,_⟩ := numOf_true h
  rw [itoa_pos h0] at e
  exact absurd e (decDigits_ne _)
 | false =>
  unfold numOf at h ⊢
  split at h
  ·cases h
  ·rename_i c
   rw [if_neg c]
def partsN (c : UInt8) : Nat → List UInt8 → List (List UInt8)
 | 0,l => [l]
 | n + 1,l => match (cutAt c l).2 with
  | none => [l]
  | some p => (cutAt c l).1 :: partsN c n p
theorem sep_list (c : UInt8) : (⟨#[c]⟩ : ByteArray).data.toList = [c] := rfl
theorem restParts_len (c : UInt8) : ∀ o,(restParts c o).length ≤ restLen o
 | none => Nat.zero_le _
 | some p => by
  show (partsL c p).length ≤ p.length + 1
  rw [partsL_cut,List.length_cons]
  have := restParts_len c (cutAt c p).2
  have := cutAt_length c p
  omega
termination_by o => restLen o
decreasing_by
 have := cutAt_length c p
 show restLen (cutAt c p).2 < p.length + 1
 omega
theorem partsL_len (c : UInt8) (l : List UInt8) : (partsL c l).length ≤ l.length + 1 := by
 rw [partsL_cut,List.length_cons]
 have := restParts_len c (cutAt c l).2
 have := cutAt_length c l
 omega
theorem partsN_all (c : UInt8) : ∀ (n : Nat) (l : List UInt8),(partsL c l).length ≤ n + 1 → partsN c n l = partsL c l
 | 0,l,h => by
  rw [partsL_cut] at h ⊢
  cases hc : (cutAt c l).2 with
  | none =>
   rw [(cutAt_none hc).2]
   rfl
  | some p =>
   rw [hc] at h
   have : partsL c p ≠ [] := partsL_ne c p
   simp only [restParts,List.length_cons] at h
   exact absurd (List.length_eq_zero_iff.1 (by omega)) this
 | n + 1,l,h => by
  rw [partsL_cut] at h ⊢
  unfold partsN
  cases hc : (cutAt c l).2 with
  | none =>
   rw [(cutAt_none hc).2]
   rfl
  | some p =>
   rw [hc] at h
   simp only [restParts,List.length_cons] at h ⊢
   rw [partsN_all c n p (by omega)]
theorem partsN_more (c : UInt8) : ∀ (n : Nat) (l : List UInt8),n + 1 < (partsL c l).length → (partsN c n l).length = n + 1
 | 0,_,_ => rfl
 | n + 1,l,h => by
  rw [partsL_cut] at h
  unfold partsN
  cases hc : (cutAt c l).2 with
  | none =>
   rw [hc] at h
   simp [restParts] at h
  | some p =>
   rw [hc] at h
   simp only [restParts,List.length_cons] at h ⊢
   rw [partsN_more c n p (by omega)]
theorem ext_after {c : UInt8} {l p : List UInt8} (h : (cutAt c l).2 = some p) : (bs l).extract ((cutAt c l).1.length + (⟨#[c]⟩ : ByteArray).size) (bs l).size = bs p := by
 have e := (cutAt_some h).2
 refine ba_ext ?_
 rw [ByteArray.data_extract,Array.toList_extract,List.extract_eq_take_drop,list_bs,list_bs]
 generalize (cutAt c l).1 = w at e
 subst e
 simp [bs_size,show (⟨#[c]⟩ : ByteArray).size = 1 from rfl]
 exact List.take_of_length_le (by omega)
theorem indexB_cut (c : UInt8) (l : List UInt8) : Lib.indexB (bs l) (⟨#[c]⟩ : ByteArray) = if (cutAt c l).2 = none then -1 else ((cutAt c l).1.length : Int) := by
 rw [← index_cutAt]
 rfl
theorem parts_count (c : UInt8) : ∀ (n : Nat) (l : List UInt8),l.length ≤ n → (partsL c l).length ≤ Lib.countB (bs l) (⟨#[c]⟩ : ByteArray) + 1
 | 0,l,hn => by
  obtain rfl := List.length_eq_zero_iff.1 (show l.length = 0 by omega)
  exact Nat.le_add_left 1 _
 | n + 1,l,hn => by
  rw [partsL_cut]
  cases h : (cutAt c l).2 with
  | none => exact Nat.le_add_left 1 _
  | some p =>
   have hi := indexB_cut c l
   rw [h,if_neg (by intro e;cases e)] at hi
   rw [Lib.countB_hit _ _ _ (Nat.le_refl _) hi,ext_after h]
   have := cutAt_length c l
   rw [h] at this
   simp only [restLen] at this
   have ih := parts_count c n p (by omega)
   simp only [restParts,List.length_cons]
   omega
theorem splitB_partsN (c : UInt8) : ∀ (n : Nat) (l : List UInt8),Lib.splitB (⟨#[c]⟩ : ByteArray) 0 n (bs l) = (partsN c n l).map bs
 | 0,_ => rfl
 | n + 1,l => by
  have hi := indexB_cut c l
  unfold partsN
  cases h : (cutAt c l).2 with
  | none =>
   rw [Lib.splitB_miss _ _ _ _ (by rw [hi,if_pos h])]
   rfl
  | some p =>
   rw [h,if_neg (by intro e;cases e)] at hi
   rw [Lib.splitB_hit _ _ _ _ _ hi,List.map_cons]
   have e := (cutAt_some h).2
   congr 1
   ·refine ba_ext ?_
    rw [ByteArray.data_extract,Array.toList_extract,List.extract_eq_take_drop,list_bs,list_bs]
    generalize (cutAt c l).1 = w at e
    subst e
    simp
   ·rw [← splitB_partsN c n p,ext_after h]
theorem implParts_f (s : ByteArray) (c : UInt8) (hs : s.size < 4294967281) : impl_Parts.f s (c.toNat : Int) = some ((partsL c s.data.toList).map bs) := by
 have hc : strOfNums [(c.toNat : Int)] = (⟨#[c]⟩ : ByteArray) := by
  have := strOfNums_nm [c]
  exact this
 unfold impl_Parts.f strings_Split.f
 rw [hc,if_pos ⟨hs,Nat.le_refl _⟩]
 simp only [Option.bind_some]
 refine congrArg some ?_
 have h := splitB_partsN c (Lib.countB s (⟨#[c]⟩ : ByteArray)) s.data.toList
 rw [bs_list] at h
 have hl := Lib.splitB_all (⟨#[c]⟩ : ByteArray) (Nat.le_refl _) 0 _ s rfl
 rw [h]
 rw [h,List.length_map] at hl
 by_cases g : (partsL c s.data.toList).length ≤ Lib.countB s (⟨#[c]⟩ : ByteArray) + 1
 ·rw [partsN_all c _ _ g]
 ·exfalso
  have := parts_count c _ s.data.toList (Nat.le_refl _)
  rw [bs_list] at this
  exact g this
def signOf (p : List UInt8) : Option Int := if p = [43] then some 1 else if p = [48] then some 0 else if p = [45] then some (-1) else none
def signsL : List (List UInt8) → Option (List Int)
 | [] => some []
 | p :: r => (signOf p).bind fun v => (signsL r).map (v :: ·)
def signsOf (l : List UInt8) : Option (List Int) := if (partsL 44 l).length ≤ 4 then signsL (partsL 44 l) else none
def signsEnd (acc : List Int) : Option (List Int) → List Int × Bool
 | some v => (acc ++ v,true)
 | none => ([],false)
theorem signsL_len : ∀ {r : List (List UInt8)} {v : List Int},signsL r = some v → v.length = r.length
 | [],v,h => by cases h;rfl
 | p :: r,v,h => by
  unfold signsL at h
  cases hp : signOf p with
  | none => rw [hp] at h;cases h
  | some x =>
   rw [hp] at h
   cases hr : signsL r with
   | none => rw [hr] at h;cases h
   | some y =>
    rw [hr] at h
    cases h
    rw [List.length_cons,List.length_cons,signsL_len hr]
theorem at_mid (pre r : List (List UInt8)) (p : List UInt8) : rdOf ByteArray.empty ((pre ++ p :: r).map bs) (pre.length : Int) = bs p := by
 unfold rdOf
 rw [Int.toNat_natCast]
 simp
theorem specSigns_l0 : ∀ (r pre : List (List UInt8)) (acc : List Int),acc.length = pre.length → pre.length + r.length ≤ 1000 → Ev (fun k => spec_l8Signs.l0 k acc ((pre ++ r).map bs) (pre.length : Int)) (signsEnd acc (signsL r)) := by
 intro r
 induction r with
 | nil =>
  intro pre acc ha hl
  refine ev_succ ?_
  simp only [spec_l8Signs.l0]
  refine ev_neg (by simp) (ev_eq (Ev.now _) ?_)
  show _ = (acc ++ [],true)
  rw [List.append_nil]
 | cons p r ih =>
  intro pre acc ha hl
  rw [List.length_cons] at hl
  have step : ∀ x : Int,Ev (fun k => spec_l8Signs.l0 k (acc ++ [x]) ((pre ++ p :: r).map bs) (wrap64 ((pre.length : Int) + 1))) (signsEnd (acc ++ [x]) (signsL r)) := by
   intro x
   have h := ih (pre ++ [p]) (acc ++ [x]) (by simp [ha]) (by simp;omega)
   rw [w64 (by omega) (by omega)]
   simpa using h
  have fin : ∀ x : Int,signOf p = some x → signsEnd (acc ++ [x]) (signsL r) = signsEnd acc (signsL (p :: r)) := by
   intro x hx
   rw [signsL,hx]
   cases signsL r with
   | none => rfl
   | some v => simp [signsEnd]
  refine ev_succ ?_
  simp only [spec_l8Signs.l0,at_mid,toList_bs]
  refine ev_pos (by simp;omega) (ev_pos (by omega) ?_)
  by_cases h1 : p = [43]
  ·exact ev_pos h1 (ev_pos (by omega) (ev_eq (step 1) (fin 1 (by unfold signOf;rw [if_pos h1]))))
  refine ev_neg h1 ?_
  by_cases h2 : p = [48]
  ·exact ev_pos h2 (ev_pos (by omega) (ev_eq (step 0) (fin 0 (by unfold signOf;rw [if_neg h1,if_pos h2]))))
  refine ev_neg h2 ?_
  by_cases h3 : p = [45]
  ·exact ev_pos h3 (ev_pos (by omega) (ev_eq (step (-1)) (fin (-1) (by unfold signOf;rw [if_neg h1,if_neg h2,if_pos h3]))))
  refine ev_neg h3 (ev_eq (Ev.now _) ?_)
  rw [signsL,show signOf p = none by unfold signOf;rw [if_neg h1,if_neg h2,if_neg h3]]
  rfl
theorem specSigns_f (s : ByteArray) (hs : s.size ≤ 1000000) : Ev (fun k => spec_l8Signs.f k s) (signsEnd [] (signsOf s.data.toList)) := by
 refine Ev.congr (fun k => by rw [spec_l8Signs.f,Option.bind_some]) ?_
 have hp := specParts_f s 44 (by omega)
 rw [show (((44 : UInt8).toNat : Nat) : Int) = 44 from rfl] at hp
 refine hp.bind ?_
 unfold signsOf
 by_cases h : (partsL 44 s.data.toList).length ≤ 4
 ·rw [if_pos h]
  refine ev_neg (by rw [List.length_map];omega) ?_
  have := specSigns_l0 (partsL 44 s.data.toList) [] [] rfl (by simp;omega)
  simpa using this
 ·rw [if_neg h]
  exact ev_pos (by rw [List.length_map];omega) (Ev.now _)
theorem index_signs {c : UInt8} (h1 : ¬ c = 45) (h2 : ¬ c = 48) (h3 : ¬ c = 43) : Lib.index [45,48,43] [c] = -1 := by
 have h1' : ¬ (45 : UInt8) = c := fun e => h1 e.symm
 have h2' : ¬ (48 : UInt8) = c := fun e => h2 e.symm
 have h3' : ¬ (43 : UInt8) = c := fun e => h3 e.symm
 rw [index_cutAt]
 simp [cutAt,h1',h2',h3']
theorem implSigns_l0 : ∀ (r pre : List (List UInt8)) (acc : List Int),acc.length = pre.length → pre.length + r.length ≤ 1000 → Ev (fun k => impl_readSigns.l0 k acc ((pre ++ r).map bs) (((pre ++ r).map bs).length : Int) (pre.length : Int)) (match signsL r with | some v => (acc ++ v,decide (((acc ++ v).length : Int) ≤ 4)) | none => ([],false)) := by
 intro r
 induction r with
 | nil =>
  intro pre acc ha hl
  refine ev_succ ?_
  simp only [impl_readSigns.l0]
  refine ev_neg (by simp) (ev_eq (Ev.now _) ?_)
  simp [signsL]
 | cons p r ih =>
  intro pre acc ha hl
  rw [List.length_cons] at hl
  have step : ∀ x : Int,signOf p = some x → Ev (fun k => impl_readSigns.l0 k (acc ++ [x]) ((pre ++ p :: r).map bs) (((pre ++ p :: r).map bs).length : Int) (wrap64 ((pre.length : Int) + 1))) (match signsL (p :: r) with | some v => (acc ++ v,decide (((acc ++ v).length : Int) ≤ 4)) | none => ([],false)) := by
   intro x hx
   have h := ih (pre ++ [p]) (acc ++ [x]) (by simp [ha]) (by simp;omega)
   rw [w64 (by omega) (by omega)]
   rw [signsL,hx]
   simp only [Option.bind_some]
   have e : (pre ++ [p]) ++ r = pre ++ p :: r := by simp
   rw [e,show ((pre ++ [p]).length : Int) = (pre.length : Int) + 1 by simp] at h
   refine ev_eq h ?_
   cases signsL r with
   | none => rfl
   | some v => simp
  refine ev_succ ?_
  simp only [impl_readSigns.l0,at_mid]
  refine ev_pos (by simp;omega) (ev_pos (by omega) (ev_pos (by simp;omega) ?_))
  have hix : strings_Index.f (⟨#[45,48,43]⟩ : ByteArray) (bs p) = some (Lib.index [45,48,43] p) := by
   unfold strings_Index.f
   rw [if_pos (by decide)]
   rfl
  rw [hix]
  simp only [Option.bind_some,bs_size]
  have bad : signOf p = none → Ev (fun _ : Nat => some (([] : List Int),false)) (match signsL (p :: r) with | some v => (acc ++ v,decide (((acc ++ v).length : Int) ≤ 4)) | none => ([],false)) := by
   intro hn
   rw [signsL,hn]
   exact Ev.now _
  by_cases hl1 : (p.length : Int) = 1
  ·refine ev_pos hl1 ?_
   obtain ⟨c,rfl⟩ := List.length_eq_one_iff.1 (show p.length = 1 by omega)
   by_cases h1 : c = 45
   ·subst h1
    rw [show Lib.index [45,48,43] [(45 : UInt8)] = 0 from rfl,w64 (x := 0 - 1) (by decide) (by decide),show (0 : Int) - 1 = (-1) from rfl]
    exact ev_neg (by decide) (ev_pos (by omega) (step (-1) (by decide)))
   by_cases h2 : c = 48
   ·subst h2
    rw [show Lib.index [45,48,43] [(48 : UInt8)] = 1 from rfl,w64 (x := 1 - 1) (by decide) (by decide),show (1 : Int) - 1 = 0 from rfl]
    exact ev_neg (by decide) (ev_pos (by omega) (step 0 (by decide)))
   by_cases h3 : c = 43
   ·subst h3
    rw [show Lib.index [45,48,43] [(43 : UInt8)] = 2 from rfl,w64 (x := 2 - 1) (by decide) (by decide),show (2 : Int) - 1 = 1 from rfl]
    exact ev_neg (by decide) (ev_pos (by omega) (step 1 (by decide)))
   ·rw [index_signs h1 h2 h3,w64 (x := -1 - 1) (by decide) (by decide)]
    refine ev_pos (by decide) (bad ?_)
    unfold signOf
    rw [if_neg (fun e => h3 (List.cons.inj e).1),if_neg (fun e => h2 (List.cons.inj e).1),if_neg (fun e => h1 (List.cons.inj e).1)]
  ·refine ev_neg hl1 (bad ?_)
   unfold signOf
   rw [if_neg (fun e => hl1 (by rw [e];rfl)),if_neg (fun e => hl1 (by rw [e];rfl)),if_neg (fun e => hl1 (by rw [e];rfl))]
theorem implSigns_f (s : ByteArray) (hs : s.size ≤ 1000000) : ∃ X : List Int × Bool,Ev (fun k => impl_readSigns.f k s) X ∧ (match signsOf s.data.toList with | some v => X = (v,true) | none => X.2 = false) := by
 have hw := splitB_partsN 44 (min (5 : Int).toNat (s.size + 1) - 1) s.data.toList
 rw [bs_list] at hw
 have hN : strings_SplitN.f s (⟨#[44]⟩ : ByteArray) 5 = some ((partsN 44 (min (5 : Int).toNat (s.size + 1) - 1) s.data.toList).map bs) := by
  unfold strings_SplitN.f
  rw [if_pos ⟨by omega,Nat.le_refl _,by decide,by decide⟩,hw]
 have hl : s.data.toList.length = s.size := data_length ..
 have hlen := partsL_len 44 s.data.toList
 obtain ⟨N,eN⟩ : ∃ N,min (5 : Int).toNat (s.size + 1) - 1 = N := ⟨_,rfl⟩
 rw [eN] at hN
 have h5 : min 5 (s.size + 1) - 1 = N := eN
 clear hw eN
 generalize hL : s.data.toList = l at hN hl hlen
 have hb : (partsN 44 N l).length ≤ 5 := by
  by_cases h : (partsL 44 l).length ≤ N + 1
  ·rw [partsN_all 44 _ _ h]
   omega
  ·rw [partsN_more 44 _ _ (by omega)]
   omega
 have run := implSigns_l0 (partsN 44 N l) [] [] rfl (by simp;omega)
 refine ⟨_,Ev.congr (fun k => by rw [impl_readSigns.f,hN,Option.bind_some]) (by simpa using run),?_⟩
 unfold signsOf
 by_cases h : (partsL 44 l).length ≤ 4
 ·rw [if_pos h,partsN_all 44 _ _ (by omega)]
  cases hs : signsL (partsL 44 l) with
  | none => rfl
  | some v =>
   have := signsL_len hs
   dsimp only
   rw [decide_eq_true (by omega)]
 ·rw [if_neg h]
  have hm : (partsN 44 N l).length = 5 := by
   by_cases g : (partsL 44 l).length ≤ N + 1
   ·rw [partsN_all 44 _ _ g];omega
   ·rw [partsN_more 44 _ _ (by omega)];omega
  cases hs : signsL (partsN 44 N l) with
  | none => rfl
  | some v =>
   have := signsL_len hs
   exact decide_eq_false (by omega)
noncomputable def rateOf (l : List UInt8) : Int × Int × Int := match (cutAt 47 l).2 with
 | none => (12,0,0)
 | some p => if (numOf (cutAt 47 l).1).2 = true ∧ (numOf p).2 = true then (if (1 ≤ (numOf p).1 ∧ (numOf p).1 ≤ 1000) ∧ 1 ≤ (numOf (cutAt 47 l).1).1 ∧ (numOf (cutAt 47 l).1).1 ≤ (numOf p).1 then (0,(numOf (cutAt 47 l).1).1,(numOf p).1) else (13,0,0)) else (12,0,0)
theorem numOf_slash {p : List UInt8} (h : 47 ∈ p) : ¬ (numOf p).2 = true := fun e => by
 have := numOf_mem e h
 exact absurd this.1 (by decide)
theorem specRate_f (s : ByteArray) (hs : s.size ≤ 1000000) : Ev (fun k => spec_l8Rate.f k s) ((rateOf s.data.toList).2.1,(rateOf s.data.toList).2.2,(rateOf s.data.toList).1) := by
 refine Ev.congr (fun k => by rw [spec_l8Rate.f]) ?_
 have hp := specParts_f s 47 (by omega)
 rw [show (((47 : UInt8).toNat : Nat) : Int) = 47 from rfl] at hp
 rw [partsL_cut] at hp
 unfold rateOf
 cases hc : (cutAt 47 s.data.toList).2 with
 | none =>
  rw [hc] at hp
  exact hp.bind (ev_neg (by simp [restParts]) (Ev.now _))
 | some p =>
  rw [hc] at hp
  generalize (cutAt 47 s.data.toList).1 = w at hp
  simp only [restParts] at hp
  by_cases h2 : 47 ∈ p
  ·have hn := numOf_slash h2
   dsimp only
   rw [if_neg (fun z => hn z.2)]
   refine hp.bind (ev_neg ?_ (Ev.now _))
   rw [partsL_cut]
   cases hc2 : (cutAt 47 p).2 with
   | none => exact absurd h2 (cutAt_none hc2).1
   | some q =>
    have := partsL_ne 47 q
    cases hq : partsL 47 q with
    | nil => exact absurd hq this
    | cons a b =>
     simp [restParts,hq]
     omega
  ·have hq : partsL 47 p = [p] := by
    rw [partsL_cut,cutAt_not_mem h2]
    rfl
   rw [hq] at hp
   dsimp only
   refine hp.bind ?_
   have e0 : rdOf ByteArray.empty (List.map bs [w,p]) 0 = bs w := rfl
   have e1 : rdOf ByteArray.empty (List.map bs [w,p]) 1 = bs p := rfl
   have n0 := specNum (bs w)
   have n1 := specNum (bs p)
   rw [list_bs] at n0 n1
   refine ev_pos (by simp) (ev_pos (by simp) ?_)
   rw [e0,e1]
   refine n0.bind (ev_pos (by simp) (n1.bind ?_))
   by_cases g0 : (numOf w).2 = true
   ·refine ev_pos g0 (ev_succ ?_)
    simp only [spec_l8Rate.j0]
    by_cases g1 : (numOf p).2 = true
    ·refine ev_neg (by rw [g1];simp) ((ev_of (specIn _ _ _)).bind ?_)
     by_cases a : 1 ≤ (numOf w).1 ∧ (numOf w).1 ≤ 1000
     ·refine ev_pos (decide_eq_true a) ((ev_of (specIn _ _ _)).bind ?_)
      by_cases b : 1 ≤ (numOf p).1 ∧ (numOf p).1 ≤ 1000
      ·refine ev_pos (decide_eq_true b) ?_
       by_cases c : (numOf w).1 > (numOf p).1
       ·exact ev_pos c (ev_eq (Ev.now _) (by rw [if_pos ⟨g0,g1⟩,if_neg (fun z => by omega)]))
       ·exact ev_neg c (ev_eq (Ev.now _) (by rw [if_pos ⟨g0,g1⟩,if_pos ⟨b,a.1,by omega⟩]))
      ·exact ev_neg (by rw [decide_eq_false b];simp) (ev_eq (Ev.now _) (by rw [if_pos ⟨g0,g1⟩,if_neg (fun z => b z.1)]))
     ·exact ev_neg (by rw [decide_eq_false a];simp) (ev_eq (Ev.now _) (by rw [if_pos ⟨g0,g1⟩,if_neg (fun z => a ⟨z.2.1,by omega⟩)]))
    ·exact ev_pos (by rw [Bool.eq_false_iff.mpr g1];rfl) (ev_eq (Ev.now _) (by rw [if_neg (fun z => g1 z.2)]))
   ·refine ev_neg g0 (ev_succ ?_)
    simp only [spec_l8Rate.j0]
    exact ev_pos trivial (ev_eq (Ev.now _) (by rw [if_neg (fun z => g0 z.1)]))
abbrev Cfg := Int × Int × Int × Int × Int × Int × Int × List Int
def cfgW : List (List UInt8) := [[114,111,117,110,100,115],[100,101,112,116,104],[98,105,110,115],[108,97,109,98,100,97],[114,111,119,115],[114,97,116,101],[115,105,103,110,115]]
def wix (l : List UInt8) : Nat := if l = [114,111,117,110,100,115] then 0 else if l = [100,101,112,116,104] then 1 else if l = [98,105,110,115] then 2 else if l = [108,97,109,98,100,97] then 3 else if l = [114,111,119,115] then 4 else if l = [114,97,116,101] then 5 else if l = [115,105,103,110,115] then 6 else 7
def cfgLo (i : Nat) : Int := if i = 1 then 0 else if i = 2 then 2 else 1
def cfgHi (i : Nat) : Int := if i = 0 then 8 else if i = 1 then 4 else if i = 2 then 8 else if i = 3 then 100 else 20
def cfgPut (c : Cfg) (i : Nat) (n : Int) : Cfg := (if i = 0 then n else c.1,if i = 1 then n else c.2.1,if i = 2 then n else c.2.2.1,if i = 3 then n else c.2.2.2.1,if i = 4 then n else c.2.2.2.2.1,c.2.2.2.2.2.1,c.2.2.2.2.2.2.1,c.2.2.2.2.2.2.2)
noncomputable def layC (c : Cfg) (i : Nat) (v : List UInt8) : Int × Cfg :=
 if i = 6 then (match signsOf v with
  | some l => (0,c.1,c.2.1,c.2.2.1,c.2.2.2.1,c.2.2.2.2.1,c.2.2.2.2.2.1,c.2.2.2.2.2.2.1,l)
  | none => (14,c))
 else if i = 5 then (if (rateOf v).1 = 0 then (0,c.1,c.2.1,c.2.2.1,c.2.2.2.1,c.2.2.2.2.1,(rateOf v).2.1,(rateOf v).2.2,c.2.2.2.2.2.2.2) else ((rateOf v).1,c))
 else if (numOf v).2 = true then (if cfgLo i ≤ (numOf v).1 ∧ (numOf v).1 ≤ cfgHi i then (0,cfgPut c i (numOf v).1) else (13,c)) else (12,c)
theorem specLay_j0 (c : Cfg) (i : Nat) (n : Int) (hi : i < 5) : Ev (fun k => spec_l8Lay.j0 k (i : Int) n c.1 c.2.1 c.2.2.1 c.2.2.2.1 c.2.2.2.2.1 c.2.2.2.2.2.1 c.2.2.2.2.2.2.1 c.2.2.2.2.2.2.2) (c.1,c.2.1,c.2.2.1,c.2.2.2.1,c.2.2.2.2.1,c.2.2.2.2.2.1,c.2.2.2.2.2.2.1,c.2.2.2.2.2.2.2,if cfgLo i ≤ n ∧ n ≤ cfgHi i then 0 else 13) := by
 refine ev_succ ?_
 simp only [spec_l8Lay.j0,spec_l8Least.f,spec_l8Most.f,Option.bind_some]
 have e1 : rd [1,0,2,1,1] (i : Int) = cfgLo i := by
  rcases (show i = 0 ∨ i = 1 ∨ i = 2 ∨ i = 3 ∨ i = 4 by omega) with rfl | rfl | rfl | rfl | rfl <;> rfl
 have e2 : rd [8,4,8,100,20] (i : Int) = cfgHi i := by
  rcases (show i = 0 ∨ i = 1 ∨ i = 2 ∨ i = 3 ∨ i = 4 by omega) with rfl | rfl | rfl | rfl | rfl <;> rfl
 rw [e1,e2]
 refine ev_pos (by omega) (ev_pos (by simp;omega) (ev_pos (by simp;omega) ((ev_of (specIn _ _ _)).bind ?_)))
 by_cases h : cfgLo i ≤ n ∧ n ≤ cfgHi i
 ·rw [if_pos h]
  exact ev_pos (decide_eq_true h) (Ev.now _)
 ·rw [if_neg h]
  exact ev_neg (by rw [decide_eq_false h];simp) (Ev.now _)
theorem specLay_f (c : Cfg) (i : Nat) (s : ByteArray) (hi : i < 7) (hs : s.size ≤ 1000000) : ∃ c' : Cfg,Ev (fun k => spec_l8Lay.f k c.1 c.2.1 c.2.2.1 c.2.2.2.1 c.2.2.2.2.1 c.2.2.2.2.2.1 c.2.2.2.2.2.2.1 c.2.2.2.2.2.2.2 (i : Int) s) (c'.1,c'.2.1,c'.2.2.1,c'.2.2.2.1,c'.2.2.2.2.1,c'.2.2.2.2.2.1,c'.2.2.2.2.2.2.1,c'.2.2.2.2.2.2.2,(layC c i s.data.toList).1) ∧ ((layC c i s.data.toList).1 = 0 → c' = (layC c i s.data.toList).2) := by
 unfold layC
 by_cases h6 : i = 6
 ·subst h6
  rw [if_pos rfl]
  have hg := specSigns_f s hs
  cases hS : signsOf s.data.toList with
  | some l =>
   rw [hS] at hg
   refine ⟨(c.1,c.2.1,c.2.2.1,c.2.2.2.1,c.2.2.2.2.1,c.2.2.2.2.2.1,c.2.2.2.2.2.2.1,l),?_,fun _ => rfl⟩
   unfold spec_l8Lay.f
   exact ev_pos rfl (hg.bind (ev_pos rfl (Ev.now _)))
  | none =>
   rw [hS] at hg
   refine ⟨(c.1,c.2.1,c.2.2.1,c.2.2.2.1,c.2.2.2.2.1,c.2.2.2.2.2.1,c.2.2.2.2.2.2.1,[]),?_,fun h => by cases h⟩
   unfold spec_l8Lay.f
   exact ev_pos rfl (hg.bind (ev_neg (by simp [signsEnd]) (Ev.now _)))
 rw [if_neg h6]
 by_cases h5 : i = 5
 ·subst h5
  rw [if_pos rfl]
  have hg := specRate_f s hs
  refine ⟨(c.1,c.2.1,c.2.2.1,c.2.2.2.1,c.2.2.2.2.1,(rateOf s.data.toList).2.1,(rateOf s.data.toList).2.2,c.2.2.2.2.2.2.2),?_,fun h => ?_⟩
  ·unfold spec_l8Lay.f
   refine ev_neg (by decide) (ev_pos rfl (hg.bind ?_))
   by_cases hr : (rateOf s.data.toList).1 = 0
   ·rw [if_pos hr,hr];exact Ev.now _
   ·rw [if_neg hr];exact Ev.now _
  ·by_cases hr : (rateOf s.data.toList).1 = 0
   ·rw [if_pos hr]
   ·rw [if_neg hr] at h;exact absurd h hr
 rw [if_neg h5]
 have hn := specNum s
 by_cases g : (numOf s.data.toList).2 = true
 ·rw [if_pos g]
  have step : ∃ c' : Cfg,c' = cfgPut c i (numOf s.data.toList).1 := ⟨_,rfl⟩
  obtain ⟨c',ec⟩ := step
  have hj := specLay_j0 c' i (numOf s.data.toList).1 (by omega)
  refine ⟨c',?_,fun h => ?_⟩
  ·unfold spec_l8Lay.f
   refine ev_neg (by omega) (ev_neg (by omega) (hn.bind (ev_pos g ?_)))
   have fin : (if cfgLo i ≤ (numOf s.data.toList).1 ∧ (numOf s.data.toList).1 ≤ cfgHi i then ((0 : Int),cfgPut c i (numOf s.data.toList).1) else (13,c)).1 = if cfgLo i ≤ (numOf s.data.toList).1 ∧ (numOf s.data.toList).1 ≤ cfgHi i then 0 else 13 := by split <;> rfl
   rw [fin]
   rw [ec] at hj ⊢
   rcases (show i = 0 ∨ i = 1 ∨ i = 2 ∨ i = 3 ∨ i = 4 by omega) with rfl | rfl | rfl | rfl | rfl
   ·exact ev_pos rfl hj
   ·exact ev_neg (by decide) (ev_pos rfl hj)
   ·exact ev_neg (by decide) (ev_neg (by decide) (ev_pos rfl hj))
   ·exact ev_neg (by decide) (ev_neg (by decide) (ev_neg (by decide) (ev_pos rfl hj)))
   ·exact ev_neg (by decide) (ev_neg (by decide) (ev_neg (by decide) (ev_neg (by decide) hj)))
  ·by_cases r : cfgLo i ≤ (numOf s.data.toList).1 ∧ (numOf s.data.toList).1 ≤ cfgHi i
   ·rw [if_pos r];exact ec
   ·rw [if_neg r] at h;cases h
 ·rw [if_neg g]
  refine ⟨c,?_,fun h => by cases h⟩
  unfold spec_l8Lay.f
  exact ev_neg (by omega) (ev_neg (by omega) (hn.bind (ev_neg g (Ev.now _))))
theorem layC_rate (c : Cfg) (v : List UInt8) (z : Int × Int × Int) (h : rateOf v = z) : layC c 5 v = if z.1 = 0 then (0,c.1,c.2.1,c.2.2.1,c.2.2.2.1,c.2.2.2.2.1,z.2.1,z.2.2,c.2.2.2.2.2.2.2) else (z.1,c) := by
 unfold layC
 rw [if_neg (by decide),if_pos rfl,h]
theorem implSet_f (c : Cfg) (key v : ByteArray) (hk : wix key.data.toList < 7) (hs : v.size ≤ 1000000) : ∃ c' : Cfg,Ev (fun k => impl_Config_set.f k c.1 c.2.1 c.2.2.1 c.2.2.2.1 c.2.2.2.2.1 c.2.2.2.2.2.1 c.2.2.2.2.2.2.1 c.2.2.2.2.2.2.2 key v) ((layC c (wix key.data.toList) v.data.toList).1,c') ∧ ((layC c (wix key.data.toList) v.data.toList).1 = 0 → c' = (layC c (wix key.data.toList) v.data.toList).2) := by
 unfold impl_Config_set.f impl_Config_set.place
 rw [ByteArray.toList_eq]
 generalize key.data.toList = l at hk
 by_cases h6 : l = [115,105,103,110,115]
 ·subst h6
  have e : wix [115,105,103,110,115] = 6 := by decide
  rw [e]
  unfold layC
  rw [if_pos rfl]
  obtain ⟨X,hX,hm⟩ := implSigns_f v hs
  cases hS : signsOf v.data.toList with
  | some y =>
   rw [hS] at hm
   subst hm
   exact ⟨_,ev_pos rfl (hX.bind (ev_pos rfl (Ev.now _))),fun _ => rfl⟩
  | none =>
   rw [hS] at hm
   refine ⟨_,ev_pos rfl (hX.bind (ev_neg (by rw [hm];simp) (Ev.now (14,c)))),fun h => by cases h⟩
 by_cases h5 : l = [114,97,116,101]
 ·subst h5
  have e : wix [114,97,116,101] = 5 := by decide
  rw [e]
  have hcut : strings_Cut.f v (⟨#[47]⟩ : ByteArray) = some (bs (cutAt 47 v.data.toList).1,bs ((cutAt 47 v.data.toList).2.getD []),(cutAt 47 v.data.toList).2.isSome) := by
   unfold strings_Cut.f
   rw [if_pos (by omega),sep_list,cut_cutAt]
   rfl
  have hlen := cutAt_length 47 v.data.toList
  have hl : v.data.toList.length = v.size := data_length ..
  have n1 := implNum (bs (cutAt 47 v.data.toList).1) (by rw [bs_size];omega)
  rw [list_bs] at n1
  have base : ∀ x,Ev (fun k : Nat => some (x,c)) ((x : Int),c) := fun x => Ev.now _
  cases hc : (cutAt 47 v.data.toList).2 with
  | none =>
   rw [hc] at hcut
   have n2 := implNum (bs []) (by decide)
   rw [list_bs,numOf_nil] at n2
   have fin : ∀ b,Ev (fun k => if (b : Bool) = true then (if false = true then (impl_within.f 0 1 1000).bind fun b => (if b = true then (impl_within.f (numOf (cutAt 47 v.data.toList).1).1 1 0).bind fun c_1 => (if c_1 = true then some ((0 : Int),c.1,c.2.1,c.2.2.1,c.2.2.2.1,c.2.2.2.2.1,(numOf (cutAt 47 v.data.toList).1).1,(0 : Int),c.2.2.2.2.2.2.2) else some (13,c)) else some (13,c)) else some (12,c)) else some (12,c)) ((12 : Int),c) := by
    intro b
    cases b with
    | true => exact ev_pos rfl (ev_neg (by simp) (Ev.now _))
    | false => exact ev_neg (by simp) (Ev.now _)
   have hL : layC c 5 v.data.toList = (12,c) := (layC_rate c _ (12,0,0) (by unfold rateOf;rw [hc])).trans (if_neg (by decide))
   rw [hL]
   refine ⟨c,ev_neg h6 (ev_pos rfl ((ev_of hcut).bind ((ev_of n1).bind ((ev_of n2).bind ?_)))),fun h => by cases h⟩
   exact fin _
  | some p =>
   rw [hc] at hcut hlen
   simp only [restLen] at hlen
   have n2 := implNum (bs p) (by rw [bs_size];omega)
   rw [list_bs] at n2
   have hR : rateOf v.data.toList = if (numOf (cutAt 47 v.data.toList).1).2 = true ∧ (numOf p).2 = true then (if (1 ≤ (numOf p).1 ∧ (numOf p).1 ≤ 1000) ∧ 1 ≤ (numOf (cutAt 47 v.data.toList).1).1 ∧ (numOf (cutAt 47 v.data.toList).1).1 ≤ (numOf p).1 then (0,(numOf (cutAt 47 v.data.toList).1).1,(numOf p).1) else (13,0,0)) else (12,0,0) := by unfold rateOf;rw [hc]
   generalize (cutAt 47 v.data.toList).1 = q at hcut hlen n1 hR
   by_cases g0 : (numOf q).2 = true
   ·by_cases g1 : (numOf p).2 = true
    ·rw [if_pos ⟨g0,g1⟩] at hR
     by_cases b : 1 ≤ (numOf p).1 ∧ (numOf p).1 ≤ 1000
     ·by_cases a : 1 ≤ (numOf q).1 ∧ (numOf q).1 ≤ (numOf p).1
      ·rw [if_pos ⟨b,a⟩] at hR
       rw [layC_rate c _ _ hR]
       refine ⟨_,ev_neg h6 (ev_pos rfl ((ev_of hcut).bind ((ev_of n1).bind ((ev_of n2).bind (ev_pos g0 (ev_pos g1 ((ev_of (implWithin _ _ _)).bind (ev_pos (decide_eq_true b) ((ev_of (implWithin _ _ _)).bind (ev_pos (decide_eq_true a) (Ev.now _))))))))))),fun _ => rfl⟩
      ·rw [if_neg (fun z => a z.2)] at hR
       rw [(layC_rate c _ _ hR).trans (if_neg (by decide))]
       exact ⟨c,ev_neg h6 (ev_pos rfl ((ev_of hcut).bind ((ev_of n1).bind ((ev_of n2).bind (ev_pos g0 (ev_pos g1 ((ev_of (implWithin _ _ _)).bind (ev_pos (decide_eq_true b) ((ev_of (implWithin _ _ _)).bind (ev_neg (by rw [decide_eq_false a];simp) (Ev.now _))))))))))),fun h => by cases h⟩
     ·rw [if_neg (fun z => b z.1)] at hR
      rw [(layC_rate c _ _ hR).trans (if_neg (by decide))]
      exact ⟨c,ev_neg h6 (ev_pos rfl ((ev_of hcut).bind ((ev_of n1).bind ((ev_of n2).bind (ev_pos g0 (ev_pos g1 ((ev_of (implWithin _ _ _)).bind (ev_neg (by rw [decide_eq_false b];simp) (Ev.now _))))))))),fun h => by cases h⟩
    ·rw [if_neg (fun z => g1 z.2)] at hR
     rw [(layC_rate c _ _ hR).trans (if_neg (by decide))]
     exact ⟨c,ev_neg h6 (ev_pos rfl ((ev_of hcut).bind ((ev_of n1).bind ((ev_of n2).bind (ev_pos g0 (ev_neg g1 (Ev.now _))))))),fun h => by cases h⟩
   ·rw [if_neg (fun z => g0 z.1)] at hR
    rw [(layC_rate c _ _ hR).trans (if_neg (by decide))]
    exact ⟨c,ev_neg h6 (ev_pos rfl ((ev_of hcut).bind ((ev_of n1).bind ((ev_of n2).bind (ev_neg g0 (Ev.now _)))))),fun h => by cases h⟩
 have hp : wix l < 5 ∧ (if l = [114,111,117,110,100,115] then (0,1,8) else if l = [100,101,112,116,104] then (1,0,4) else if l = [98,105,110,115] then (2,2,8) else if l = [108,97,109,98,100,97] then (3,1,100) else (4,1,20) : Nat × Int × Int) = (wix l,cfgLo (wix l),cfgHi (wix l)) := by
  unfold wix at hk ⊢
  by_cases a0 : l = [114,111,117,110,100,115]
  ·rw [if_pos a0,if_pos a0];exact ⟨by decide,rfl⟩
  by_cases a1 : l = [100,101,112,116,104]
  ·rw [if_neg a0,if_pos a1,if_neg a0,if_pos a1];exact ⟨by decide,rfl⟩
  by_cases a2 : l = [98,105,110,115]
  ·rw [if_neg a0,if_neg a1,if_pos a2,if_neg a0,if_neg a1,if_pos a2];exact ⟨by decide,rfl⟩
  by_cases a3 : l = [108,97,109,98,100,97]
  ·rw [if_neg a0,if_neg a1,if_neg a2,if_pos a3,if_neg a0,if_neg a1,if_neg a2,if_pos a3];exact ⟨by decide,rfl⟩
  by_cases a4 : l = [114,111,119,115]
  ·rw [if_neg a0,if_neg a1,if_neg a2,if_neg a3,if_pos a4,if_neg a0,if_neg a1,if_neg a2,if_neg a3];exact ⟨by decide,rfl⟩
  ·rw [if_neg a0,if_neg a1,if_neg a2,if_neg a3,if_neg a4,if_neg h5,if_neg h6] at hk
   omega
 obtain ⟨hi,hp⟩ := hp
 rw [hp]
 generalize wix l = i at hi
 have hL : layC c i v.data.toList = if (numOf v.data.toList).2 = true then (if cfgLo i ≤ (numOf v.data.toList).1 ∧ (numOf v.data.toList).1 ≤ cfgHi i then (0,cfgPut c i (numOf v.data.toList).1) else (13,c)) else (12,c) := by
  unfold layC
  rw [if_neg (by omega),if_neg (by omega)]
 rw [hL]
 clear hL
 have hn := implNum v (by omega)
 by_cases g : (numOf v.data.toList).2 = true
 ·rw [if_pos g]
  by_cases r : cfgLo i ≤ (numOf v.data.toList).1 ∧ (numOf v.data.toList).1 ≤ cfgHi i
  ·rw [if_pos r]
   exact ⟨_,ev_neg h6 (ev_neg h5 ((ev_of hn).bind (ev_pos g ((ev_of (implWithin _ _ _)).bind (ev_pos (decide_eq_true r) (Ev.now _)))))),fun _ => rfl⟩
  ·rw [if_neg r]
   exact ⟨c,ev_neg h6 (ev_neg h5 ((ev_of hn).bind (ev_pos g ((ev_of (implWithin _ _ _)).bind (ev_neg (by rw [decide_eq_false r];simp) (Ev.now _)))))),fun h => by cases h⟩
 ·rw [if_neg g]
  exact ⟨c,ev_neg h6 (ev_neg h5 ((ev_of hn).bind (ev_neg g (Ev.now _)))),fun h => by cases h⟩
def SameR {α : Type} (z : α) (R : α → α → Prop) (l m : List α) : Prop := l.length = m.length ∧ ∀ j : Nat,0 ≤ j → j < l.length → R (l.getD j z) (m.getD j z)
theorem same_ev {α : Type} (z : α) (R : α → α → Prop) (l m : List α) (h0 : l.length = m.length) (F : Nat → Int → Option Bool) (hend : Ev (fun k => F k (l.length : Int)) true)
  (hyes : ∀ (n : Nat) (r : Bool),n < l.length → R (l.getD n z) (m.getD n z) → Ev (fun k => F k ((n + 1 : Nat) : Int)) r → Ev (fun k => F k (n : Int)) r)
  (hno : ∀ n : Nat,n < l.length → ¬ R (l.getD n z) (m.getD n z) → Ev (fun k => F k (n : Int)) false) : Ev (fun k => F k 0) (dec (SameR z R l m)) :=
 ev_eq (all_loop F l.length (fun j => R (l.getD j z) (m.getD j z)) hend hyes hno l.length 0 (by omega)) (dec_congr ⟨fun h => ⟨h0,h⟩,fun h => h.2⟩)
theorem rdn (xs : List Int) (n : Nat) : rd xs (n : Int) = xs.getD n 0 := rfl
def sAt (l : List ByteArray) (j : Nat) : ByteArray := rdOf ByteArray.empty l (j : Int)
def HasP (l : List ByteArray) (n : Nat) (s : ByteArray) : Prop := ∃ j,j < n ∧ (sAt l j).toList = s.toList
def mkR (c : Cfg) (a b d : Int) : Int × Int × Int × Int × Int × Int × Int × List Int × Int × Int × Int := (c.1,c.2.1,c.2.2.1,c.2.2.2.1,c.2.2.2.2.1,c.2.2.2.2.2.1,c.2.2.2.2.2.2.1,c.2.2.2.2.2.2.2,a,b,d)
def zeroC : Cfg := (0,0,0,0,0,0,0,[])
noncomputable def lineC (c : Cfg) (met : Nat → Bool) (l : List UInt8) : Int × Cfg × Nat := match (cutAt 61 l).2 with
 | none => (10,c,0)
 | some v => if wix (cutAt 61 l).1 = 7 then (11,c,0) else if met (wix (cutAt 61 l).1) = true then (6,c,0) else ((layC c (wix (cutAt 61 l).1) v).1,(layC c (wix (cutAt 61 l).1) v).2,wix (cutAt 61 l).1)
noncomputable def runC : List (List UInt8) → Nat → Cfg → (Nat → Bool) → Int × Int × Int × Int × Int × Int × Int × List Int × Int × Int × Int
 | [],_,c,_ => mkR c 0 0 0
 | l :: r,i,c,met => if l = [] then runC r (i + 1) c met else if (lineC c met l).1 = 0 then runC r (i + 1) (lineC c met l).2.1 (fun j => met j || decide (j = (lineC c met l).2.2)) else mkR zeroC (lineC c met l).1 (i : Int) 0
noncomputable def readConfig (s : ByteArray) : Int × Int × Int × Int × Int × Int × Int × List Int × Int × Int × Int := if s.size > 4000 then mkR zeroC 1 0 0 else runC (partsL 10 s.data.toList) 0 (4,2,4,1,1,1,1,[]) (fun _ => false)
theorem wix_at {n : Nat} (h : n < 7) : wix (cfgW.getD n []) = n := by
 rcases (show n = 0 ∨ n = 1 ∨ n = 2 ∨ n = 3 ∨ n = 4 ∨ n = 5 ∨ n = 6 by omega) with rfl | rfl | rfl | rfl | rfl | rfl | rfl <;> decide
theorem wix_word (l : List UInt8) : wix l = 7 ∨ (wix l < 7 ∧ cfgW.getD (wix l) [] = l) := by
 by_cases a0 : l = [114,111,117,110,100,115]
 ·subst a0;exact .inr (by decide)
 by_cases a1 : l = [100,101,112,116,104]
 ·subst a1;exact .inr (by decide)
 by_cases a2 : l = [98,105,110,115]
 ·subst a2;exact .inr (by decide)
 by_cases a3 : l = [108,97,109,98,100,97]
 ·subst a3;exact .inr (by decide)
 by_cases a4 : l = [114,111,119,115]
 ·subst a4;exact .inr (by decide)
 by_cases a5 : l = [114,97,116,101]
 ·subst a5;exact .inr (by decide)
 by_cases a6 : l = [115,105,103,110,115]
 ·subst a6;exact .inr (by decide)
 ·refine .inl ?_
  unfold wix
  rw [if_neg a0,if_neg a1,if_neg a2,if_neg a3,if_neg a4,if_neg a5,if_neg a6]
theorem wix_inj {a b : List UInt8} (ha : wix a < 7) (h : wix a = wix b) : a = b := by
 rcases wix_word a with g | ⟨_,g⟩
 ·omega
 rcases wix_word b with k | ⟨_,k⟩
 ·omega
 rw [← g,h,k]
theorem toList_inj {a b : ByteArray} (h : a.toList = b.toList) : a = b := by
 rw [ByteArray.toList_eq,ByteArray.toList_eq] at h
 exact ba_ext h
theorem hasP_mem (l : List ByteArray) (s : ByteArray) : HasP l l.length s ↔ s ∈ l := by
 constructor
 ·rintro ⟨j,hj,h⟩
  have e := toList_inj h
  rw [← e]
  have : sAt l j = l[j] := by
   unfold sAt rdOf
   rw [Int.toNat_natCast,List.getD_eq_getElem?_getD,List.getElem?_eq_getElem hj]
   rfl
  rw [this]
  exact List.getElem_mem hj
 ·intro h
  obtain ⟨j,hj,e⟩ := List.getElem_of_mem h
  refine ⟨j,hj,?_⟩
  have : sAt l j = l[j] := by
   unfold sAt rdOf
   rw [Int.toNat_natCast,List.getD_eq_getElem?_getD,List.getElem?_eq_getElem hj]
   rfl
  rw [this,e]
abbrev wordsB : List ByteArray := [(⟨#[114,111,117,110,100,115]⟩ : ByteArray),(⟨#[100,101,112,116,104]⟩ : ByteArray),(⟨#[98,105,110,115]⟩ : ByteArray),(⟨#[108,97,109,98,100,97]⟩ : ByteArray),(⟨#[114,111,119,115]⟩ : ByteArray),(⟨#[114,97,116,101]⟩ : ByteArray),(⟨#[115,105,103,110,115]⟩ : ByteArray)]
theorem wordsB_map : wordsB = cfgW.map bs := rfl
theorem mem_words (l : List UInt8) : bs l ∈ wordsB ↔ wix l < 7 := by
 rw [wordsB_map]
 constructor
 ·intro h
  obtain ⟨a,ha,e⟩ := List.mem_map.1 h
  have := bs_inj e
  subst this
  simp only [cfgW,List.mem_cons,List.not_mem_nil,or_false] at ha
  rcases ha with rfl | rfl | rfl | rfl | rfl | rfl | rfl <;> decide
 ·intro h
  rcases wix_word l with g | ⟨_,g⟩
  ·omega
  ·refine List.mem_map.2 ⟨l,?_,rfl⟩
   rw [← g,List.getD_eq_getElem?_getD,List.getElem?_eq_getElem (show wix l < cfgW.length from h)]
   exact List.getElem_mem _
theorem specWord_l0 (s : ByteArray) : ∀ (d n : Nat),n + d = 7 → (∀ m,m < n → cfgW.getD m [] ≠ s.data.toList) → Ev (fun k => spec_l8Word.l0 k s (n : Int)) (if wix s.data.toList = 7 then -1 else (wix s.data.toList : Int)) := by
 intro d
 induction d with
 | zero =>
  intro n hn hm
  refine ev_succ ?_
  simp only [spec_l8Word.l0]
  refine ev_neg (by omega) (ev_eq (Ev.now _) ?_)
  rcases wix_word s.data.toList with g | ⟨g,e⟩
  ·rw [if_pos g]
  ·exact absurd e (hm _ (by omega))
 | succ d ih =>
  intro n hn hm
  refine ev_succ ?_
  simp only [spec_l8Word.l0,spec_l8Words.f,Option.bind_some]
  have er : rdOf ByteArray.empty wordsB (n : Int) = bs (cfgW.getD n []) := by
   rcases (show n = 0 ∨ n = 1 ∨ n = 2 ∨ n = 3 ∨ n = 4 ∨ n = 5 ∨ n = 6 by omega) with rfl | rfl | rfl | rfl | rfl | rfl | rfl <;> rfl
  refine ev_pos (by omega) (ev_pos (by omega) (ev_pos (show (n : Int) < (wordsB.length : Int) from by simp;omega) ?_))
  by_cases h : cfgW.getD n [] = s.data.toList
  ·refine ev_pos (show (rdOf ByteArray.empty wordsB (n : Int)).toList = s.toList from by rw [er,toList_bs,ByteArray.toList_eq,h]) (ev_eq (Ev.now _) ?_)
   rw [← h,wix_at (by omega),if_neg (by omega)]
  ·refine ev_neg (show ¬ (rdOf ByteArray.empty wordsB (n : Int)).toList = s.toList from by rw [er,toList_bs,ByteArray.toList_eq];exact h) ?_
   rw [w64 (x := (n : Int) + 1) (by omega) (by omega)]
   refine ih (n + 1) (by omega) fun m hm2 => ?_
   by_cases e : m = n
   ·exact e ▸ h
   ·exact hm m (by omega)
theorem specWord_f (s : ByteArray) : Ev (fun k => spec_l8Word.f k s) (if wix s.data.toList = 7 then -1 else (wix s.data.toList : Int)) := by
 unfold spec_l8Word.f
 exact specWord_l0 s 7 0 (by omega) (fun m hm => by omega)
def metB (met : Nat → Bool) : List Bool := (List.range 7).map met
theorem metB_len (met : Nat → Bool) : (metB met).length = 7 := by simp [metB]
theorem metB_at (met : Nat → Bool) {i : Nat} (h : i < 7) : rdOf false (metB met) (i : Int) = met i := by
 unfold rdOf metB
 rw [Int.toNat_natCast]
 simp [List.getD_eq_getElem?_getD,h]
theorem metB_set (met : Nat → Bool) {i : Nat} (h : i < 7) : (metB met).set i true = metB (fun j => met j || decide (j = i)) := by
 refine List.ext_getElem? fun j => ?_
 unfold metB
 rw [List.getElem?_set]
 by_cases e : i = j
 ·subst e
  simp [h]
 ·rw [if_neg e]
  by_cases hj : j < 7
  ·simp [hj]
   exact fun z => absurd z.symm e
  ·simp [hj]
theorem specRC_l1 (B : List Bool) (L : List ByteArray) (i : Nat) (c : Cfg) (l : List UInt8) (hi : rdOf ByteArray.empty L (i : Int) = bs l) (hlt : i < L.length) (hl : l.length ≤ 4000) (R : Int × Int × Int × Int × Int × Int × Int × List Int × Int × Int × Int)
  (hj : Ev (fun k => spec_ReadConfig.j2 k B L (i : Int) ((cutAt 61 l).1.length : Int) c.1 c.2.1 c.2.2.1 c.2.2.2.1 c.2.2.2.2.1 c.2.2.2.2.2.1 c.2.2.2.2.2.2.1 c.2.2.2.2.2.2.2) R) :
  ∀ (t w : List UInt8),l = w ++ t → 61 ∉ w → Ev (fun k => spec_ReadConfig.l1 k B L (i : Int) (w.length : Int) c.1 c.2.1 c.2.2.1 c.2.2.2.1 c.2.2.2.2.1 c.2.2.2.2.2.1 c.2.2.2.2.2.2.1 c.2.2.2.2.2.2.2) R := by
 intro t
 induction t with
 | nil =>
  intro w e hw
  rw [List.append_nil] at e
  subst e
  refine ev_succ ?_
  simp only [spec_ReadConfig.l1,hi]
  rw [cutAt_not_mem hw] at hj
  exact ev_pos (by omega) (ev_pos (by omega) (ev_neg (by rw [bs_size];omega) hj))
 | cons b t ih =>
  intro w e hw
  have hlen := congrArg List.length e
  rw [List.length_append,List.length_cons] at hlen
  refine ev_succ ?_
  simp only [spec_ReadConfig.l1,hi]
  refine ev_pos (by omega) (ev_pos (by omega) (ev_pos (by rw [bs_size];omega) (ev_pos (by omega) ?_)))
  have hb : bt (bs l) (w.length : Int) = (b.toNat : Int) := bt_get (by rw [list_bs,e];simp)
  rw [hb]
  by_cases h : b = 61
  ·subst h
   refine ev_pos rfl ?_
   rw [e,cutAt_mid hw] at hj
   exact hj
  ·have e61 : (61 : UInt8).toNat = 61 := rfl
   refine ev_neg (fun z => h (UInt8.toNat_inj.1 (by omega))) ?_
   rw [w64 (x := (w.length : Int) + 1) (by omega) (by omega)]
   have := ih (w ++ [b]) (by rw [e];simp) (by simp only [List.mem_append,List.mem_singleton,not_or];exact ⟨hw,fun z => h z.symm⟩)
   rw [List.length_append,List.length_singleton] at this
   exact this
theorem specRC_l0 : ∀ (r pre : List (List UInt8)) (c : Cfg) (met : Nat → Bool),pre.length + r.length ≤ 1000000 → (∀ l ∈ r,l.length ≤ 4000) → Ev (fun k => spec_ReadConfig.l0 k (metB met) ((pre ++ r).map bs) (pre.length : Int) c.1 c.2.1 c.2.2.1 c.2.2.2.1 c.2.2.2.2.1 c.2.2.2.2.2.1 c.2.2.2.2.2.2.1 c.2.2.2.2.2.2.2) (runC r pre.length c met) := by
 intro r
 induction r with
 | nil =>
  intro pre c met hl _
  refine ev_succ ?_
  simp only [spec_ReadConfig.l0]
  exact ev_neg (by simp) (Ev.now _)
 | cons l r ih =>
  intro pre c met hl hs
  rw [List.length_cons] at hl
  have hl4 := hs l (List.mem_cons_self ..)
  have step : ∀ (c' : Cfg) (met' : Nat → Bool),Ev (fun k => spec_ReadConfig.l0 k (metB met') ((pre ++ l :: r).map bs) (wrap64 ((pre.length : Int) + 1)) c'.1 c'.2.1 c'.2.2.1 c'.2.2.2.1 c'.2.2.2.2.1 c'.2.2.2.2.2.1 c'.2.2.2.2.2.2.1 c'.2.2.2.2.2.2.2) (runC r (pre.length + 1) c' met') := by
   intro c' met'
   have h := ih (pre ++ [l]) c' met' (by simp;omega) (fun x hx => hs x (List.mem_cons_of_mem _ hx))
   rw [w64 (by omega) (by omega)]
   simpa using h
  refine ev_succ ?_
  simp only [spec_ReadConfig.l0,at_mid,toList_bs]
  refine ev_pos (by simp;omega) (ev_pos (by omega) ?_)
  by_cases he : l = []
  ·refine ev_pos he ?_
   rw [runC,if_pos he]
   exact step c met
  refine ev_neg he ?_
  rw [runC,if_neg he]
  refine specRC_l1 (metB met) _ pre.length c l (at_mid pre r l) (by simp) hl4 _ ?_ l [] rfl (by simp)
  refine ev_succ ?_
  simp only [spec_ReadConfig.j2,at_mid,bs_size]
  refine ev_pos (by omega) (ev_pos (by simp;omega) ?_)
  have hlen := cutAt_length 61 l
  have ek : ∀ x : Int × Cfg × Nat,lineC c met l = x → (if (lineC c met l).1 = 0 then runC r (pre.length + 1) (lineC c met l).2.1 (fun j => met j || decide (j = (lineC c met l).2.2)) else mkR zeroC (lineC c met l).1 (pre.length : Int) 0) = (if x.1 = 0 then runC r (pre.length + 1) x.2.1 (fun j => met j || decide (j = x.2.2)) else mkR zeroC x.1 (pre.length : Int) 0) := fun x h => by rw [h]
  cases hc : (cutAt 61 l).2 with
  | none =>
   rw [hc] at hlen
   simp only [restLen] at hlen
   rw [ek (10,c,0) (by unfold lineC;rw [hc]),if_neg (show ¬ (10 : Int) = 0 by decide)]
   exact ev_pos (by omega) (Ev.now _)
  | some v =>
   have hx := ext_after hc
   have e1 : (bs l).extract 0 ((cutAt 61 l).1.length : Int).toNat = bs (cutAt 61 l).1 := by
    have := (cutAt_some hc).2
    refine ba_ext ?_
    rw [ByteArray.data_extract,Array.toList_extract,List.extract_eq_take_drop,list_bs,list_bs,Int.toNat_natCast]
    generalize (cutAt 61 l).1 = w at this
    subst this
    simp
   rw [hc] at hlen
   simp only [restLen] at hlen
   refine ev_neg (by omega) (ev_pos (by omega) (ev_pos (by omega) ?_))
   rw [e1]
   have hw := specWord_f (bs (cutAt 61 l).1)
   rw [list_bs] at hw
   have hline : lineC c met l = if wix (cutAt 61 l).1 = 7 then (11,c,0) else if met (wix (cutAt 61 l).1) = true then (6,c,0) else ((layC c (wix (cutAt 61 l).1) v).1,(layC c (wix (cutAt 61 l).1) v).2,wix (cutAt 61 l).1) := by unfold lineC;rw [hc]
   by_cases h7 : wix (cutAt 61 l).1 = 7
   ·rw [if_pos h7] at hline
    rw [if_pos h7] at hw
    rw [ek _ hline,if_neg (show ¬ (11 : Int) = 0 by decide)]
    exact hw.bind (ev_pos (by decide) (Ev.now _))
   rw [if_neg h7] at hline
   have h6 : wix (cutAt 61 l).1 < 7 := by rcases wix_word (cutAt 61 l).1 with g | ⟨g,_⟩ <;> omega
   rw [if_neg h7] at hw
   refine hw.bind (ev_neg (by omega) (ev_pos (by omega) (ev_pos (by rw [metB_len];omega) ?_)))
   rw [metB_at met h6]
   by_cases hm : met (wix (cutAt 61 l).1) = true
   ·rw [if_pos hm] at hline
    rw [ek _ hline,if_neg (show ¬ (6 : Int) = 0 by decide)]
    exact ev_pos hm (Ev.now _)
   rw [if_neg hm] at hline
   refine ev_neg hm ?_
   rw [w64 (x := ((cutAt 61 l).1.length : Int) + 1) (by omega) (by omega)]
   refine ev_pos (by omega) (ev_pos (by omega) ?_)
   have e2 : (bs l).extract (((cutAt 61 l).1.length : Int) + 1).toNat l.length = bs v := by
    rw [← bs_size l,show (((cutAt 61 l).1.length : Int) + 1).toNat = (cutAt 61 l).1.length + 1 by omega]
    exact hx
   have e3 : (bs l).extract (((cutAt 61 l).1.length : Int) + 1).toNat (bs l).size = bs v := by rw [bs_size];exact e2
   obtain ⟨c',ev,hc'⟩ := specLay_f c (wix (cutAt 61 l).1) (bs v) h6 (by rw [bs_size];omega)
   rw [list_bs] at ev hc'
   rw [ek _ hline]
   first | rw [e2] | rw [e3]
   refine ev.bind ?_
   dsimp only
   by_cases h0 : (layC c (wix (cutAt 61 l).1) v).1 = 0
   ·rw [if_pos h0]
    refine ev_pos h0 ?_
    rw [Int.toNat_natCast,metB_set met h6,← hc' h0]
    exact step c' _
   ·rw [if_neg h0]
    exact ev_neg h0 (Ev.now _)
theorem implIndexS_l0 (l : List ByteArray) (s : ByteArray) (hl : l.length ≤ 1048576) : ∀ (d n : Nat),n + d = l.length → ∃ r : Int,Ev (fun k => slices_Index_string_string.l0 k l s (l.length : Int) (n : Int)) r ∧ (0 ≤ r ↔ ∃ j,n ≤ j ∧ j < l.length ∧ (sAt l j).toList = s.toList) := by
 intro d
 induction d with
 | zero =>
  intro n hn
  refine ⟨-1,ev_succ ?_,⟨fun h => by omega,fun ⟨j,h1,h2,_⟩ => by omega⟩⟩
  simp only [slices_Index_string_string.l0]
  exact ev_neg (by omega) (Ev.now _)
 | succ d ih =>
  intro n hn
  by_cases h : (sAt l n).toList = s.toList
  ·refine ⟨(n : Int),ev_succ ?_,⟨fun _ => ⟨n,Nat.le_refl _,by omega,h⟩,fun _ => by omega⟩⟩
   simp only [slices_Index_string_string.l0]
   exact ev_pos (by omega) (ev_pos (by omega) (ev_pos (by omega) (ev_pos h.symm (Ev.now _))))
  ·obtain ⟨r,e,hr⟩ := ih (n + 1) (by omega)
   refine ⟨r,ev_succ ?_,hr.trans ⟨fun ⟨j,a,b,c⟩ => ⟨j,by omega,b,c⟩,fun ⟨j,a,b,c⟩ => ⟨j,?_,b,c⟩⟩⟩
   ·simp only [slices_Index_string_string.l0]
    refine ev_pos (by omega) (ev_pos (by omega) (ev_pos (by omega) (ev_neg (fun z => h z.symm) ?_)))
    rw [w64 (x := (n : Int) + 1) (by omega) (by omega)]
    exact e
   ·by_cases e : j = n
    ·exact absurd (e ▸ c) h
    ·omega
theorem implHas (l : List ByteArray) (s : ByteArray) (hl : l.length ≤ 1048576) : Ev (fun k => slices_Contains_string_string.f k l s) (dec (HasP l l.length s)) := by
 unfold slices_Contains_string_string.f slices_Index_string_string.f
 obtain ⟨r,e,hr⟩ := implIndexS_l0 l s hl l.length 0 (by omega)
 refine Ev.bind e (ev_of ?_)
 congr 1
 by_cases h : HasP l l.length s
 ·rw [dec_true h]
  obtain ⟨j,b,c⟩ := h
  exact decide_eq_true (hr.2 ⟨j,Nat.zero_le _,b,c⟩)
 ·rw [dec_false h]
  exact decide_eq_false (fun z => h (by obtain ⟨j,_,b,c⟩ := hr.1 z;exact ⟨j,b,c⟩))
theorem partsL_mem (c : UInt8) : ∀ (l p : List UInt8),p ∈ partsL c l → p.length ≤ l.length
 | [],p,h => by
  rw [partsL,List.mem_singleton] at h
  rw [h]
  exact Nat.le_refl _
 | b :: l,p,h => by
  rw [partsL] at h
  have ih := partsL_mem c l
  split at h
  ·rcases List.mem_cons.1 h with e | h
   ·rw [e];exact Nat.zero_le _
   ·exact Nat.le_succ_of_le (ih p h)
  ·cases hp : partsL c l with
   | nil => exact absurd hp (partsL_ne c l)
   | cons x r =>
    rw [hp] at h ih
    rcases List.mem_cons.1 h with e | h
    ·have := ih x (List.mem_cons_self ..)
     rw [e]
     simp
     omega
    ·exact Nat.le_succ_of_le (ih p (List.mem_cons_of_mem _ h))
theorem metB_none : metB (fun _ => false) = List.replicate 7 false := rfl
theorem specReadConfig_f (s : ByteArray) : Ev (fun k => spec_ReadConfig.f k s) (readConfig s) := by
 unfold spec_ReadConfig.f readConfig spec_UsualConfig.f
 simp only [Option.bind_some]
 have hl : s.data.toList.length = s.size := data_length ..
 by_cases h : s.size > 4000
 ·rw [if_pos h]
  exact ev_pos (by omega) (Ev.now _)
 rw [if_neg h]
 have hp := partsL_len 10 s.data.toList
 have := specRC_l0 (partsL 10 s.data.toList) [] (4,2,4,1,1,1,1,[]) (fun _ => false) (by rw [List.length_nil];omega) (fun l hm => Nat.le_trans (partsL_mem 10 _ l hm) (by omega))
 rw [metB_none] at this
 exact ev_neg (by omega) (ev_pos (by omega) (Ev.bind (specParts_f s 10 (by omega)) this))
theorem implRC_l0 : ∀ (r pre : List (List UInt8)) (c : Cfg) (met : Nat → Bool) (seen : List ByteArray),pre.length + r.length ≤ 1000000 → (∀ l ∈ r,l.length ≤ 4000) → seen.length ≤ pre.length → (∀ key : List UInt8,wix key < 7 → (bs key ∈ seen ↔ met (wix key) = true)) →
  Ev (fun k => impl_ReadConfig.l0 k seen ((pre ++ r).map bs) ((pre.length + r.length : Nat) : Int) (pre.length : Int) c.1 c.2.1 c.2.2.1 c.2.2.2.1 c.2.2.2.2.1 c.2.2.2.2.2.1 c.2.2.2.2.2.2.1 c.2.2.2.2.2.2.2) (runC r pre.length c met) := by
 intro r
 induction r with
 | nil =>
  intro pre c met seen hl _ _ _
  refine ev_succ ?_
  simp only [impl_ReadConfig.l0]
  exact ev_neg (by simp) (Ev.now _)
 | cons l r ih =>
  intro pre c met seen hl hs hn hi
  rw [List.length_cons] at hl
  have hl4 := hs l (List.mem_cons_self ..)
  have step : ∀ (c' : Cfg) (met' : Nat → Bool) (seen' : List ByteArray),seen'.length ≤ pre.length + 1 → (∀ key : List UInt8,wix key < 7 → (bs key ∈ seen' ↔ met' (wix key) = true)) → Ev (fun k => impl_ReadConfig.l0 k seen' ((pre ++ l :: r).map bs) ((pre.length + (l :: r).length : Nat) : Int) (wrap64 ((pre.length : Int) + 1)) c'.1 c'.2.1 c'.2.2.1 c'.2.2.2.1 c'.2.2.2.2.1 c'.2.2.2.2.2.1 c'.2.2.2.2.2.2.1 c'.2.2.2.2.2.2.2) (runC r (pre.length + 1) c' met') := by
   intro c' met' seen' a b
   have h := ih (pre ++ [l]) c' met' seen' (by simp;omega) (fun x hx => hs x (List.mem_cons_of_mem _ hx)) (by simpa using a) b
   rw [w64 (by omega) (by omega)]
   have e1 : (pre ++ [l]).length = pre.length + 1 := by simp
   have e2 : pre.length + 1 + r.length = pre.length + (l :: r).length := by rw [List.length_cons];omega
   have e3 : pre ++ [l] ++ r = pre ++ l :: r := by simp
   rw [e1,e2,e3] at h
   exact h
  refine ev_succ ?_
  simp only [impl_ReadConfig.l0,at_mid,toList_bs]
  refine ev_pos (by simp;omega) (ev_pos (by omega) (ev_pos (by simp;omega) ?_))
  by_cases he : l = []
  ·refine ev_pos he ?_
   rw [runC,if_pos he]
   exact step c met seen (by omega) hi
  refine ev_neg he ?_
  rw [runC,if_neg he]
  have hcut : strings_Cut.f (bs l) (⟨#[61]⟩ : ByteArray) = some (bs (cutAt 61 l).1,bs ((cutAt 61 l).2.getD []),(cutAt 61 l).2.isSome) := by
   unfold strings_Cut.f
   rw [if_pos (by rw [bs_size];omega),sep_list,list_bs,cut_cutAt]
   rfl
  refine (ev_of hcut).bind ?_
  have hlen := cutAt_length 61 l
  have ek : ∀ x : Int × Cfg × Nat,lineC c met l = x → (if (lineC c met l).1 = 0 then runC r (pre.length + 1) (lineC c met l).2.1 (fun j => met j || decide (j = (lineC c met l).2.2)) else mkR zeroC (lineC c met l).1 (pre.length : Int) 0) = (if x.1 = 0 then runC r (pre.length + 1) x.2.1 (fun j => met j || decide (j = x.2.2)) else mkR zeroC x.1 (pre.length : Int) 0) := fun x h => by rw [h]
  cases hc : (cutAt 61 l).2 with
  | none =>
   rw [ek (10,c,0) (by unfold lineC;rw [hc]),if_neg (show ¬ (10 : Int) = 0 by decide)]
   exact ev_neg (by simp) (ev_neg (by decide) (Ev.now _))
  | some v =>
   rw [hc] at hlen
   simp only [restLen] at hlen
   have hline : lineC c met l = if wix (cutAt 61 l).1 = 7 then (11,c,0) else if met (wix (cutAt 61 l).1) = true then (6,c,0) else ((layC c (wix (cutAt 61 l).1) v).1,(layC c (wix (cutAt 61 l).1) v).2,wix (cutAt 61 l).1) := by unfold lineC;rw [hc]
   refine ev_pos rfl ?_
   have hw := implHas wordsB (bs (cutAt 61 l).1) (by decide)
   have hb : HasP wordsB wordsB.length (bs (cutAt 61 l).1) ↔ wix (cutAt 61 l).1 < 7 := (hasP_mem _ _).trans (mem_words _)
   by_cases h7 : wix (cutAt 61 l).1 = 7
   ·rw [if_pos h7] at hline
    rw [ek _ hline,if_neg (show ¬ (11 : Int) = 0 by decide)]
    rw [dec_false (fun z => by have := hb.1 z;omega)] at hw
    exact hw.bind (ev_neg (by simp) (ev_neg (by decide) (Ev.now _)))
   rw [if_neg h7] at hline
   have h6 : wix (cutAt 61 l).1 < 7 := by rcases wix_word (cutAt 61 l).1 with g | ⟨g,_⟩ <;> omega
   rw [dec_true (hb.2 h6)] at hw
   refine hw.bind (ev_pos rfl ?_)
   have hsn := implHas seen (bs (cutAt 61 l).1) (by omega)
   have hbs : HasP seen seen.length (bs (cutAt 61 l).1) ↔ met (wix (cutAt 61 l).1) = true := (hasP_mem _ _).trans (hi _ h6)
   by_cases hm : met (wix (cutAt 61 l).1) = true
   ·rw [if_pos hm] at hline
    rw [ek _ hline,if_neg (show ¬ (6 : Int) = 0 by decide)]
    rw [dec_true (hbs.2 hm)] at hsn
    exact hsn.bind (ev_pos rfl (ev_neg (by decide) (Ev.now _)))
   rw [if_neg hm] at hline
   rw [dec_false (fun z => hm (hbs.1 z))] at hsn
   refine hsn.bind (ev_neg (by simp) ?_)
   obtain ⟨c',ev,hc'⟩ := implSet_f c (bs (cutAt 61 l).1) (bs v) (by rw [list_bs];exact h6) (by rw [bs_size];omega)
   rw [list_bs,list_bs] at ev hc'
   rw [ek _ hline]
   refine ev.bind ?_
   dsimp only
   by_cases h0 : (layC c (wix (cutAt 61 l).1) v).1 = 0
   ·rw [if_pos h0]
    refine ev_pos h0 (ev_pos (by omega) ?_)
    rw [← hc' h0]
    refine step c' _ _ (by simp;omega) fun key hk => ?_
    rw [List.mem_append,List.mem_singleton,hi key hk]
    show _ ↔ (met (wix key) || decide (wix key = wix (cutAt 61 l).1)) = true
    rw [Bool.or_eq_true,decide_eq_true_eq]
    refine or_congr Iff.rfl ⟨fun e => by rw [bs_inj e],fun e => by rw [wix_inj hk e]⟩
   ·rw [if_neg h0]
    exact ev_neg h0 (Ev.now _)
theorem implReadConfig_f (s : ByteArray) : Ev (fun k => impl_ReadConfig.f k s) (readConfig s) := by
 unfold impl_ReadConfig.f readConfig impl_UsualConfig.f
 simp only [Option.bind_some]
 have hl : s.data.toList.length = s.size := data_length ..
 by_cases h : s.size > 4000
 ·rw [if_pos h]
  exact ev_pos (by omega) (Ev.now _)
 rw [if_neg h]
 have hp := partsL_len 10 s.data.toList
 have := implRC_l0 (partsL 10 s.data.toList) [] (4,2,4,1,1,1,1,[]) (fun _ => false) [] (by rw [List.length_nil];omega) (fun l hm => Nat.le_trans (partsL_mem 10 _ l hm) (by omega)) (Nat.le_refl _) (fun key _ => by simp)
 have e := implParts_f s 10 (by omega)
 refine ev_neg (by omega) (Ev.bind (ev_of e) ?_)
 rw [List.length_nil,Nat.zero_add] at this
 rw [List.length_map]
 exact this
theorem signsOf_len {l : List UInt8} {v : List Int} (h : signsOf l = some v) : v.length ≤ 4 := by
 unfold signsOf at h
 split at h
 ·rw [signsL_len h];assumption
 ·cases h
theorem layC_signs (c : Cfg) (i : Nat) (v : List UInt8) (h : c.2.2.2.2.2.2.2.length ≤ 4) : (layC c i v).2.2.2.2.2.2.2.2.length ≤ 4 := by
 unfold layC
 split
 ·split
  ·rename_i e
   exact signsOf_len e
  ·exact h
 ·split
  ·split <;> exact h
  ·split
   ·split <;> exact h
   ·exact h
theorem lineC_signs (c : Cfg) (met : Nat → Bool) (l : List UInt8) (h : c.2.2.2.2.2.2.2.length ≤ 4) : (lineC c met l).2.1.2.2.2.2.2.2.2.length ≤ 4 := by
 unfold lineC
 split
 ·exact h
 ·split
  ·exact h
  ·split
   ·exact h
   ·exact layC_signs c _ _ h
theorem runC_signs : ∀ (r : List (List UInt8)) (i : Nat) (c : Cfg) (met : Nat → Bool),c.2.2.2.2.2.2.2.length ≤ 4 → (runC r i c met).2.2.2.2.2.2.2.1.length ≤ 4
 | [],_,c,_,h => h
 | l :: r,i,c,met,h => by
  rw [runC]
  split
  ·exact runC_signs r _ c met h
  ·split
   ·exact runC_signs r _ _ _ (lineC_signs c met l h)
   ·exact Nat.zero_le _
theorem readConfig_signs (s : ByteArray) : (readConfig s).2.2.2.2.2.2.2.1.length ≤ 4 := by
 unfold readConfig
 split
 ·exact Nat.zero_le _
 ·exact runC_signs _ _ _ _ (Nat.zero_le _)
def NumsOk (a b c d e : Int) : Prop := (1 ≤ a ∧ a ≤ 8) ∧ (0 ≤ b ∧ b ≤ 4) ∧ (2 ≤ c ∧ c ≤ 8) ∧ (1 ≤ d ∧ d ≤ 100) ∧ (1 ≤ e ∧ e ≤ 20)
def RateOk (f g : Int) (l : List Int) : Prop := (1 ≤ g ∧ g ≤ 1000) ∧ (1 ≤ f ∧ f ≤ g) ∧ (l.length : Int) ≤ 4
def SignsOk (l : List Int) : Prop := ∀ j : Nat,j < l.length → -1 ≤ rd l (j : Int) ∧ rd l (j : Int) ≤ 1
def CfgOk (a b c d e f g : Int) (l : List Int) : Prop := NumsOk a b c d e ∧ SignsOk l ∧ RateOk f g l
theorem specCfg_l1 (a b c d e f g : Int) (l : List Int) (hl : l.length ≤ 1048576) : Ev (fun k => spec_ConfigOk.l1 k 0 a b c d e f g l) (dec (SignsOk l ∧ RateOk f g l)) := by
 refine ev_eq (all_loop2 (fun k i => spec_ConfigOk.l1 k i a b c d e f g l) l.length (fun j => -1 ≤ rd l (j : Int) ∧ rd l (j : Int) ≤ 1) (RateOk f g l) ?_ ?_ ?_ l.length 0 (by omega)) (dec_congr ⟨fun h => ⟨fun j hj => h.1 j (by omega) hj,h.2⟩,fun h => ⟨fun j _ hj => h.1 j hj,h.2⟩⟩)
 ·refine ev_succ ?_
  simp only [spec_ConfigOk.l1,specIn,Option.bind_some]
  refine ev_neg (by omega) ?_
  unfold RateOk
  by_cases h1 : 1 ≤ g ∧ g ≤ 1000
  ·refine ev_pos (decide_eq_true h1) ?_
   by_cases h2 : 1 ≤ f ∧ f ≤ g
   ·refine ev_pos (decide_eq_true h2) (ev_eq (Ev.now _) ?_)
    rw [← dec_eq]
    exact dec_congr ⟨fun h => ⟨h1,h2,h⟩,fun h => h.2.2⟩
   ·exact ev_neg (by simpa using h2) (ev_eq (Ev.now _) (dec_false (fun h => h2 h.2.1)).symm)
  ·exact ev_neg (by simpa using h1) (ev_eq (Ev.now _) (dec_false (fun h => h1 h.1)).symm)
 ·intro n r hn hp h
  refine ev_succ ?_
  simp only [spec_ConfigOk.l1,specIn,Option.bind_some]
  refine ev_pos (by omega) (ev_pos (by omega) (ev_pos (decide_eq_true hp) ?_))
  rw [w64 (x := (n : Int) + 1) (by omega) (by omega)]
  exact h
 ·intro n hn hp
  refine ev_succ ?_
  simp only [spec_ConfigOk.l1,specIn,Option.bind_some]
  exact ev_pos (by omega) (ev_pos (by omega) (ev_neg (by simpa using hp) (Ev.now _)))
theorem specConfigOk (a b c d e f g : Int) (l : List Int) (hl : l.length ≤ 1048576) : Ev (fun k => spec_ConfigOk.f k a b c d e f g l) (dec (CfgOk a b c d e f g l)) := by
 unfold spec_ConfigOk.f spec_l8Numbers.f
 simp only [Option.bind_some]
 have fin := specCfg_l1 a b c d e f g l hl
 have w1 : wrap64 (0 + 1) = 1 := w64 (by omega) (by omega)
 have w2 : wrap64 (1 + 1) = 2 := w64 (by omega) (by omega)
 have w3 : wrap64 (2 + 1) = 3 := w64 (by omega) (by omega)
 have w4 : wrap64 (3 + 1) = 4 := w64 (by omega) (by omega)
 have w5 : wrap64 (4 + 1) = 5 := w64 (by omega) (by omega)
 have r0 : rd [a,b,c,d,e] 0 = a := rfl
 have r1 : rd [a,b,c,d,e] 1 = b := rfl
 have r2 : rd [a,b,c,d,e] 2 = c := rfl
 have r3 : rd [a,b,c,d,e] 3 = d := rfl
 have r4 : rd [a,b,c,d,e] 4 = e := rfl
 have l0 : rd [1,0,2,1,1] 0 = 1 := rfl
 have l1 : rd [1,0,2,1,1] 1 = 0 := rfl
 have l2 : rd [1,0,2,1,1] 2 = 2 := rfl
 have l3 : rd [1,0,2,1,1] 3 = 1 := rfl
 have l4 : rd [1,0,2,1,1] 4 = 1 := rfl
 have m0 : rd [8,4,8,100,20] 0 = 8 := rfl
 have m1 : rd [8,4,8,100,20] 1 = 4 := rfl
 have m2 : rd [8,4,8,100,20] 2 = 8 := rfl
 have m3 : rd [8,4,8,100,20] 3 = 100 := rfl
 have m4 : rd [8,4,8,100,20] 4 = 20 := rfl
 unfold CfgOk NumsOk
 refine ev_succ ?_
 simp only [spec_ConfigOk.l0,spec_l8Least.f,spec_l8Most.f,specIn,Option.bind_some,r0,l0,m0,w1]
 refine ev_pos (by omega) (ev_pos (by omega) (ev_pos (by simp) (ev_pos (by simp) (ev_pos (by simp) ?_))))
 by_cases h0 : 1 ≤ a ∧ a ≤ 8
 case neg => exact ev_neg (by simpa using h0) (ev_eq (Ev.now _) (dec_false (fun h => h0 h.1.1)).symm)
 refine ev_pos (decide_eq_true h0) (ev_succ ?_)
 simp only [spec_ConfigOk.l0,spec_l8Least.f,spec_l8Most.f,specIn,Option.bind_some,r1,l1,m1,w2]
 refine ev_pos (by omega) (ev_pos (by omega) (ev_pos (by simp) (ev_pos (by simp) (ev_pos (by simp) ?_))))
 by_cases h1 : 0 ≤ b ∧ b ≤ 4
 case neg => exact ev_neg (by simpa using h1) (ev_eq (Ev.now _) (dec_false (fun h => h1 h.1.2.1)).symm)
 refine ev_pos (decide_eq_true h1) (ev_succ ?_)
 simp only [spec_ConfigOk.l0,spec_l8Least.f,spec_l8Most.f,specIn,Option.bind_some,r2,l2,m2,w3]
 refine ev_pos (by omega) (ev_pos (by omega) (ev_pos (by simp) (ev_pos (by simp) (ev_pos (by simp) ?_))))
 by_cases h2 : 2 ≤ c ∧ c ≤ 8
 case neg => exact ev_neg (by simpa using h2) (ev_eq (Ev.now _) (dec_false (fun h => h2 h.1.2.2.1)).symm)
 refine ev_pos (decide_eq_true h2) (ev_succ ?_)
 simp only [spec_ConfigOk.l0,spec_l8Least.f,spec_l8Most.f,specIn,Option.bind_some,r3,l3,m3,w4]
 refine ev_pos (by omega) (ev_pos (by omega) (ev_pos (by simp) (ev_pos (by simp) (ev_pos (by simp) ?_))))
 by_cases h3 : 1 ≤ d ∧ d ≤ 100
 case neg => exact ev_neg (by simpa using h3) (ev_eq (Ev.now _) (dec_false (fun h => h3 h.1.2.2.2.1)).symm)
 refine ev_pos (decide_eq_true h3) (ev_succ ?_)
 simp only [spec_ConfigOk.l0,spec_l8Least.f,spec_l8Most.f,specIn,Option.bind_some,r4,l4,m4,w5]
 refine ev_pos (by omega) (ev_pos (by omega) (ev_pos (by simp) (ev_pos (by simp) (ev_pos (by simp) ?_))))
 by_cases h4 : 1 ≤ e ∧ e ≤ 20
 case neg => exact ev_neg (by simpa using h4) (ev_eq (Ev.now _) (dec_false (fun h => h4 h.1.2.2.2.2)).symm)
 refine ev_pos (decide_eq_true h4) (ev_succ ?_)
 simp only [spec_ConfigOk.l0]
 exact ev_neg (by omega) (ev_eq fin (dec_congr ⟨fun h => ⟨⟨h0,h1,h2,h3,h4⟩,h⟩,fun h => h.2⟩))
theorem implSign (x : Int) : impl_isSign.f x = some (decide (-1 ≤ x ∧ x ≤ 1)) := by
 unfold impl_isSign.f
 rw [implWithin];rfl
theorem index_sign (l : List Int) (hl : l.length ≤ 1048576) : ∀ (d n : Nat),n + d = l.length → ∃ r : Int,Ev (fun k => slices_IndexFunc_int_int.l0 k l (l.length : Int) (n : Int)) r ∧ (0 ≤ r ↔ ∃ j,n ≤ j ∧ j < l.length ∧ ¬ (-1 ≤ rd l (j : Int) ∧ rd l (j : Int) ≤ 1)) := by
 intro d
 induction d with
 | zero =>
  intro n hn
  refine ⟨-1,ev_succ ?_,⟨fun h => by omega,fun ⟨j,h1,h2,_⟩ => by omega⟩⟩
  simp only [slices_IndexFunc_int_int.l0]
  exact ev_neg (by omega) (Ev.now _)
 | succ d ih =>
  intro n hn
  have hw : wrap64 ((n : Int) + 1) = ((n + 1 : Nat) : Int) := w64 (by omega) (by omega)
  by_cases h : -1 ≤ rd l (n : Int) ∧ rd l (n : Int) ≤ 1
  ·obtain ⟨r,e,hr⟩ := ih (n + 1) (by omega)
   refine ⟨r,ev_succ ?_,hr.trans ⟨fun ⟨j,h1,h2,h3⟩ => ⟨j,by omega,h2,h3⟩,fun ⟨j,h1,h2,h3⟩ => ⟨j,?_,h2,h3⟩⟩⟩
   ·simp only [slices_IndexFunc_int_int.l0,impl_ConfigOk_1.f,implSign,Option.bind_some,hw]
    exact ev_pos (by omega) (ev_pos (by omega) (ev_pos (by omega) (ev_neg (by simpa using h) e)))
   ·by_cases c : j = n
    ·subst c;exact absurd h h3
    ·omega
  ·refine ⟨(n : Int),ev_succ ?_,⟨fun _ => ⟨n,by omega,by omega,h⟩,fun _ => by omega⟩⟩
   simp only [slices_IndexFunc_int_int.l0,impl_ConfigOk_1.f,implSign,Option.bind_some]
   exact ev_pos (by omega) (ev_pos (by omega) (ev_pos (by omega) (ev_pos (by simp;omega) (Ev.now _))))
theorem containsSign (l : List Int) (hl : l.length ≤ 1048576) : Ev (fun k => slices_ContainsFunc_int_int.f k l ()) (!dec (SignsOk l)) := by
 unfold slices_ContainsFunc_int_int.f slices_IndexFunc_int_int.f
 obtain ⟨r,e,hr⟩ := index_sign l hl l.length 0 (by omega)
 refine Ev.bind e (ev_of ?_)
 congr 1
 by_cases h : SignsOk l
 ·rw [dec_true h]
  have : ¬ 0 ≤ r := fun z => by obtain ⟨j,_,h2,h3⟩ := hr.1 z;exact h3 (h j h2)
  simp;omega
 ·rw [dec_false h]
  have : 0 ≤ r := hr.2 (Classical.byContradiction fun z => h fun j hj => Classical.byContradiction fun y => z ⟨j,by omega,hj,y⟩)
  simp;omega
theorem implConfigOk (a b c d e f g : Int) (l : List Int) (hl : l.length ≤ 1048576) : Ev (fun k => impl_ConfigOk.f k a b c d e f g l) (dec (CfgOk a b c d e f g l)) := by
 unfold impl_ConfigOk.f CfgOk NumsOk RateOk
 simp only [implWithin,Option.bind_some]
 by_cases h0 : 1 ≤ a ∧ a ≤ 8
 case neg => exact ev_neg (by simpa using h0) (ev_eq (Ev.now _) (dec_false (fun h => h0 h.1.1)).symm)
 refine ev_pos (decide_eq_true h0) ?_
 by_cases h1 : 0 ≤ b ∧ b ≤ 4
 case neg => exact ev_neg (by simpa using h1) (ev_eq (Ev.now _) (dec_false (fun h => h1 h.1.2.1)).symm)
 refine ev_pos (decide_eq_true h1) ?_
 by_cases h2 : 2 ≤ c ∧ c ≤ 8
 case neg => exact ev_neg (by simpa using h2) (ev_eq (Ev.now _) (dec_false (fun h => h2 h.1.2.2.1)).symm)
 refine ev_pos (decide_eq_true h2) ?_
 by_cases h3 : 1 ≤ d ∧ d ≤ 100
 case neg => exact ev_neg (by simpa using h3) (ev_eq (Ev.now _) (dec_false (fun h => h3 h.1.2.2.2.1)).symm)
 refine ev_pos (decide_eq_true h3) ?_
 by_cases h4 : 1 ≤ e ∧ e ≤ 20
 case neg => exact ev_neg (by simpa using h4) (ev_eq (Ev.now _) (dec_false (fun h => h4 h.1.2.2.2.2)).symm)
 refine ev_pos (decide_eq_true h4) ?_
 by_cases h5 : 1 ≤ g ∧ g ≤ 1000
 case neg => exact ev_neg (by simpa using h5) (ev_eq (Ev.now _) (dec_false (fun h => h5 h.2.2.1)).symm)
 refine ev_pos (decide_eq_true h5) ?_
 by_cases h6 : 1 ≤ f ∧ f ≤ g
 case neg => exact ev_neg (by simpa using h6) (ev_eq (Ev.now _) (dec_false (fun h => h6 h.2.2.2.1)).symm)
 refine ev_pos (decide_eq_true h6) ?_
 by_cases h7 : (l.length : Int) ≤ 4
 case neg => exact ev_neg h7 (ev_eq (Ev.now _) (dec_false (fun h => h7 h.2.2.2.2)).symm)
 refine ev_pos h7 (Ev.bind (containsSign l hl) (ev_of ?_))
 rw [Bool.not_not]
 congr 1
 exact dec_congr ⟨fun h => ⟨⟨h0,h1,h2,h3,h4⟩,h,h5,h6,h7⟩,fun h => h.2.1⟩
theorem join_total (sep : List UInt8) (L : List (List UInt8)) (m : Nat) (h : ∀ x ∈ L,x.length ≤ m) : (Lib.joinTail sep L).length ≤ L.length * (m + sep.length) := by
 induction L with
 | nil => simp [Lib.joinTail]
 | cons x L ih =>
  have h1 := h x (List.mem_cons_self ..)
  have h2 := ih fun y hy => h y (List.mem_cons_of_mem _ hy)
  simp only [Lib.joinTail,List.map_cons,List.flatten_cons,List.length_append,List.length_cons] at h2 ⊢
  rw [Nat.add_mul,Nat.one_mul]
  omega
theorem joinTail_cons (sep x : List UInt8) (r : List (List UInt8)) : Lib.joinTail sep (x :: r) = sep ++ (x ++ Lib.joinTail sep r) := by
 simp [Lib.joinTail]
theorem specJoined_l0 (sep : List UInt8) : ∀ (r pre : List (List UInt8)) (acc : List UInt8),pre ≠ [] → pre.length + r.length ≤ 1000000000 → acc.length + (Lib.joinTail sep r).length ≤ 100000000000000 →
  Ev (fun k => spec_Joined.l0 k ((pre ++ r).map bs) (bs sep) (nm acc) (pre.length : Int)) (bs (acc ++ Lib.joinTail sep r)) := by
 intro r
 induction r with
 | nil =>
  intro pre acc hp hl hs
  refine ev_succ ?_
  simp only [spec_Joined.l0]
  refine ev_neg (by simp) (ev_eq (Ev.now _) ?_)
  rw [strOfNums_nm]
  simp [Lib.joinTail]
 | cons x r ih =>
  intro pre acc hp hl hs
  rw [List.length_cons] at hl
  rw [joinTail_cons] at hs ⊢
  simp only [List.length_append] at hs
  have hpos : 0 < pre.length := List.length_pos_iff.2 hp
  have h := ih (pre ++ [x]) (acc ++ sep ++ x) (by simp) (by simp;omega) (by simp only [List.length_append];omega)
  have e1 : pre ++ [x] ++ r = pre ++ x :: r := by simp
  have e2 : acc ++ sep ++ x ++ Lib.joinTail sep r = acc ++ (sep ++ (x ++ Lib.joinTail sep r)) := by simp
  rw [e1,e2,List.length_append,List.length_singleton] at h
  refine ev_succ ?_
  simp only [spec_Joined.l0,at_mid,Option.bind_some,bytesOf_nm,list_bs,bs_size,← nm_append,nm_length]
  refine ev_pos (by simp;omega) (ev_pos (by omega) (ev_pos (by omega) (ev_pos (by omega) (ev_pos (by simp only [List.length_append];omega) ?_))))
  rw [w64 (x := (pre.length : Int) + 1) (by omega) (by omega)]
  exact h
theorem specJoined_f (sep : List UInt8) (L : List (List UInt8)) (m : Nat) (hL : L.length ≤ 1000000) (h : ∀ x ∈ L,x.length ≤ m) (hm : m + sep.length ≤ 1000000) : Ev (fun k => spec_Joined.f k (L.map bs) (bs sep)) (bs (Lib.join L sep)) := by
 unfold spec_Joined.f
 cases L with
 | nil =>
  refine ev_succ ?_
  simp only [spec_Joined.l0]
  refine ev_neg (by simp) (ev_eq (Ev.now _) ?_)
  exact strOfNums_nm []
 | cons x r =>
  have h0 := h x (List.mem_cons_self ..)
  have hr := join_total sep r m fun y hy => h y (List.mem_cons_of_mem _ hy)
  rw [List.length_cons] at hL
  have hb : r.length * (m + sep.length) ≤ 1000000 * 1000000 := Nat.mul_le_mul (by omega) hm
  have hh := specJoined_l0 sep r [x] x (by simp) (by simp;omega) (by omega)
  rw [Lib.join_cons]
  refine ev_succ ?_
  have e0 : rdOf ByteArray.empty ((x :: r).map bs) 0 = bs x := at_mid [] r x
  simp only [spec_Joined.l0,e0,bytesOf_nm,list_bs,bs_size]
  refine ev_pos (by simp;try omega) (ev_neg (by omega) (ev_pos (by omega) (ev_pos (by simp;try omega) ?_)))
  rw [w64 (x := 0 + 1) (by omega) (by omega)]
  exact hh
def sgW (x : Int) : List UInt8 := if x = -1 then [45] else if x = 0 then [48] else [43]
def signsTxt (l : List Int) : List UInt8 := Lib.join (l.map sgW) [44]
def kv (i : Nat) (v : List UInt8) : List UInt8 := cfgW.getD i [] ++ 61 :: v
def COk (c : Cfg) : Prop := CfgOk c.1 c.2.1 c.2.2.1 c.2.2.2.1 c.2.2.2.2.1 c.2.2.2.2.2.1 c.2.2.2.2.2.2.1 c.2.2.2.2.2.2.2
def cfgBase (c : Cfg) : List UInt8 := (kv 0 (Lib.itoa c.1) ++ [10]) ++ (kv 1 (Lib.itoa c.2.1) ++ [10]) ++ (kv 2 (Lib.itoa c.2.2.1) ++ [10]) ++ (kv 3 (Lib.itoa c.2.2.2.1) ++ [10]) ++ (kv 4 (Lib.itoa c.2.2.2.2.1) ++ [10]) ++ (kv 5 (Lib.itoa c.2.2.2.2.2.1 ++ 47 :: Lib.itoa c.2.2.2.2.2.2.1) ++ [10])
def cfgText (c : Cfg) : List UInt8 := if c.2.2.2.2.2.2.2 = [] then cfgBase c else cfgBase c ++ (kv 6 (signsTxt c.2.2.2.2.2.2.2) ++ [10])
theorem sgW_len (x : Int) : (sgW x).length = 1 := by
 unfold sgW
 repeat (first | split | rfl)
theorem signsTxt_len (l : List Int) (h : l.length ≤ 4) : (signsTxt l).length ≤ 20 := by
 unfold signsTxt
 cases l with
 | nil => exact Nat.zero_le _
 | cons x r =>
  rw [List.map_cons,Lib.join_cons,List.length_append,sgW_len]
  have := join_total [44] (r.map sgW) 1 (fun y hy => by obtain ⟨z,_,rfl⟩ := List.mem_map.1 hy;rw [sgW_len];exact Nat.le_refl _)
  rw [List.length_map] at this
  rw [List.length_cons] at h
  simp only [List.length_singleton] at this
  omega
theorem itoa20 {n : Int} (h0 : -1000000 ≤ n) (h1 : n ≤ 1000000) : (Lib.itoa n).length ≤ 20 := itoa_len20 (by omega) (by omega)
theorem implDig (n : Int) (h0 : -1000000 ≤ n) (h1 : n ≤ 1000000) : impl_Digits.f n = some (bs (Lib.itoa n)) := by
 unfold impl_Digits.f strconv_Itoa.f
 rw [if_pos ⟨by omega,by omega⟩]
 rfl
theorem specCT_step (nums : List Int) (c : Cfg) (R : ByteArray) (i : Nat) (hi : i < 5) (hn : nums.length = 5) (t : List UInt8) (ht : t.length ≤ 1000) (h0 : -1000000 ≤ rd nums (i : Int)) (h1 : rd nums (i : Int) ≤ 1000000)
  (h : Ev (fun k => spec_ConfigText.l0 k (bs (t ++ (kv i (Lib.itoa (rd nums (i : Int))) ++ [10]))) nums ((i + 1 : Nat) : Int) c.1 c.2.1 c.2.2.1 c.2.2.2.1 c.2.2.2.2.1 c.2.2.2.2.2.1 c.2.2.2.2.2.2.1 c.2.2.2.2.2.2.2) R) :
  Ev (fun k => spec_ConfigText.l0 k (bs t) nums (i : Int) c.1 c.2.1 c.2.2.1 c.2.2.2.1 c.2.2.2.2.1 c.2.2.2.2.2.1 c.2.2.2.2.2.2.1 c.2.2.2.2.2.2.2) R := by
 refine ev_succ ?_
 have er : rdOf ByteArray.empty wordsB (i : Int) = bs (cfgW.getD i []) := by
  rcases (show i = 0 ∨ i = 1 ∨ i = 2 ∨ i = 3 ∨ i = 4 by omega) with rfl | rfl | rfl | rfl | rfl <;> rfl
 have ew : (cfgW.getD i []).length ≤ 10 := by
  rcases (show i = 0 ∨ i = 1 ∨ i = 2 ∨ i = 3 ∨ i = 4 by omega) with rfl | rfl | rfl | rfl | rfl <;> decide
 have b61 : (⟨#[61]⟩ : ByteArray) = bs [61] := rfl
 have b10 : (⟨#[10]⟩ : ByteArray) = bs [10] := rfl
 have hd := itoa20 h0 h1
 simp only [spec_ConfigText.l0,spec_l8Words.f,Option.bind_some]
 show Ev (fun k => if (i : Int) < 5 then (if 0 ≤ (i : Int) then (if (i : Int) < (wordsB.length : Int) then _ else _) else _) else _) R
 refine ev_pos (by omega) (ev_pos (by omega) (ev_pos (show (i : Int) < 7 by omega) ?_))
 show Ev (fun k => if (bs t).size + (rdOf ByteArray.empty wordsB (i : Int)).size ≤ 9223372036854775807 then _ else _) R
 simp only [er,b61,b10,bs_append,bs_size]
 refine ev_pos (by omega) (ev_pos (by simp only [List.length_append];omega) (ev_pos (by omega) (Ev.bind (specDigits _ (by omega) (by omega)) ?_)))
 simp only [bs_append,bs_size]
 refine ev_pos (by simp only [List.length_append,List.length_singleton];omega) (ev_pos (by simp only [List.length_append,List.length_singleton];omega) ?_)
 rw [w64 (x := (i : Int) + 1) (by omega) (by omega)]
 have e : t ++ cfgW.getD i [] ++ [61] ++ Lib.itoa (rd nums (i : Int)) ++ [10] = t ++ (kv i (Lib.itoa (rd nums (i : Int))) ++ [10]) := by
  unfold kv
  simp
 rw [e]
 exact h
theorem specCT_l1 (c : Cfg) (hs : SignsOk c.2.2.2.2.2.2.2) (hl : c.2.2.2.2.2.2.2.length ≤ 4) (t : List UInt8) (ht : t.length ≤ 1000) : ∀ (d n : Nat),n + d = c.2.2.2.2.2.2.2.length →
  Ev (fun k => spec_ConfigText.l1 k (bs t) (((c.2.2.2.2.2.2.2.take n).map sgW).map bs) (n : Int) c.1 c.2.1 c.2.2.1 c.2.2.2.1 c.2.2.2.2.1 c.2.2.2.2.2.1 c.2.2.2.2.2.2.1 c.2.2.2.2.2.2.2) (bs (t ++ (kv 6 (signsTxt c.2.2.2.2.2.2.2) ++ [10]))) := by
 have b6 : (⟨#[115,105,103,110,115,61]⟩ : ByteArray) = bs [115,105,103,110,115,61] := rfl
 have b10 : (⟨#[10]⟩ : ByteArray) = bs [10] := rfl
 have b44 : (⟨#[44]⟩ : ByteArray) = bs [44] := rfl
 intro d
 induction d with
 | zero =>
  intro n hn
  obtain rfl : n = c.2.2.2.2.2.2.2.length := by omega
  refine ev_succ ?_
  simp only [spec_ConfigText.l1,List.take_length,b6,b10,b44,bs_append,bs_size]
  have hj := specJoined_f [44] (c.2.2.2.2.2.2.2.map sgW) 1 (by rw [List.length_map];omega) (fun y hy => by obtain ⟨z,_,rfl⟩ := List.mem_map.1 hy;rw [sgW_len];exact Nat.le_refl _) (by simp)
  have hst := signsTxt_len _ hl
  refine ev_neg (by omega) (ev_pos (by omega) (Ev.bind hj ?_))
  show Ev (fun k => if (bs (t ++ [115,105,103,110,115,61])).size + (bs (signsTxt c.2.2.2.2.2.2.2)).size ≤ 9223372036854775807 then _ else _) _
  simp only [bs_append,bs_size]
  refine ev_pos (by simp only [List.length_append,List.length_cons,List.length_nil];omega) (ev_pos (by show (t ++ [115,105,103,110,115,61] ++ signsTxt c.2.2.2.2.2.2.2).length + 1 ≤ _;simp only [List.length_append,List.length_cons,List.length_nil];omega) (ev_eq (Ev.now _) ?_))
  show bs (t ++ [115,105,103,110,115,61] ++ signsTxt c.2.2.2.2.2.2.2 ++ [10]) = _
  congr 1
  simp [kv,cfgW]
 | succ d ih =>
  intro n hn
  have h := ih (n + 1) (by omega)
  obtain ⟨s0,s1⟩ := hs n (by omega)
  have hget : c.2.2.2.2.2.2.2[n]? = some (rd c.2.2.2.2.2.2.2 (n : Int)) := by
   have := gd_eq (0 : Int) (xs := c.2.2.2.2.2.2.2) (i := (n : Int)) (by omega) (by omega)
   exact this
  refine ev_succ ?_
  simp only [spec_ConfigText.l1,Option.bind_some]
  have hw : wrap64 (rd c.2.2.2.2.2.2.2 (n : Int) + 1) = rd c.2.2.2.2.2.2.2 (n : Int) + 1 := w64 (by omega) (by omega)
  rw [hw]
  refine ev_pos (by omega) (ev_pos (by omega) (ev_pos (by omega) (ev_pos (by simp;omega) (ev_pos (by simp;omega) ?_))))
  rw [w64 (x := (n : Int) + 1) (by omega) (by omega)]
  have e : (((c.2.2.2.2.2.2.2.take n).map sgW).map bs) ++ [rdOf ByteArray.empty [(⟨#[45]⟩ : ByteArray),(⟨#[48]⟩ : ByteArray),(⟨#[43]⟩ : ByteArray)] (rd c.2.2.2.2.2.2.2 (n : Int) + 1)] = ((c.2.2.2.2.2.2.2.take (n + 1)).map sgW).map bs := by
   rw [List.take_add_one,hget]
   simp only [Option.toList,List.map_append,List.map_cons,List.map_nil]
   congr 2
   rcases (show rd c.2.2.2.2.2.2.2 (n : Int) = -1 ∨ rd c.2.2.2.2.2.2.2 (n : Int) = 0 ∨ rd c.2.2.2.2.2.2.2 (n : Int) = 1 by omega) with z | z | z <;> rw [z] <;> rfl
  rw [e]
  exact h
theorem kv_len (i : Nat) (hi : i < 7) (v : List UInt8) : (kv i v).length ≤ 8 + v.length := by
 unfold kv
 rcases (show i = 0 ∨ i = 1 ∨ i = 2 ∨ i = 3 ∨ i = 4 ∨ i = 5 ∨ i = 6 by omega) with rfl | rfl | rfl | rfl | rfl | rfl | rfl <;> simp [cfgW] <;> omega
theorem specConfigText (c : Cfg) (hl : c.2.2.2.2.2.2.2.length ≤ 1048576) : Ev (fun k => spec_ConfigText.f k c.1 c.2.1 c.2.2.1 c.2.2.2.1 c.2.2.2.2.1 c.2.2.2.2.2.1 c.2.2.2.2.2.2.1 c.2.2.2.2.2.2.2) (bs (open Classical in if COk c then cfgText c else [])) := by
 unfold spec_ConfigText.f spec_l8Numbers.f
 have ho := specConfigOk c.1 c.2.1 c.2.2.1 c.2.2.2.1 c.2.2.2.2.1 c.2.2.2.2.2.1 c.2.2.2.2.2.2.1 c.2.2.2.2.2.2.2 hl
 by_cases hC : COk c
 ·rw [if_pos hC]
  replace ho := ev_eq ho (dec_true hC)
  refine Ev.bind ho (ev_pos rfl ?_)
  simp only [Option.bind_some]
  obtain ⟨⟨⟨a0,a1⟩,⟨b0,b1⟩,⟨c0,c1⟩,⟨d0,d1⟩,⟨e0,e1⟩⟩,hS,⟨g0,g1⟩,⟨f0,f1⟩,h4⟩ := hC
  have la := itoa20 (n := c.1) (by omega) (by omega)
  have lb := itoa20 (n := c.2.1) (by omega) (by omega)
  have lc := itoa20 (n := c.2.2.1) (by omega) (by omega)
  have ld := itoa20 (n := c.2.2.2.1) (by omega) (by omega)
  have le := itoa20 (n := c.2.2.2.2.1) (by omega) (by omega)
  have lf := itoa20 (n := c.2.2.2.2.2.1) (by omega) (by omega)
  have lg := itoa20 (n := c.2.2.2.2.2.2.1) (by omega) (by omega)
  have k0 := kv_len 0 (by omega) (Lib.itoa c.1)
  have k1 := kv_len 1 (by omega) (Lib.itoa c.2.1)
  have k2 := kv_len 2 (by omega) (Lib.itoa c.2.2.1)
  have k3 := kv_len 3 (by omega) (Lib.itoa c.2.2.2.1)
  have k4 := kv_len 4 (by omega) (Lib.itoa c.2.2.2.2.1)
  have k5 := kv_len 5 (by omega) (Lib.itoa c.2.2.2.2.2.1 ++ 47 :: Lib.itoa c.2.2.2.2.2.2.1)
  rw [List.length_append,List.length_cons] at k5
  generalize hnums : [c.1,c.2.1,c.2.2.1,c.2.2.2.1,c.2.2.2.2.1] = nums
  have r0 : rd nums ((0 : Nat) : Int) = c.1 := by rw [← hnums];rfl
  have r1 : rd nums ((1 : Nat) : Int) = c.2.1 := by rw [← hnums];rfl
  have r2 : rd nums ((2 : Nat) : Int) = c.2.2.1 := by rw [← hnums];rfl
  have r3 : rd nums ((3 : Nat) : Int) = c.2.2.2.1 := by rw [← hnums];rfl
  have r4 : rd nums ((4 : Nat) : Int) = c.2.2.2.2.1 := by rw [← hnums];rfl
  have hn : nums.length = 5 := by rw [← hnums];rfl
  refine specCT_step nums c _ 0 (by omega) hn [] (by simp) (by rw [r0];omega) (by rw [r0];omega) ?_
  rw [r0]
  refine specCT_step nums c _ 1 (by omega) hn _ (by simp only [List.length_append,List.length_nil,List.length_singleton];omega) (by rw [r1];omega) (by rw [r1];omega) ?_
  rw [r1]
  refine specCT_step nums c _ 2 (by omega) hn _ (by simp only [List.length_append,List.length_nil,List.length_singleton];omega) (by rw [r2];omega) (by rw [r2];omega) ?_
  rw [r2]
  refine specCT_step nums c _ 3 (by omega) hn _ (by simp only [List.length_append,List.length_nil,List.length_singleton];omega) (by rw [r3];omega) (by rw [r3];omega) ?_
  rw [r3]
  refine specCT_step nums c _ 4 (by omega) hn _ (by simp only [List.length_append,List.length_nil,List.length_singleton];omega) (by rw [r4];omega) (by rw [r4];omega) ?_
  rw [r4]
  refine ev_succ ?_
  have b5 : (⟨#[114,97,116,101,61]⟩ : ByteArray) = bs [114,97,116,101,61] := rfl
  have b47 : (⟨#[47]⟩ : ByteArray) = bs [47] := rfl
  have b10 : (⟨#[10]⟩ : ByteArray) = bs [10] := rfl
  simp only [spec_ConfigText.l0,b5,b47,b10,bs_append,bs_size]
  refine ev_neg (by omega) (ev_pos (by simp only [List.length_append,List.length_nil,List.length_singleton];omega) (Ev.bind (specDigits _ (by omega) (by omega)) ?_))
  simp only [bs_append,bs_size]
  refine ev_pos (by simp only [List.length_append,List.length_cons,List.length_nil,List.length_singleton];omega) (ev_pos (by simp only [List.length_append,List.length_cons,List.length_nil,List.length_singleton];omega) (Ev.bind (specDigits _ (by omega) (by omega)) ?_))
  simp only [bs_append,bs_size]
  refine ev_pos (by simp only [List.length_append,List.length_cons,List.length_nil,List.length_singleton];omega) (ev_pos (by simp only [List.length_append,List.length_cons,List.length_nil,List.length_singleton];omega) ?_)
  have eb : ∀ t : List UInt8,t = cfgBase c → t = cfgBase c := fun _ h => h
  have ebase : [] ++ (kv 0 (Lib.itoa c.1) ++ [10]) ++ (kv 1 (Lib.itoa c.2.1) ++ [10]) ++ (kv 2 (Lib.itoa c.2.2.1) ++ [10]) ++ (kv 3 (Lib.itoa c.2.2.2.1) ++ [10]) ++ (kv 4 (Lib.itoa c.2.2.2.2.1) ++ [10]) ++ [114,97,116,101,61] ++ Lib.itoa c.2.2.2.2.2.1 ++ [47] ++ Lib.itoa c.2.2.2.2.2.2.1 ++ [10] = cfgBase c := by
   simp [cfgBase,kv,cfgW]
  have hbl : (cfgBase c).length ≤ 1000 := by
   unfold cfgBase
   simp only [List.length_append,List.length_cons,List.length_nil,List.length_singleton] at k5 ⊢
   omega
  unfold cfgText
  by_cases hz : c.2.2.2.2.2.2.2 = []
  ·rw [if_pos hz]
   exact ev_pos (by rw [hz];rfl) (ev_eq (Ev.now _) (congrArg bs ebase))
  ·rw [if_neg hz]
   refine ev_neg (by have := List.length_pos_iff.2 hz;omega) ?_
   rw [ebase]
   exact specCT_l1 c hS (by omega) (cfgBase c) hbl _ 0 (Nat.zero_add _)
 ·rw [if_neg hC]
  replace ho := ev_eq ho (dec_false hC)
  exact Ev.bind ho (ev_neg (by simp) (Ev.now _))
theorem ext_sign (x : Int) (h0 : -1 ≤ x) (h1 : x ≤ 1) : (⟨#[45,48,43]⟩ : ByteArray).extract (x + 1).toNat (x + 2).toNat = bs (sgW x) := by
 rcases (show x = -1 ∨ x = 0 ∨ x = 1 by omega) with rfl | rfl | rfl <;> rfl
theorem implSignsText_l0 (l : List Int) (hs : SignsOk l) (hl : l.length ≤ 4) : ∀ (d n : Nat),n + d = l.length →
  Ev (fun k => impl_signsText.l0 k (((l.take n).map sgW).map bs) l (l.length : Int) (n : Int)) (bs (signsTxt l)) := by
 intro d
 induction d with
 | zero =>
  intro n hn
  obtain rfl : n = l.length := by omega
  refine ev_succ ?_
  simp only [impl_signsText.l0,List.take_length]
  have hst := signsTxt_len l hl
  have hj : impl_Joined.f ((l.map sgW).map bs) (⟨#[44]⟩ : ByteArray) = some (bs (signsTxt l)) := by
   unfold impl_Joined.f strings_Join.f
   have e : ((l.map sgW).map bs).map (fun x : ByteArray => x.data.toList) = l.map sgW := by
    rw [List.map_map,List.map_map]
    refine List.map_congr_left fun x _ => ?_
    exact list_bs _
   rw [e,sep_list]
   rw [if_pos ⟨by simp;omega,by show (signsTxt l).length ≤ _;omega⟩]
   rfl
  exact ev_neg (by omega) (Ev.bind (ev_of hj) (Ev.now _))
 | succ d ih =>
  intro n hn
  have h := ih (n + 1) (by omega)
  obtain ⟨s0,s1⟩ := hs n (by omega)
  have hget : l[n]? = some (rd l (n : Int)) := by
   have := gd_eq (0 : Int) (xs := l) (i := (n : Int)) (by omega) (by omega)
   exact this
  refine ev_succ ?_
  simp only [impl_signsText.l0]
  rw [w64 (x := rd l (n : Int) + 1) (by omega) (by omega),w64 (x := rd l (n : Int) + 2) (by omega) (by omega)]
  refine ev_pos (by omega) (ev_pos (by omega) (ev_pos (by omega) (ev_pos (by omega) (ev_pos (by omega) (ev_pos (by omega) (ev_pos (by simp;omega) ?_))))))
  rw [w64 (x := (n : Int) + 1) (by omega) (by omega),ext_sign _ s0 s1]
  have e : (((l.take n).map sgW).map bs) ++ [bs (sgW (rd l (n : Int)))] = ((l.take (n + 1)).map sgW).map bs := by
   rw [List.take_add_one,hget]
   simp
  rw [e]
  exact h
theorem implConfigText (c : Cfg) (hl : c.2.2.2.2.2.2.2.length ≤ 1048576) : Ev (fun k => impl_ConfigText.f k c.1 c.2.1 c.2.2.1 c.2.2.2.1 c.2.2.2.2.1 c.2.2.2.2.2.1 c.2.2.2.2.2.2.1 c.2.2.2.2.2.2.2) (bs (open Classical in if COk c then cfgText c else [])) := by
 unfold impl_ConfigText.f
 have ho := implConfigOk c.1 c.2.1 c.2.2.1 c.2.2.2.1 c.2.2.2.2.1 c.2.2.2.2.2.1 c.2.2.2.2.2.2.1 c.2.2.2.2.2.2.2 hl
 by_cases hC : COk c
 ·rw [if_pos hC]
  replace ho := ev_eq ho (dec_true hC)
  refine Ev.bind ho (ev_pos rfl ?_)
  obtain ⟨⟨⟨a0,a1⟩,⟨b0,b1⟩,⟨c0,c1⟩,⟨d0,d1⟩,⟨e0,e1⟩⟩,hS,⟨g0,g1⟩,⟨f0,f1⟩,h4⟩ := hC
  have la := itoa20 (n := c.1) (by omega) (by omega)
  have lb := itoa20 (n := c.2.1) (by omega) (by omega)
  have lc := itoa20 (n := c.2.2.1) (by omega) (by omega)
  have ld := itoa20 (n := c.2.2.2.1) (by omega) (by omega)
  have le := itoa20 (n := c.2.2.2.2.1) (by omega) (by omega)
  have lf := itoa20 (n := c.2.2.2.2.2.1) (by omega) (by omega)
  have lg := itoa20 (n := c.2.2.2.2.2.2.1) (by omega) (by omega)
  rw [implDig c.1 (by omega) (by omega),implDig c.2.1 (by omega) (by omega),implDig c.2.2.1 (by omega) (by omega),implDig c.2.2.2.1 (by omega) (by omega),implDig c.2.2.2.2.1 (by omega) (by omega),implDig c.2.2.2.2.2.1 (by omega) (by omega),implDig c.2.2.2.2.2.2.1 (by omega) (by omega)]
  have w0 : (⟨#[114,111,117,110,100,115,61]⟩ : ByteArray) = bs [114,111,117,110,100,115,61] := rfl
  have w1 : (⟨#[10,100,101,112,116,104,61]⟩ : ByteArray) = bs [10,100,101,112,116,104,61] := rfl
  have w2 : (⟨#[10,98,105,110,115,61]⟩ : ByteArray) = bs [10,98,105,110,115,61] := rfl
  have w3 : (⟨#[10,108,97,109,98,100,97,61]⟩ : ByteArray) = bs [10,108,97,109,98,100,97,61] := rfl
  have w4 : (⟨#[10,114,111,119,115,61]⟩ : ByteArray) = bs [10,114,111,119,115,61] := rfl
  have w5 : (⟨#[10,114,97,116,101,61]⟩ : ByteArray) = bs [10,114,97,116,101,61] := rfl
  have w6 : (⟨#[115,105,103,110,115,61]⟩ : ByteArray) = bs [115,105,103,110,115,61] := rfl
  have b47 : (⟨#[47]⟩ : ByteArray) = bs [47] := rfl
  have b10 : (⟨#[10]⟩ : ByteArray) = bs [10] := rfl
  simp only [Option.bind_some,w0,w1,w2,w3,w4,w5,w6,b47,b10,bs_append,bs_size]
  generalize ha : Lib.itoa c.1 = ta at la ⊢
  generalize hb : Lib.itoa c.2.1 = tb at lb ⊢
  generalize hc : Lib.itoa c.2.2.1 = tc at lc ⊢
  generalize hd : Lib.itoa c.2.2.2.1 = td at ld ⊢
  generalize he : Lib.itoa c.2.2.2.2.1 = te at le ⊢
  generalize hf : Lib.itoa c.2.2.2.2.2.1 = tf at lf ⊢
  generalize hg : Lib.itoa c.2.2.2.2.2.2.1 = tg at lg ⊢
  refine ev_pos (by omega) ?_
  iterate 13 refine ev_pos (by simp only [List.length_append,List.length_cons,List.length_nil];omega) ?_
  have ebase : [114,111,117,110,100,115,61] ++ ta ++ [10,100,101,112,116,104,61] ++ tb ++ [10,98,105,110,115,61] ++ tc ++ [10,108,97,109,98,100,97,61] ++ td ++ [10,114,111,119,115,61] ++ te ++ [10,114,97,116,101,61] ++ tf ++ [47] ++ tg ++ [10] = cfgBase c := by
   unfold cfgBase
   rw [ha,hb,hc,hd,he,hf,hg]
   simp [kv,cfgW]
  have hbl := congrArg List.length ebase
  simp only [List.length_append,List.length_cons,List.length_nil] at hbl
  unfold cfgText
  by_cases hz : c.2.2.2.2.2.2.2 = []
  ·rw [if_pos hz]
   exact ev_neg (by rw [hz];simp) (ev_eq (Ev.now _) (congrArg bs ebase))
  ·rw [if_neg hz]
   have hst := signsTxt_len _ (show c.2.2.2.2.2.2.2.length ≤ 4 by omega)
   refine ev_pos (by have := List.length_pos_iff.2 hz;omega) (Ev.bind (implSignsText_l0 _ hS (by omega) _ 0 (Nat.zero_add _)) ?_)
   simp only [bs_append,bs_size]
   refine ev_pos (by omega) (ev_pos (by simp only [List.length_append,List.length_cons,List.length_nil];omega) (ev_pos (by simp only [List.length_append,List.length_cons,List.length_nil];omega) (ev_eq (Ev.now _) (congrArg bs ?_))))
   rw [ebase]
   simp [kv,cfgW]
 ·rw [if_neg hC]
  replace ho := ev_eq ho (dec_false hC)
  exact Ev.bind ho (ev_neg (by simp) (Ev.now _))
theorem itoa_byte {n : Int} {b : UInt8} (h : b ∈ Lib.itoa n) : b = 45 ∨ (48 ≤ b.toNat ∧ b.toNat ≤ 57) := by
 by_cases hn : n < 0
 ·rw [itoa_neg hn] at h
  rcases List.mem_cons.1 h with e | h
  ·exact .inl e
  ·exact .inr (decDigits_digit h)
 ·rw [itoa_pos (by omega)] at h
  exact .inr (decDigits_digit h)
theorem itoa_not {n : Int} {b : UInt8} (h1 : b.toNat < 45 ∨ b.toNat = 46 ∨ b.toNat = 47 ∨ 57 < b.toNat) : b ∉ Lib.itoa n := by
 intro h
 rcases itoa_byte h with e | ⟨e0,e1⟩
 ·subst e
  have : (45 : UInt8).toNat = 45 := rfl
  omega
 ·omega
theorem partsL_mid {c : UInt8} : ∀ (w l : List UInt8),c ∉ w → partsL c (w ++ c :: l) = w :: partsL c l
 | [],l,_ => by
  rw [List.nil_append,partsL,if_pos rfl]
 | b :: w,l,h => by
  rw [List.mem_cons,not_or] at h
  rw [List.cons_append,partsL,if_neg (fun e => h.1 e.symm),partsL_mid w l h.2]
theorem partsL_none {c : UInt8} : ∀ (w : List UInt8),c ∉ w → partsL c w = [w]
 | [],_ => rfl
 | b :: w,h => by
  rw [List.mem_cons,not_or] at h
  rw [partsL,if_neg (fun e => h.1 e.symm),partsL_none w h.2]
theorem sgW_not (x : Int) : 44 ∉ sgW x := by
 unfold sgW
 repeat (first | split | decide)
theorem partsL_signs : ∀ (x : Int) (r : List Int),partsL 44 (Lib.join ((x :: r).map sgW) [44]) = (x :: r).map sgW
 | x,[] => by
  rw [List.map_cons,List.map_nil,Lib.join_one]
  exact partsL_none _ (sgW_not x)
 | x,y :: r => by
  have ih := partsL_signs y r
  rw [List.map_cons,List.map_cons,Lib.join_cons,joinTail_cons]
  rw [List.map_cons,Lib.join_cons] at ih
  show partsL 44 (sgW x ++ 44 :: (sgW y ++ Lib.joinTail [44] (r.map sgW))) = _
  rw [partsL_mid _ _ (sgW_not x),ih]
theorem signOf_sgW {x : Int} (h0 : -1 ≤ x) (h1 : x ≤ 1) : signOf (sgW x) = some x := by
 rcases (show x = -1 ∨ x = 0 ∨ x = 1 by omega) with rfl | rfl | rfl <;> rfl
theorem signsL_sgW : ∀ (l : List Int),(∀ x ∈ l,-1 ≤ x ∧ x ≤ 1) → signsL (l.map sgW) = some l
 | [],_ => rfl
 | x :: l,h => by
  obtain ⟨h0,h1⟩ := h x (List.mem_cons_self ..)
  rw [List.map_cons,signsL,signOf_sgW h0 h1,signsL_sgW l fun y hy => h y (List.mem_cons_of_mem _ hy)]
  rfl
theorem signs_mem {l : List Int} (h : SignsOk l) : ∀ x ∈ l,-1 ≤ x ∧ x ≤ 1 := by
 intro x hx
 obtain ⟨j,hj,e⟩ := List.getElem_of_mem hx
 have := h j hj
 have er : rd l (j : Int) = x := rd_of (by rw [List.getElem?_eq_getElem hj,e])
 rw [er] at this
 exact this
theorem signsOf_txt {l : List Int} (h : SignsOk l) (hl : l.length ≤ 4) (hn : l ≠ []) : signsOf (signsTxt l) = some l := by
 cases l with
 | nil => exact absurd rfl hn
 | cons x r =>
  unfold signsOf signsTxt
  rw [partsL_signs,if_pos (by rw [List.length_map];exact hl)]
  exact signsL_sgW _ (signs_mem h)
theorem layC_num (c : Cfg) (i : Nat) (n : Int) (hi : i < 5) (h0 : cfgLo i ≤ n) (h1 : n ≤ cfgHi i) : layC c i (Lib.itoa n) = (0,cfgPut c i n) := by
 have e : 0 ≤ cfgLo i ∧ cfgHi i ≤ 100 := by
  rcases (show i = 0 ∨ i = 1 ∨ i = 2 ∨ i = 3 ∨ i = 4 by omega) with rfl | rfl | rfl | rfl | rfl <;> decide
 unfold layC
 rw [if_neg (by omega),if_neg (by omega),numOf_itoa (by omega) (by omega),if_pos rfl,if_pos ⟨h0,h1⟩]
theorem layC_rt (c : Cfg) (f g : Int) (hf : 1 ≤ f ∧ f ≤ g) (hg : 1 ≤ g ∧ g ≤ 1000) : layC c 5 (Lib.itoa f ++ 47 :: Lib.itoa g) = (0,c.1,c.2.1,c.2.2.1,c.2.2.2.1,c.2.2.2.2.1,f,g,c.2.2.2.2.2.2.2) := by
 have e : rateOf (Lib.itoa f ++ 47 :: Lib.itoa g) = (0,f,g) := by
  unfold rateOf
  rw [cutAt_mid (itoa_not (.inr (.inr (.inl rfl))))]
  dsimp only
  rw [numOf_itoa (by omega) (by omega),numOf_itoa (by omega) (by omega),if_pos ⟨rfl,rfl⟩,if_pos ⟨hg,hf⟩]
 rw [layC_rate c _ _ e,if_pos rfl]
theorem layC_sg (c : Cfg) (l : List Int) (h : SignsOk l) (hl : l.length ≤ 4) (hn : l ≠ []) : layC c 6 (signsTxt l) = (0,c.1,c.2.1,c.2.2.1,c.2.2.2.1,c.2.2.2.2.1,c.2.2.2.2.2.1,c.2.2.2.2.2.2.1,l) := by
 unfold layC
 rw [if_pos rfl,signsOf_txt h hl hn]
theorem word_not {i : Nat} (hi : i < 7) {b : UInt8} (hb : b = 61 ∨ b = 10) : b ∉ cfgW.getD i [] := by
 rcases (show i = 0 ∨ i = 1 ∨ i = 2 ∨ i = 3 ∨ i = 4 ∨ i = 5 ∨ i = 6 by omega) with rfl | rfl | rfl | rfl | rfl | rfl | rfl <;> rcases hb with rfl | rfl <;> decide
theorem runC_step {c c' : Cfg} {met : Nat → Bool} {i : Nat} {v : List UInt8} (r : List (List UInt8)) (j : Nat) (hi : i < 7) (hm : met i = false) (h : layC c i v = (0,c')) : runC (kv i v :: r) j c met = runC r (j + 1) c' (fun q => met q || decide (q = i)) := by
 have e : lineC c met (kv i v) = (0,c',i) := by
  unfold lineC kv
  rw [cutAt_mid (word_not hi (.inl rfl))]
  dsimp only
  rw [wix_at hi,if_neg (by omega),hm,if_neg (by simp),h]
 rw [runC,if_neg (by unfold kv;simp),e,if_pos rfl]
theorem kv_parts {i : Nat} {v : List UInt8} (hi : i < 7) (hv : 10 ∉ v) (l : List UInt8) : partsL 10 (kv i v ++ [10] ++ l) = kv i v :: partsL 10 l := by
 rw [List.append_assoc]
 refine partsL_mid _ _ ?_
 unfold kv
 rw [List.mem_append,List.mem_cons,not_or,not_or]
 exact ⟨word_not hi (.inr rfl),by decide,hv⟩
theorem signsTxt_not10 (l : List Int) : 10 ∉ signsTxt l := by
 have h1 : ∀ x : Int,10 ∉ sgW x := by
  intro x
  unfold sgW
  repeat (first | split | decide)
 have h2 : ∀ r : List Int,10 ∉ Lib.joinTail [44] (r.map sgW) := by
  intro r
  induction r with
  | nil => simp [Lib.joinTail]
  | cons y r ih =>
   rw [List.map_cons,joinTail_cons]
   simp only [List.mem_append,List.mem_singleton,not_or]
   exact ⟨by decide,h1 y,ih⟩
 unfold signsTxt
 cases l with
 | nil => simp [Lib.join_nil]
 | cons x r =>
  rw [List.map_cons,Lib.join_cons,List.mem_append,not_or]
  exact ⟨h1 x,h2 r⟩
theorem readConfig_text (c : Cfg) (hC : COk c) : readConfig (bs (cfgText c)) = mkR c 0 0 0 := by
 obtain ⟨⟨⟨a0,a1⟩,⟨b0,b1⟩,⟨c0,c1⟩,⟨d0,d1⟩,⟨e0,e1⟩⟩,hS,⟨g0,g1⟩,⟨f0,f1⟩,h4⟩ := hC
 have ni : ∀ n : Int,10 ∉ Lib.itoa n := fun n => itoa_not (.inl (by decide))
 have nr : 10 ∉ Lib.itoa c.2.2.2.2.2.1 ++ 47 :: Lib.itoa c.2.2.2.2.2.2.1 := by
  rw [List.mem_append,List.mem_cons,not_or,not_or]
  exact ⟨ni _,by decide,ni _⟩
 have hp : ∀ t,partsL 10 (cfgBase c ++ t) = kv 0 (Lib.itoa c.1) :: kv 1 (Lib.itoa c.2.1) :: kv 2 (Lib.itoa c.2.2.1) :: kv 3 (Lib.itoa c.2.2.2.1) :: kv 4 (Lib.itoa c.2.2.2.2.1) :: kv 5 (Lib.itoa c.2.2.2.2.2.1 ++ 47 :: Lib.itoa c.2.2.2.2.2.2.1) :: partsL 10 t := by
  intro t
  have e : cfgBase c ++ t = kv 0 (Lib.itoa c.1) ++ [10] ++ (kv 1 (Lib.itoa c.2.1) ++ [10] ++ (kv 2 (Lib.itoa c.2.2.1) ++ [10] ++ (kv 3 (Lib.itoa c.2.2.2.1) ++ [10] ++ (kv 4 (Lib.itoa c.2.2.2.2.1) ++ [10] ++ (kv 5 (Lib.itoa c.2.2.2.2.2.1 ++ 47 :: Lib.itoa c.2.2.2.2.2.2.1) ++ [10] ++ t))))) := by
   unfold cfgBase
   simp only [List.append_assoc]
  rw [e,kv_parts (by omega) (ni _),kv_parts (by omega) (ni _),kv_parts (by omega) (ni _),kv_parts (by omega) (ni _),kv_parts (by omega) (ni _),kv_parts (by omega) nr]
 have la := itoa20 (n := c.1) (by omega) (by omega)
 have lb := itoa20 (n := c.2.1) (by omega) (by omega)
 have lc := itoa20 (n := c.2.2.1) (by omega) (by omega)
 have ld := itoa20 (n := c.2.2.2.1) (by omega) (by omega)
 have le := itoa20 (n := c.2.2.2.2.1) (by omega) (by omega)
 have lf := itoa20 (n := c.2.2.2.2.2.1) (by omega) (by omega)
 have lg := itoa20 (n := c.2.2.2.2.2.2.1) (by omega) (by omega)
 have k0 := kv_len 0 (by omega) (Lib.itoa c.1)
 have k1 := kv_len 1 (by omega) (Lib.itoa c.2.1)
 have k2 := kv_len 2 (by omega) (Lib.itoa c.2.2.1)
 have k3 := kv_len 3 (by omega) (Lib.itoa c.2.2.2.1)
 have k4 := kv_len 4 (by omega) (Lib.itoa c.2.2.2.2.1)
 have k5 := kv_len 5 (by omega) (Lib.itoa c.2.2.2.2.2.1 ++ 47 :: Lib.itoa c.2.2.2.2.2.2.1)
 have k6 := kv_len 6 (by omega) (signsTxt c.2.2.2.2.2.2.2)
 have k7 := signsTxt_len c.2.2.2.2.2.2.2 (by omega)
 rw [List.length_append,List.length_cons] at k5
 have hbl : (cfgBase c).length ≤ 1000 := by
  unfold cfgBase
  simp only [List.length_append,List.length_cons,List.length_nil,List.length_singleton] at k5 ⊢
  omega
 have htl : (cfgText c).length ≤ 2000 := by
  unfold cfgText
  split
  ·omega
  ·rw [List.length_append,List.length_append]
   simp only [List.length_singleton]
   omega
 unfold readConfig
 rw [if_neg (by rw [bs_size];omega),list_bs]
 have st : ∀ r,runC (kv 0 (Lib.itoa c.1) :: kv 1 (Lib.itoa c.2.1) :: kv 2 (Lib.itoa c.2.2.1) :: kv 3 (Lib.itoa c.2.2.2.1) :: kv 4 (Lib.itoa c.2.2.2.2.1) :: kv 5 (Lib.itoa c.2.2.2.2.2.1 ++ 47 :: Lib.itoa c.2.2.2.2.2.2.1) :: r) 0 (4,2,4,1,1,1,1,[]) (fun _ => false) = runC r 6 (c.1,c.2.1,c.2.2.1,c.2.2.2.1,c.2.2.2.2.1,c.2.2.2.2.2.1,c.2.2.2.2.2.2.1,[]) (fun q => (((((false || decide (q = 0)) || decide (q = 1)) || decide (q = 2)) || decide (q = 3)) || decide (q = 4)) || decide (q = 5)) := by
  intro r
  rw [runC_step _ _ (by omega) rfl (layC_num _ 0 _ (by omega) a0 a1),runC_step _ _ (by omega) rfl (layC_num _ 1 _ (by omega) b0 b1),runC_step _ _ (by omega) rfl (layC_num _ 2 _ (by omega) c0 c1),runC_step _ _ (by omega) rfl (layC_num _ 3 _ (by omega) d0 d1),runC_step _ _ (by omega) rfl (layC_num _ 4 _ (by omega) e0 e1),runC_step _ _ (by omega) rfl (layC_rt _ _ _ ⟨f0,f1⟩ ⟨g0,g1⟩)]
  rfl
 have fin : ∀ j c met,runC [[]] j c met = mkR c 0 0 0 := by
  intro j c met
  rw [runC,if_pos rfl,runC]
 unfold cfgText
 by_cases hz : c.2.2.2.2.2.2.2 = []
 ·rw [if_pos hz]
  have := hp []
  rw [List.append_nil] at this
  rw [this,st]
  show runC [[]] _ _ _ = _
  rw [fin]
  unfold mkR
  rw [hz]
 ·rw [if_neg hz,hp]
  have e6 := kv_parts (i := 6) (v := signsTxt c.2.2.2.2.2.2.2) (by omega) (signsTxt_not10 _) []
  rw [List.append_nil] at e6
  rw [e6,st]
  show runC (kv 6 _ :: [[]]) _ _ _ = _
  rw [runC_step _ _ (by omega) rfl (layC_sg _ _ hS (by omega) hz),fin]
theorem signsL_ok : ∀ {r : List (List UInt8)} {v : List Int},signsL r = some v → ∀ x ∈ v,-1 ≤ x ∧ x ≤ 1
 | [],v,h => by cases h;intro x hx;cases hx
 | p :: r,v,h => by
  unfold signsL at h
  cases hp : signOf p with
  | none => rw [hp] at h;cases h
  | some x =>
   rw [hp] at h
   cases hr : signsL r with
   | none => rw [hr] at h;cases h
   | some y =>
    rw [hr] at h
    cases h
    intro z hz
    rcases List.mem_cons.1 hz with e | hz
    ·subst e
     unfold signOf at hp
     split at hp
     ·cases hp;decide
     ·split at hp
      ·cases hp;decide
      ·split at hp
       ·cases hp;decide
       ·cases hp
    ·exact signsL_ok hr z hz
theorem signsOf_ok {l : List UInt8} {v : List Int} (h : signsOf l = some v) : SignsOk v ∧ v.length ≤ 4 := by
 have h4 := signsOf_len h
 unfold signsOf at h
 split at h
 ·refine ⟨fun j hj => ?_,h4⟩
  have := signsL_ok h (v[j]) (List.getElem_mem hj)
  have er : rd v (j : Int) = v[j] := rd_of (List.getElem?_eq_getElem hj)
  rw [er]
  exact this
 ·cases h
theorem layC_ok {c : Cfg} {i : Nat} {v : List UInt8} (hi : i < 7) (hC : COk c) (h : (layC c i v).1 = 0) : COk (layC c i v).2 := by
 have hC0 := hC
 obtain ⟨⟨ha,hb,hc,hd,he⟩,hS,hg,hf,h4⟩ := hC
 unfold layC at h ⊢
 by_cases h6 : i = 6
 ·subst h6
  rw [if_pos rfl] at h ⊢
  cases hs : signsOf v with
  | none => rw [hs] at h;cases h
  | some l =>
   obtain ⟨s1,s2⟩ := signsOf_ok hs
   exact ⟨⟨ha,hb,hc,hd,he⟩,s1,hg,hf,show (l.length : Int) ≤ 4 by omega⟩
 rw [if_neg h6] at h ⊢
 by_cases h5 : i = 5
 ·subst h5
  rw [if_pos rfl] at h ⊢
  by_cases hr : (rateOf v).1 = 0
  ·rw [if_pos hr]
   have : (1 ≤ (rateOf v).2.2 ∧ (rateOf v).2.2 ≤ 1000) ∧ 1 ≤ (rateOf v).2.1 ∧ (rateOf v).2.1 ≤ (rateOf v).2.2 := by
    unfold rateOf at hr ⊢
    split
    ·rename_i e;rw [e] at hr;cases hr
    ·rename_i p e
     rw [e] at hr
     dsimp only at hr
     by_cases x1 : (numOf (cutAt 47 v).1).2 = true ∧ (numOf p).2 = true
     ·rw [if_pos x1] at hr ⊢
      by_cases x2 : (1 ≤ (numOf p).1 ∧ (numOf p).1 ≤ 1000) ∧ 1 ≤ (numOf (cutAt 47 v).1).1 ∧ (numOf (cutAt 47 v).1).1 ≤ (numOf p).1
      ·rw [if_pos x2];exact x2
      ·rw [if_neg x2] at hr;cases hr
     ·rw [if_neg x1] at hr;cases hr
   exact ⟨⟨ha,hb,hc,hd,he⟩,hS,this.1,this.2,h4⟩
  ·rw [if_neg hr] at h;exact absurd h hr
 rw [if_neg h5] at h ⊢
 by_cases g : (numOf v).2 = true
 ·rw [if_pos g] at h ⊢
  by_cases r : cfgLo i ≤ (numOf v).1 ∧ (numOf v).1 ≤ cfgHi i
  ·rw [if_pos r]
   generalize (numOf v).1 = n at r
   obtain ⟨r0,r1⟩ := r
   rcases (show i = 0 ∨ i = 1 ∨ i = 2 ∨ i = 3 ∨ i = 4 by omega) with rfl | rfl | rfl | rfl | rfl
   ·exact ⟨⟨⟨r0,r1⟩,hb,hc,hd,he⟩,hS,hg,hf,h4⟩
   ·exact ⟨⟨ha,⟨r0,r1⟩,hc,hd,he⟩,hS,hg,hf,h4⟩
   ·exact ⟨⟨ha,hb,⟨r0,r1⟩,hd,he⟩,hS,hg,hf,h4⟩
   ·exact ⟨⟨ha,hb,hc,⟨r0,r1⟩,he⟩,hS,hg,hf,h4⟩
   ·exact ⟨⟨ha,hb,hc,hd,⟨r0,r1⟩⟩,hS,hg,hf,h4⟩
  ·rw [if_neg r] at h;cases h
 ·rw [if_neg g] at h;cases h
theorem lineC_ok {c : Cfg} {met : Nat → Bool} {l : List UInt8} (hC : COk c) (h : (lineC c met l).1 = 0) : COk (lineC c met l).2.1 := by
 unfold lineC at h ⊢
 split
 ·exact hC
 ·rename_i v e
  rw [e] at h
  dsimp only at h
  by_cases h7 : wix (cutAt 61 l).1 = 7
  ·rw [if_pos h7] at h;cases h
  ·rw [if_neg h7] at h ⊢
   by_cases hm : met (wix (cutAt 61 l).1) = true
   ·rw [if_pos hm] at h;cases h
   ·rw [if_neg hm] at h ⊢
    exact layC_ok (by rcases wix_word (cutAt 61 l).1 with g | ⟨g,_⟩ <;> omega) hC h
def cfgOf (t : Int × Int × Int × Int × Int × Int × Int × List Int × Int × Int × Int) : Cfg := (t.1,t.2.1,t.2.2.1,t.2.2.2.1,t.2.2.2.2.1,t.2.2.2.2.2.1,t.2.2.2.2.2.2.1,t.2.2.2.2.2.2.2.1)
theorem runC_ok : ∀ (r : List (List UInt8)) (i : Nat) (c : Cfg) (met : Nat → Bool),COk c → (runC r i c met).2.2.2.2.2.2.2.2.1 = 0 → COk (cfgOf (runC r i c met))
 | [],_,c,_,h,_ => h
 | l :: r,i,c,met,h,hz => by
  rw [runC] at hz ⊢
  by_cases hl : l = []
  ·rw [if_pos hl] at hz ⊢
   exact runC_ok r _ c met h hz
  ·rw [if_neg hl] at hz ⊢
   by_cases h0 : (lineC c met l).1 = 0
   ·rw [if_pos h0] at hz ⊢
    exact runC_ok r _ _ _ (lineC_ok h h0) hz
   ·rw [if_neg h0] at hz
    exact absurd hz h0
theorem readConfig_ok (s : ByteArray) (h : (readConfig s).2.2.2.2.2.2.2.2.1 = 0) : COk (cfgOf (readConfig s)) := by
 unfold readConfig at h ⊢
 by_cases hs : s.size > 4000
 ·rw [if_pos hs] at h;cases h
 ·rw [if_neg hs] at h ⊢
  exact runC_ok _ _ _ _ ⟨⟨by decide,by decide,by decide,by decide,by decide⟩,fun j hj => absurd hj (Nat.not_lt_zero _),by decide,by decide,by decide⟩ h
theorem and255 (x : Int) : 0 ≤ Go.bits .and .i64 x 255 ∧ Go.bits .and .i64 x 255 ≤ 255 := by
 simp only [Go.bits]
 have h : (BitVec.ofInt IntKind.i64.bits x &&& BitVec.ofInt IntKind.i64.bits 255).toNat ≤ 255 := by
  rw [BitVec.toNat_and]
  exact Nat.le_trans Nat.and_le_right (by decide)
 rw [IntKind.wrap_i64]
 omega
theorem l1New_l0 (l : List Int) (hl : l.length ≤ 35184372088832) : ∀ (d n : Nat) (x : Int),n + d = l.length → ∃ h,Ev (fun k => spec_l1New.l0 k l x (n : Int)) (l,0,h) := by
 intro d
 induction d with
 | zero =>
  intro n x hn
  refine ⟨x,ev_end fun k => ?_⟩
  simp only [spec_l1New.l0]
  rw [if_neg (by omega)]
 | succ d ih =>
  intro n x hn
  by_cases h4 : (n : Int) < 4000
  ·obtain ⟨h,e⟩ := ih (n + 1) (Go.bits .and .i64 (wrap64 ((wrap64 ((wrap64 (x * 131)) + (wrap64 (rd l n)))) + 7)) 1073741823) (by omega)
   refine ⟨h,Ev.step (fun k => ?_) e⟩
   simp only [spec_l1New.l0]
   rw [if_pos (by omega),if_pos h4,if_pos (by omega),w64 (x := (n : Int) + 1) (by omega) (by omega)]
   rfl
  ·refine ⟨x,ev_end fun k => ?_⟩
   simp only [spec_l1New.l0]
   rw [if_pos (by omega),if_neg h4]
theorem l1New (l : List Int) (hl : l.length ≤ 35184372088832) : ∃ h,Ev (fun k => spec_l1New.f k l) (l,0,h) := l1New_l0 l hl l.length 0 _ (by omega)
def Cur (l : List Int) (i : Int) : Prop := 0 ≤ i ∧ i ≤ l.length ∧ l.length ≤ 35184372088832
theorem cur0 (l : List Int) (hl : l.length ≤ 35184372088832) : Cur l 0 := ⟨by omega,by omega,hl⟩
theorem l1Byte {l : List Int} {i : Int} (h : Int) (hc : Cur l i) : ∃ r i' h',spec_l1Byte.f l i h = some (r,i',h') ∧ Cur l i' ∧ 0 ≤ r ∧ r ≤ 255 := by
 unfold Cur at *
 unfold spec_l1Byte.f
 by_cases h1 : i < (l.length : Int)
 ·rw [if_pos h1,if_pos hc.1,w64 (x := i + 1) (by omega) (by omega)]
  exact ⟨_,_,_,rfl,by omega,and255 _⟩
 ·rw [if_neg h1]
  exact ⟨_,_,_,rfl,by omega,and255 _⟩
theorem l1Below {l : List Int} {i : Int} (h : Int) (n : Int) (hc : Cur l i) : ∃ r i' h',spec_l1Below.f l i h n = some (r,i',h') ∧ Cur l i' ∧ 0 ≤ r ∧ (0 < n → r < n) ∧ (n ≤ 0 → r = 0) := by
 unfold spec_l1Below.f
 by_cases h1 : n ≤ 0
 ·rw [if_pos h1]
  exact ⟨0,_,_,rfl,hc,by omega,by omega,fun _ => rfl⟩
 rw [if_neg h1]
 by_cases h2 : n ≤ 256
 ·rw [if_pos h2]
  obtain ⟨r,i',h',e,hc',h3,h4⟩ := l1Byte h hc
  rw [e]
  simp only [Option.bind_some]
  rw [if_neg (by omega)]
  refine ⟨_,_,_,rfl,hc',?_,?_,by omega⟩
  ·rw [Int.tmod_eq_emod_of_nonneg h3];exact Int.emod_nonneg _ (by omega)
  ·intro _;rw [Int.tmod_eq_emod_of_nonneg h3];exact Int.emod_lt_of_pos _ (by omega)
 ·rw [if_neg h2]
  obtain ⟨x,i1,h1,e1,hc1,x1,x2⟩ := l1Byte h hc
  obtain ⟨y,i2,h2,e2,hc2,y1,y2⟩ := l1Byte h1 hc1
  obtain ⟨z,i3,h3,e3,hc3,z1,z2⟩ := l1Byte h2 hc2
  obtain ⟨w,i4,h4,e4,hc4,w1,w2⟩ := l1Byte h3 hc3
  simp only [e1,e2,e3,e4,Option.bind_some]
  rw [if_neg (by omega),w64 (x := x * 16777216) (by omega) (by omega),w64 (x := y * 65536) (by omega) (by omega),w64 (x := x * 16777216 + y * 65536) (by omega) (by omega),w64 (x := z * 256) (by omega) (by omega),w64 (x := x * 16777216 + y * 65536 + z * 256) (by omega) (by omega),w64 (x := x * 16777216 + y * 65536 + z * 256 + w) (by omega) (by omega)]
  have h5 : 0 ≤ x * 16777216 + y * 65536 + z * 256 + w := by omega
  refine ⟨_,_,_,rfl,hc4,?_,?_,by omega⟩
  ·rw [Int.tmod_eq_emod_of_nonneg h5];exact Int.emod_nonneg _ (by omega)
  ·intro _;rw [Int.tmod_eq_emod_of_nonneg h5];exact Int.emod_lt_of_pos _ (by omega)
theorem l1Once {l : List Int} {i : Int} (h : Int) (n : Int) (hc : Cur l i) : ∃ r i' h',spec_l1Once.f l i h n = some (r,i',h') ∧ Cur l i' := by
 unfold spec_l1Once.f
 obtain ⟨a,i1,h1,e1,c1,_⟩ := l1Below h n hc
 rw [e1]
 exact ⟨_,_,_,rfl,c1⟩
theorem l1PickInt {l : List Int} {i : Int} (h : Int) (xs : List Int) (hc : Cur l i) (hx : 0 < xs.length) : ∃ r i' h',spec_l1PickInt.f l i h xs = some (r,i',h') ∧ Cur l i' ∧ r ∈ xs := by
 unfold spec_l1PickInt.f
 obtain ⟨r,i',h',e,hc',h1,h2,_⟩ := l1Below h (xs.length : Int) hc
 rw [e]
 simp only [Option.bind_some]
 have h3 := h2 (by omega)
 rw [if_pos h1,if_pos h3]
 exact ⟨_,_,_,rfl,hc',rd_mem h1 h3⟩
theorem l8Right_l0 {l : List Int} (a b c d e f g : Int) (N : Nat) (hN : N ≤ 1024) : ∀ (dd n : Nat) (xs : List Int) (i h : Int),n + dd = N → xs.length = n → Cur l i →
  ∃ ys i' h',Ev (fun k => spec_l8Right.l0 k (N : Int) (n : Int) l i h a b c d e f g xs) (a,b,c,d,e,f,g,ys,i',h') ∧ Cur l i' ∧ ys.length = N := by
 intro dd
 induction dd with
 | zero =>
  intro n xs i h hn hl hc
  refine ⟨xs,i,h,ev_succ ?_,hc,by omega⟩
  simp only [spec_l8Right.l0]
  exact ev_neg (by omega) (Ev.now _)
 | succ dd ih =>
  intro n xs i h hn hl hc
  have hw : wrap64 ((n : Int) + 1) = ((n + 1 : Nat) : Int) := w64 (by omega) (by omega)
  obtain ⟨x,i2,h2,e2,c2,_⟩ := l1Below h 3 hc
  obtain ⟨ys,i3,h3,e3,c3,hl'⟩ := ih (n + 1) (xs ++ [wrap64 (x - 1)]) i2 h2 (by omega) (by simp [hl]) c2
  refine ⟨ys,i3,h3,ev_succ ?_,c3,hl'⟩
  simp only [spec_l8Right.l0,e2,Option.bind_some,hw]
  exact ev_pos (by omega) (ev_pos (by omega) e3)
theorem l8Right_j1 {l : List Int} (a b c d e f g : Int) {i : Int} (h : Int) (hc : Cur l i) : ∃ ys i' h',Ev (fun k => spec_l8Right.j1 k l i h a b c d e f g) (a,b,c,d,e,f,g,ys,i',h') ∧ Cur l i' ∧ ys.length ≤ 4 := by
 obtain ⟨x,i2,h2,e2,c2,x1,x2,_⟩ := l1Below h 5 hc
 have x3 := x2 (by decide)
 obtain ⟨ys,i3,h3,e3,c3,hl'⟩ := l8Right_l0 a b c d e f g x.toNat (by omega) x.toNat 0 [] i2 h2 (by omega) rfl c2
 refine ⟨ys,i3,h3,ev_succ ?_,c3,by omega⟩
 simp only [spec_l8Right.j1,e2,Option.bind_some]
 rw [Int.toNat_of_nonneg x1] at e3
 exact e3
theorem l8Right_j0 {l : List Int} (a b c d e f g : Int) {i : Int} (h : Int) (hc : Cur l i) : ∃ f' ys i' h',Ev (fun k => spec_l8Right.j0 k l i h a b c d e f g) (a,b,c,d,e,f',g,ys,i',h') ∧ Cur l i' ∧ ys.length ≤ 4 := by
 obtain ⟨o,i1,h1,e1,c1⟩ := l1Once h 4 hc
 by_cases ho : o = true
 ·obtain ⟨x,i2,h2,e2,c2,_⟩ := l1Below h1 g c1
  obtain ⟨ys,i3,h3,e3,c3,hl⟩ := l8Right_j1 a b c d e (wrap64 (1 + x)) g h2 c2
  refine ⟨wrap64 (1 + x),ys,i3,h3,ev_succ ?_,c3,hl⟩
  simp only [spec_l8Right.j0,e1,Option.bind_some]
  refine ev_pos ho ?_
  simp only [e2,Option.bind_some]
  exact e3
 ·obtain ⟨ys,i3,h3,e3,c3,hl⟩ := l8Right_j1 a b c d e f g h1 c1
  refine ⟨f,ys,i3,h3,ev_succ ?_,c3,hl⟩
  simp only [spec_l8Right.j0,e1,Option.bind_some]
  exact ev_neg ho e3
theorem l8Right {l : List Int} {i : Int} (h : Int) (hc : Cur l i) : ∃ a b c d e f g ys i' h',Ev (fun k => spec_l8Right.f k l i h) (a,b,c,d,e,f,g,ys,i',h') ∧ Cur l i' ∧ ys.length ≤ 4 := by
 unfold spec_l8Right.f
 obtain ⟨x1,i1,h1,e1,c1,_⟩ := l1Below h 4 hc
 obtain ⟨x2,i2,h2,e2,c2,_⟩ := l1Below h1 4 c1
 obtain ⟨x3,i3,h3,e3,c3,_⟩ := l1Below h2 5 c2
 obtain ⟨x4,i4,h4,e4,c4,_⟩ := l1Below h3 3 c3
 obtain ⟨x5,i5,h5,e5,c5,_⟩ := l1Below h4 3 c4
 obtain ⟨x6,i6,h6,e6,c6,_⟩ := l1Below h5 3 c5
 obtain ⟨o,i7,h7,e7,c7⟩ := l1Once h6 8 c6
 simp only [e1,e2,e3,e4,e5,e6,e7,Option.bind_some]
 by_cases ho : o = true
 ·obtain ⟨x8,i8,h8,e8,c8,_⟩ := l1Below h7 100 c7
  obtain ⟨f',ys,i9,h9,e9,c9,hl⟩ := l8Right_j0 (wrap64 (1 + x1)) x2 (wrap64 (2 + x3)) (wrap64 (1 + x8)) (wrap64 (1 + x5)) 1 (wrap64 (1 + x6)) h8 c8
  refine ⟨wrap64 (1 + x1),x2,wrap64 (2 + x3),wrap64 (1 + x8),wrap64 (1 + x5),f',wrap64 (1 + x6),ys,i9,h9,ev_pos ho ?_,c9,hl⟩
  simp only [e8,Option.bind_some]
  exact e9
 ·obtain ⟨f',ys,i9,h9,e9,c9,hl⟩ := l8Right_j0 (wrap64 (1 + x1)) x2 (wrap64 (2 + x3)) (wrap64 (1 + x4)) (wrap64 (1 + x5)) 1 (wrap64 (1 + x6)) h7 c7
  exact ⟨_,_,_,_,_,_,_,ys,i9,h9,ev_neg ho e9,c9,hl⟩
theorem l8Bent {l : List Int} {i : Int} (h : Int) (hc : Cur l i) : ∃ a b c d e f g ys i' h',Ev (fun k => spec_l8Bent.f k l i h) (a,b,c,d,e,f,g,ys,i',h') ∧ Cur l i' ∧ ys.length ≤ 5 := by
 unfold spec_l8Bent.f
 obtain ⟨a,b,c,d,e,f,g,ys,i1,h1,e1,c1,hl⟩ := l8Right h hc
 obtain ⟨x,i2,h2,e2,c2,_⟩ := l1Below h1 12 c1
 have pick : ∀ xs : List Int,0 < xs.length → ∃ r i' h',spec_l1PickInt.f l i2 h2 xs = some (r,i',h') ∧ Cur l i' := fun xs hx => by
  obtain ⟨r,i',h',p,q,_⟩ := l1PickInt h2 xs c2 hx
  exact ⟨r,i',h',p,q⟩
 by_cases k0 : x = 0
 ·obtain ⟨r,j,h',p,q⟩ := pick [0,1,8,9,(-1)] (by simp)
  exact ⟨_,_,_,_,_,_,_,_,_,_,Ev.bind e1 (Ev.bind (ev_of e2) (ev_pos k0 (Ev.bind (ev_of p) (Ev.now _)))),q,Nat.le_trans hl (by decide)⟩
 by_cases k1 : x = 1
 ·obtain ⟨r,j,h',p,q⟩ := pick [(-1),0,4,5] (by simp)
  exact ⟨_,_,_,_,_,_,_,_,_,_,Ev.bind e1 (Ev.bind (ev_of e2) (ev_neg k0 (ev_pos k1 (Ev.bind (ev_of p) (Ev.now _))))),q,Nat.le_trans hl (by decide)⟩
 by_cases k2 : x = 2
 ·obtain ⟨r,j,h',p,q⟩ := pick [1,2,8,9] (by simp)
  exact ⟨_,_,_,_,_,_,_,_,_,_,Ev.bind e1 (Ev.bind (ev_of e2) (ev_neg k0 (ev_neg k1 (ev_pos k2 (Ev.bind (ev_of p) (Ev.now _)))))),q,Nat.le_trans hl (by decide)⟩
 by_cases k3 : x = 3
 ·obtain ⟨r,j,h',p,q⟩ := pick [0,1,100,101,9223372036854775807] (by simp)
  exact ⟨_,_,_,_,_,_,_,_,_,_,Ev.bind e1 (Ev.bind (ev_of e2) (ev_neg k0 (ev_neg k1 (ev_neg k2 (ev_pos k3 (Ev.bind (ev_of p) (Ev.now _))))))),q,Nat.le_trans hl (by decide)⟩
 by_cases k4 : x = 4
 ·obtain ⟨r,j,h',p,q⟩ := pick [0,1,20,21] (by simp)
  exact ⟨_,_,_,_,_,_,_,_,_,_,Ev.bind e1 (Ev.bind (ev_of e2) (ev_neg k0 (ev_neg k1 (ev_neg k2 (ev_neg k3 (ev_pos k4 (Ev.bind (ev_of p) (Ev.now _)))))))),q,Nat.le_trans hl (by decide)⟩
 by_cases k5 : x = 5
 ·obtain ⟨r,j,h',p,q⟩ := pick [0,1,g,wrap64 (g + 1),(-1)] (by simp)
  exact ⟨_,_,_,_,_,_,_,_,_,_,Ev.bind e1 (Ev.bind (ev_of e2) (ev_neg k0 (ev_neg k1 (ev_neg k2 (ev_neg k3 (ev_neg k4 (ev_pos k5 (Ev.bind (ev_of p) (Ev.now _))))))))),q,Nat.le_trans hl (by decide)⟩
 by_cases k6 : x = 6
 ·obtain ⟨r,j,h',p,q⟩ := pick [0,1,1000,1001,9223372036854775807] (by simp)
  exact ⟨_,_,_,_,_,_,_,_,_,_,Ev.bind e1 (Ev.bind (ev_of e2) (ev_neg k0 (ev_neg k1 (ev_neg k2 (ev_neg k3 (ev_neg k4 (ev_neg k5 (ev_pos k6 (Ev.bind (ev_of p) (Ev.now _)))))))))),q,Nat.le_trans hl (by decide)⟩
 by_cases k7 : x = 7
 ·obtain ⟨r,j,h',p,q,_⟩ := l1Below h2 5 c2
  exact ⟨_,_,_,_,_,_,_,_,_,_,Ev.bind e1 (Ev.bind (ev_of e2) (ev_neg k0 (ev_neg k1 (ev_neg k2 (ev_neg k3 (ev_neg k4 (ev_neg k5 (ev_neg k6 (ev_pos k7 (Ev.bind (ev_of p) (ev_pos (by simp only;omega) (Ev.now _)))))))))))),q,by simp only [List.length_append,List.length_singleton];omega⟩
 ·exact ⟨_,_,_,_,_,_,_,_,_,_,Ev.bind e1 (Ev.bind (ev_of e2) (ev_neg k0 (ev_neg k1 (ev_neg k2 (ev_neg k3 (ev_neg k4 (ev_neg k5 (ev_neg k6 (ev_neg k7 (Ev.now _)))))))))),c2,Nat.le_trans hl (by decide)⟩
theorem l1Pick {l : List Int} {i : Int} (h : Int) (xs : List ByteArray) (hc : Cur l i) (hx : 0 < xs.length) : ∃ r i' h',spec_l1Pick.f l i h xs = some (r,i',h') ∧ Cur l i' ∧ r ∈ xs := by
 unfold spec_l1Pick.f
 obtain ⟨r,i',h',e,hc',h1,h2,_⟩ := l1Below h (xs.length : Int) hc
 rw [e]
 simp only [Option.bind_some]
 have h3 := h2 (by omega)
 rw [if_pos h1,if_pos h3]
 refine ⟨_,_,_,rfl,hc',?_⟩
 exact List.mem_of_getElem? (gd_eq ByteArray.empty h1 h3)
abbrev pickW : List ByteArray := ([(⟨#[114,111,117,110,100,115,61,57]⟩ : ByteArray),(⟨#[100,101,112,116,104,61,53]⟩ : ByteArray),(⟨#[98,105,110,115,61,49]⟩ : ByteArray),(⟨#[108,97,109,98,100,97,61,48]⟩ : ByteArray),(⟨#[114,111,119,115,61,120]⟩ : ByteArray),(⟨#[114,97,116,101,61,50,47,49]⟩ : ByteArray),(⟨#[114,97,116,101,61,49]⟩ : ByteArray),(⟨#[114,97,116,101,61,49,47,50,47,51]⟩ : ByteArray),(⟨#[115,105,103,110,115,61,43,44,120]⟩ : ByteArray),(⟨#[115,105,103,110,115,61]⟩ : ByteArray),(⟨#[115,105,103,110,115,61,43,44,43,44,48,44,48,44,45]⟩ : ByteArray),(⟨#[104,109,61,49]⟩ : ByteArray),(⟨#[104,109]⟩ : ByteArray),(⟨#[61]⟩ : ByteArray),(⟨#[114,111,117,110,100,115,61]⟩ : ByteArray),(⟨#[114,111,117,110,100,115,61,32,49]⟩ : ByteArray),(⟨#[114,97,116,101,61,48,47,49]⟩ : ByteArray),(⟨#[115,105,103,110,115,61,45,44,48]⟩ : ByteArray)] : List ByteArray)
abbrev pickQ : List ByteArray := ([(⟨#[34]⟩ : ByteArray),(⟨#[44]⟩ : ByteArray),(⟨#[10]⟩ : ByteArray),(⟨#[13]⟩ : ByteArray),(⟨#[13,10]⟩ : ByteArray),(⟨#[120]⟩ : ByteArray),(⟨#[34,34]⟩ : ByteArray),(⟨#[48]⟩ : ByteArray),(⟨#[46]⟩ : ByteArray)] : List ByteArray)
theorem readL (L : List ByteArray) : L = (L.map (fun x => x.data.toList)).map bs := by
 rw [List.map_map]
 refine Eq.trans (List.map_id L).symm (List.map_congr_left fun x _ => ?_)
 exact (bs_list x).symm
theorem joinedAny (L : List ByteArray) (hL : L.length ≤ 3000) (h : ∀ x ∈ L,x.size ≤ 3000) : ∃ r : ByteArray,Ev (fun k => spec_Joined.f k L (⟨#[10]⟩ : ByteArray)) r ∧ r.size ≤ 10000000 := by
 have hm : ∀ x ∈ L.map (fun x => x.data.toList),x.length ≤ 3000 := by
  intro x hx
  obtain ⟨y,hy,rfl⟩ := List.mem_map.1 hx
  have : y.data.toList.length = y.size := data_length ..
  rw [this]
  exact h y hy
 have := specJoined_f [10] (L.map (fun x => x.data.toList)) 3000 (by rw [List.length_map];omega) hm (by simp)
 rw [← readL] at this
 refine ⟨_,this,?_⟩
 rw [bs_size]
 cases L with
 | nil => exact Nat.zero_le _
 | cons x r =>
  rw [List.map_cons,Lib.join_cons,List.length_append]
  have h1 := hm x.data.toList (List.mem_cons_self ..)
  have h2 := join_total [10] (r.map (fun x => x.data.toList)) 3000 (fun y hy => hm y (List.mem_cons_of_mem _ hy))
  rw [List.length_map] at h2
  rw [List.length_cons] at hL
  simp only [List.length_singleton] at h2
  have : r.length * (3000 + 1) ≤ 3000 * 3001 := Nat.mul_le_mul (by omega) (Nat.le_refl _)
  omega
theorem cfgText_len (c : Cfg) (hC : COk c) : (cfgText c).length ≤ 2000 := by
 obtain ⟨⟨⟨a0,a1⟩,⟨b0,b1⟩,⟨c0,c1⟩,⟨d0,d1⟩,⟨e0,e1⟩⟩,hS,⟨g0,g1⟩,⟨f0,f1⟩,h4⟩ := hC
 have la := itoa20 (n := c.1) (by omega) (by omega)
 have lb := itoa20 (n := c.2.1) (by omega) (by omega)
 have lc := itoa20 (n := c.2.2.1) (by omega) (by omega)
 have ld := itoa20 (n := c.2.2.2.1) (by omega) (by omega)
 have le := itoa20 (n := c.2.2.2.2.1) (by omega) (by omega)
 have lf := itoa20 (n := c.2.2.2.2.2.1) (by omega) (by omega)
 have lg := itoa20 (n := c.2.2.2.2.2.2.1) (by omega) (by omega)
 have k0 := kv_len 0 (by omega) (Lib.itoa c.1)
 have k1 := kv_len 1 (by omega) (Lib.itoa c.2.1)
 have k2 := kv_len 2 (by omega) (Lib.itoa c.2.2.1)
 have k3 := kv_len 3 (by omega) (Lib.itoa c.2.2.2.1)
 have k4 := kv_len 4 (by omega) (Lib.itoa c.2.2.2.2.1)
 have k5 := kv_len 5 (by omega) (Lib.itoa c.2.2.2.2.2.1 ++ 47 :: Lib.itoa c.2.2.2.2.2.2.1)
 have k6 := kv_len 6 (by omega) (signsTxt c.2.2.2.2.2.2.2)
 have k7 := signsTxt_len c.2.2.2.2.2.2.2 (by omega)
 rw [List.length_append,List.length_cons] at k5
 have hbl : (cfgBase c).length ≤ 1000 := by
  unfold cfgBase
  simp only [List.length_append,List.length_cons,List.length_nil,List.length_singleton] at k5 ⊢
  omega
 unfold cfgText
 split
 ·omega
 ·rw [List.length_append,List.length_append]
  simp only [List.length_singleton]
  omega
theorem l8Lines {l : List Int} {i : Int} (h : Int) (hc : Cur l i) : ∃ (t : ByteArray) (i' h' : Int),Ev (fun k => spec_l8Lines.f k l i h) (t,i',h') ∧ Cur l i' ∧ t.size ≤ 100000000 := by
 unfold spec_l8Lines.f
 obtain ⟨a,b,c,d,e,f,g,ys,i1,h1,e1,c1,hl⟩ := l8Right h hc
 have hT := specConfigText (a,b,c,d,e,f,g,ys) (show ys.length ≤ 1048576 by omega)
 have hlen : (open Classical in if COk (a,b,c,d,e,f,g,ys) then cfgText (a,b,c,d,e,f,g,ys) else []).length ≤ 2000 := by
  split
  ·exact cfgText_len _ ‹_›
  ·exact Nat.zero_le _
 revert hT hlen
 generalize (open Classical in if COk (a,b,c,d,e,f,g,ys) then cfgText (a,b,c,d,e,f,g,ys) else []) = T
 intro hT hlen
 have hP := specParts_f (bs T) 10 (by rw [bs_size];omega)
 rw [list_bs] at hP
 have hp := partsL_len 10 T
 have hpm := partsL_mem 10 T
 have hne : 0 < (partsL 10 T).length := List.length_pos_iff.2 (partsL_ne 10 T)
 have hL : ((partsL 10 T).map bs).length ≤ 3000 := by rw [List.length_map];omega
 have hM : ∀ x ∈ (partsL 10 T).map bs,x.size ≤ 2000 := by
  intro x hx
  obtain ⟨y,hy,rfl⟩ := List.mem_map.1 hx
  rw [bs_size]
  have := hpm y hy
  omega
 have hN : 0 < ((partsL 10 T).map bs).length := by rw [List.length_map];exact hne
 revert hP hL hM hN
 generalize (partsL 10 T).map bs = L
 intro hP hL hM hN
 obtain ⟨x,i2,h2,e2,c2,_⟩ := l1Below h1 5 c1
 by_cases k0 : x = 0
 ·obtain ⟨y,i3,h3,e3,c3,y0,y1,_⟩ := l1Below h2 (L.length : Int) c2
  have y2 := y1 (by omega)
  obtain ⟨z,i4,h4,e4,c4,hz⟩ := l1Pick h3 pickW c3 (by decide)
  have hz1 : z.size ≤ 3000 := by
   have : ∀ q ∈ pickW,q.size ≤ 3000 := by decide
   exact this z hz
  obtain ⟨r,er,hr⟩ := joinedAny (L.set y.toNat z) (by rw [List.length_set];exact hL) (fun q hq => by
   rcases List.mem_or_eq_of_mem_set hq with g | g
   ·exact Nat.le_trans (hM q g) (by omega)
   ·rw [g];exact hz1)
  exact ⟨r,i4,h4,Ev.bind e1 (Ev.bind hT (Ev.bind hP (Ev.bind (ev_of e2) (ev_pos k0 (Ev.bind (ev_of e3) (Ev.bind (ev_of e4) (ev_pos y0 (ev_pos y2 (Ev.bind er (Ev.now _)))))))))),c4,by omega⟩
 by_cases k1 : x = 1
 ·obtain ⟨y,i3,h3,e3,c3,y0,y1,_⟩ := l1Below h2 (L.length : Int) c2
  have y2 := y1 (by omega)
  obtain ⟨r,er,hr⟩ := joinedAny (L.drop y.toNat) (by rw [List.length_drop];omega) (fun q hq => Nat.le_trans (hM q (List.mem_of_mem_drop hq)) (by omega))
  obtain ⟨r2,er2,hr2⟩ := joinedAny (L.take y.toNat) (by rw [List.length_take];omega) (fun q hq => Nat.le_trans (hM q (List.mem_of_mem_take hq)) (by omega))
  exact ⟨r ++ r2,i3,h3,Ev.bind e1 (Ev.bind hT (Ev.bind hP (Ev.bind (ev_of e2) (ev_neg k0 (ev_pos k1 (Ev.bind (ev_of e3) (ev_pos y0 (ev_pos (by omega) (Ev.bind er (Ev.bind er2 (ev_pos (by omega) (Ev.now _)))))))))))),c3,by rw [ByteArray.size_append];omega⟩
 ·obtain ⟨r,er,hr⟩ := joinedAny L hL (fun q hq => Nat.le_trans (hM q hq) (by omega))
  exact ⟨r,i2,h2,Ev.bind e1 (Ev.bind hT (Ev.bind hP (Ev.bind (ev_of e2) (ev_neg k0 (ev_neg k1 (Ev.bind er (Ev.now _))))))),c2,by omega⟩
theorem l7Turned {l : List Int} {i : Int} (h : Int) (t : ByteArray) (ht : t.size ≤ 100000000) (hc : Cur l i) : ∃ (r : ByteArray) (i' h' : Int),spec_l7Turned.f l i h t = some (r,i',h') ∧ Cur l i' := by
 unfold spec_l7Turned.f
 rw [w64 (x := (t.size : Int) + 1) (by omega) (by omega)]
 obtain ⟨x,i1,h1,e1,c1,x0,x1,_⟩ := l1Below h ((t.size : Int) + 1) hc
 have x2 := x1 (by omega)
 obtain ⟨y,i2,h2,e2,c2,_⟩ := l1Below h1 6 c1
 simp only [e1,e2,Option.bind_some]
 by_cases k0 : y = 0
 ·obtain ⟨z,i3,h3,e3,c3,hz⟩ := l1Pick h2 pickQ c2 (by decide)
  have hz1 : z.size ≤ 3000 := by
   have : ∀ q ∈ pickQ,q.size ≤ 3000 := by decide
   exact this z hz
  refine ⟨t.extract 0 x.toNat ++ z ++ t.extract x.toNat t.size,i3,h3,?_,c3⟩
  rw [if_pos k0,if_pos x0,if_pos (by omega)]
  show (spec_l1Pick.f l i2 h2 pickQ).bind _ = _
  rw [e3]
  simp only [Option.bind_some]
  rw [if_pos (by rw [ByteArray.size_extract];omega),if_pos (by rw [ByteArray.size_append,ByteArray.size_extract,ByteArray.size_extract];omega)]
 by_cases k1 : y = 1
 ·refine ⟨t.extract 0 x.toNat,i2,h2,?_,c2⟩
  rw [if_neg k0,if_pos k1,if_pos x0,if_pos (by omega)]
 ·refine ⟨t,i2,h2,?_,c2⟩
  rw [if_neg k0,if_neg k1]
theorem drawReadConfig (l : List Int) (hl : l.length ≤ 35184372088832) : ∃ t,Ev (fun k => spec_DrawReadConfig.f k l) t := by
 unfold spec_DrawReadConfig.f
 obtain ⟨h,e1⟩ := l1New l hl
 obtain ⟨t,i1,h1,e2,c1,ht⟩ := l8Lines h (cur0 l hl)
 obtain ⟨r,i2,h2,e3,_⟩ := l7Turned h1 t ht c1
 exact ⟨r,Ev.bind e1 (Ev.bind e2 (Ev.bind (ev_of e3) (Ev.now _)))⟩
theorem drawConfigText (l : List Int) (hl : l.length ≤ 35184372088832) : ∃ c : Cfg,Ev (fun k => spec_DrawConfigText.f k l) c ∧ c.2.2.2.2.2.2.2.length ≤ 5 := by
 unfold spec_DrawConfigText.f
 obtain ⟨h,e1⟩ := l1New l hl
 obtain ⟨a,b,c,d,e,f,g,ys,i1,h1,e2,c1,hy⟩ := l8Bent h (cur0 l hl)
 exact ⟨(a,b,c,d,e,f,g,ys),Ev.bind e1 (Ev.bind e2 (Ev.now _)),hy⟩
theorem equalInts (l m : List Int) (hl : l.length ≤ 17592186044416) : Ev (fun k => slices_Equal_int_int.f k l m) (dec (SameR 0 (fun x y => x = y) l m)) := by
 unfold slices_Equal_int_int.f
 by_cases h0 : l.length = m.length
 ·refine ev_pos (by omega) (same_ev 0 (fun x y => x = y) l m h0 (fun k i => slices_Equal_int_int.l0 k l m (l.length : Int) i) ?_ ?_ ?_)
  ·refine ev_succ ?_
   simp only [slices_Equal_int_int.l0]
   exact ev_neg (by omega) (Ev.now _)
  ·intro n r hn hp h
   refine ev_succ ?_
   simp only [slices_Equal_int_int.l0,rdn]
   refine ev_pos (by omega) (ev_pos (by omega) (ev_pos (by omega) (ev_pos (by omega) (ev_pos hp ?_))))
   rw [w64 (x := (n : Int) + 1) (by omega) (by omega)]
   exact h
  ·intro n hn hp
   refine ev_succ ?_
   simp only [slices_Equal_int_int.l0,rdn]
   exact ev_pos (by omega) (ev_pos (by omega) (ev_pos (by omega) (ev_pos (by omega) (ev_neg hp (Ev.now _)))))
 ·refine ev_neg (by omega) (ev_of ?_)
  rw [dec_false (fun z => h0 z.1)]
theorem l8Ints (l m : List Int) (hl : l.length ≤ 17592186044416) : Ev (fun k => spec_l8Ints.f k l m) (dec (SameR 0 (fun x y => x = y) l m)) := by
 unfold spec_l8Ints.f
 by_cases h0 : l.length = m.length
 ·refine ev_pos (by omega) (same_ev 0 (fun x y => x = y) l m h0 (fun k i => spec_l8Ints.l0 k l m i) ?_ ?_ ?_)
  ·refine ev_succ ?_
   simp only [spec_l8Ints.l0]
   exact ev_neg (by omega) (Ev.now _)
  ·intro n r hn hp h
   refine ev_succ ?_
   simp only [spec_l8Ints.l0,rdn]
   refine ev_pos (by omega) (ev_pos (by omega) (ev_pos (by omega) (ev_pos hp ?_)))
   rw [w64 (x := (n : Int) + 1) (by omega) (by omega)]
   exact h
  ·intro n hn hp
   refine ev_succ ?_
   simp only [spec_l8Ints.l0,rdn]
   exact ev_pos (by omega) (ev_pos (by omega) (ev_pos (by omega) (ev_neg hp (Ev.now _))))
 ·refine ev_neg (by omega) (ev_of ?_)
  rw [dec_false (fun z => h0 z.1)]
theorem sameInts_self (l : List Int) : SameR 0 (fun x y : Int => x = y) l l := ⟨rfl,fun _ _ _ => rfl⟩
theorem specSameCfg (a b c d e f g : Int) (l : List Int) (hl : l.length ≤ 1048576) : Ev (fun k => spec_SameConfig.f k a b c d e f g l a b c d e f g l) true := by
 unfold spec_SameConfig.f spec_l8Numbers.f
 simp only [Option.bind_some]
 have h1 := ev_eq (l8Ints [a,b,c,d,e] [a,b,c,d,e] (by simp)) (dec_true (sameInts_self _))
 have h2 := ev_eq (l8Ints l l (by omega)) (dec_true (sameInts_self _))
 exact Ev.bind h1 (ev_pos rfl (ev_pos trivial (ev_pos trivial (Ev.bind h2 (Ev.now _)))))
theorem implSameCfg (a b c d e f g : Int) (l : List Int) (hl : l.length ≤ 1048576) : Ev (fun k => impl_SameConfig.f k a b c d e f g l a b c d e f g l) true := by
 unfold impl_SameConfig.f
 have h2 := ev_eq (equalInts l l (by omega)) (dec_true (sameInts_self _))
 exact ev_pos rfl (ev_pos rfl (ev_pos rfl (ev_pos rfl (ev_pos rfl (ev_pos rfl (ev_pos rfl (Ev.bind h2 (Ev.now _))))))))
theorem FnConfig : laws_FnConfig.Pure := by
 intro l0 w1 w2 w3
 refine Ev.rounds ?_
 unfold laws_FnConfig.f
 refine Ev.bind (ev_of (lawsBig l0)) ?_
 by_cases b : (l0.length : Int) > 1048576
 ·exact ev_pos (decide_eq_true b) (Ev.now _)
 refine ev_neg (by simpa using b) ?_
 obtain ⟨c,ec,hc⟩ := drawConfigText l0 (by omega)
 obtain ⟨t,et⟩ := drawReadConfig l0 (by omega)
 have iT := implConfigText c (by omega)
 have sT := specConfigText c (by omega)
 have iO := implConfigOk c.1 c.2.1 c.2.2.1 c.2.2.2.1 c.2.2.2.2.1 c.2.2.2.2.2.1 c.2.2.2.2.2.2.1 c.2.2.2.2.2.2.2 (by omega)
 have iR := implReadConfig_f t
 have sR := specReadConfig_f t
 have ok := readConfig_ok t
 have sg := readConfig_signs t
 have fin : ∀ {p : Option Bool → Nat → Option Bool},True := fun {_} => trivial
 have sO : (readConfig t).2.2.2.2.2.2.2.2.1 = 0 → Ev (fun k => spec_ConfigOk.f k (readConfig t).1 (readConfig t).2.1 (readConfig t).2.2.1 (readConfig t).2.2.2.1 (readConfig t).2.2.2.2.1 (readConfig t).2.2.2.2.2.1 (readConfig t).2.2.2.2.2.2.1 (readConfig t).2.2.2.2.2.2.2.1) true := fun h =>
  ev_eq (specConfigOk _ _ _ _ _ _ _ _ (by omega)) (dec_true (ok h))
 refine Ev.bind ec (Ev.bind iT (Ev.bind sT (ev_pos rfl (Ev.bind iO (ev_succ ?_)))))
 simp only [laws_FnConfig.j0,toList_bs]
 by_cases hC : COk c
 ·have hne : cfgText c ≠ [] := by
   unfold cfgText
   split <;> simp [cfgBase,kv]
  have iB := implReadConfig_f (bs (cfgText c))
  rw [readConfig_text c hC] at iB
  rw [if_pos hC]
  have hd : dec (CfgOk c.1 c.2.1 c.2.2.1 c.2.2.2.1 c.2.2.2.2.1 c.2.2.2.2.2.1 c.2.2.2.2.2.2.1 c.2.2.2.2.2.2.2) = true := dec_true hC
  rw [hd]
  refine ev_neg (by simp [hne]) (Ev.bind iB (Ev.bind et (Ev.bind iR (Ev.bind sR (ev_neg (by simp) (ev_neg hne (ev_pos rfl (Ev.bind (specSameCfg _ _ _ _ _ _ _ _ (show c.2.2.2.2.2.2.2.length ≤ 1048576 by omega)) (ev_pos rfl (Ev.bind (implSameCfg _ _ _ _ _ _ _ _ (show c.2.2.2.2.2.2.2.length ≤ 1048576 by omega)) (ev_pos rfl ?_)))))))))))
  by_cases h0 : (readConfig t).2.2.2.2.2.2.2.2.1 = 0
  ·exact ev_pos h0 (Ev.bind (sO h0) (Ev.now _))
  ·exact ev_neg h0 (Ev.now _)
 ·have iB := implReadConfig_f (bs [])
  rw [if_neg hC]
  have hd : dec (CfgOk c.1 c.2.1 c.2.2.1 c.2.2.2.1 c.2.2.2.2.1 c.2.2.2.2.2.1 c.2.2.2.2.2.2.1 c.2.2.2.2.2.2.2) = false := dec_false hC
  rw [hd]
  refine ev_neg (by simp) (Ev.bind iB (Ev.bind et (Ev.bind iR (Ev.bind sR (ev_neg (by simp) (ev_pos rfl ?_))))))
  by_cases h0 : (readConfig t).2.2.2.2.2.2.2.2.1 = 0
  ·exact ev_pos h0 (Ev.bind (sO h0) (Ev.now _))
  ·exact ev_neg h0 (Ev.now _)
end Go.Proofs.YtepnbcdbagjmbaeGreatDoor.Pure
