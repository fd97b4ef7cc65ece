/- The machine side of FnExactReadTable: what each Go function that it reaches comes to. Conditions: none. -/
import Derived.Test.YtepnbcdbagjmbaaDoorQFnExactReadTablex0
import Derived.Test.YtepnbcdbagjmbaaDoorQFnExactReadTablex12
namespace Go.Proofs.YtepnbcdbagjmbaaDoor.QFnExactReadTable
open Go.RowKit Go.Proofs.YtepnbcdbagjmbaaDoorW.PrintWords Go.Proofs.YtepnbcdbagjmbaaDoorW.PrintLast Go.Proofs.YtepnbcdbagjmbaaDoorW.PrintMore
attribute [local go_sem] max2_int min2_int max_two min_two max_three min_three max_four min_four   -- for this text's walks alone
set_option linter.unusedVariables false
set_option linter.unusedSimpArgs false

/-! ### impl_ReadFix: function 40 -/
def impl_ReadFix.dg (b : UInt8) : Bool := decide (48 ≤ b.toNat ∧ b.toNat ≤ 57)
def impl_ReadFix.val (l : List UInt8) : Int := l.foldl (fun n b => 10 * n + ((b.toNat : Int) - 48)) 0
def impl_ReadFix.all (w p : ByteArray) : ByteArray := w ++ p ++ (⟨#[48,48,48]⟩ : ByteArray).extract p.size 3
def impl_ReadFix.fin (neg : Bool) (w p : ByteArray) : Option (Int × Bool) := if w.size ≤ 10 then (if p.size ≤ 3 ∧ (impl_ReadFix.all w p).data.toList.all impl_ReadFix.dg = true then (impl_isDecimal.f (impl_ReadFix.val (impl_ReadFix.all w p).data.toList)).bind fun t => (if t = true then some (if neg = true then -(impl_ReadFix.val (impl_ReadFix.all w p).data.toList) else impl_ReadFix.val (impl_ReadFix.all w p).data.toList,true) else some (0,false)) else none) else some (0,false)
def impl_ReadFix.f (a0 : ByteArray) : Option (Int × Bool) := (strings_CutPrefix.f a0 (⟨#[45]⟩ : ByteArray)).bind fun t => (strings_Cut.f t.1 (⟨#[46]⟩ : ByteArray)).bind fun u => (impl_areDigits.f u.1).bind fun b1 => (if b1 = true then (if 1 < u.1.size ∧ bt u.1 0 = 48 then some (0,false) else (if u.2.2 = true then (impl_areDigits.f u.2.1).bind fun b2 => (if b2 = true then (if u.2.1.size ≤ 3 then impl_ReadFix.fin t.2 u.1 u.2.1 else some (0,false)) else some (0,false)) else impl_ReadFix.fin t.2 u.1 u.2.1)) else some (0,false))
theorem impl_ReadFix.val_snoc (l : List UInt8) (b : UInt8) : impl_ReadFix.val (l ++ [b]) = 10 * impl_ReadFix.val l + ((b.toNat : Int) - 48) := by
 unfold impl_ReadFix.val
 rw [List.foldl_append]
 rfl
theorem impl_ReadFix.val_bound : ∀ (k : Nat) (l : List UInt8),l.length = k → l.all impl_ReadFix.dg = true → 0 ≤ impl_ReadFix.val l ∧ impl_ReadFix.val l < (10 : Int) ^ k := by
 intro k
 induction k with
 | zero =>
  intro l hl _
  obtain rfl := List.length_eq_zero_iff.mp hl
  exact ⟨Int.le_refl _,Z355⟩
 | succ k ih =>
  intro l hl ha
  obtain ⟨a,c,rfl⟩ : ∃ a c,l = a ++ [c] := by
   have h : l ≠ [] := by intro h;rw [h] at hl;cases hl
   exact ⟨l.dropLast,l.getLast h,(List.dropLast_concat_getLast h).symm⟩
  rw [List.length_append,List.length_singleton] at hl
  rw [List.all_append,Bool.and_eq_true] at ha
  obtain ⟨h0,h1⟩ := ih a Z254 ha.1
  have hc : 48 ≤ c.toNat ∧ c.toNat ≤ 57 := by
   have := ha.2
   simp only [List.all_cons,List.all_nil,Bool.and_true] at this
   exact of_decide_eq_true this
  rw [impl_ReadFix.val_snoc,Int.pow_succ]
  omega
theorem impl_ReadFix.at (s : ByteArray) (k : Nat) (hk : k < s.data.toList.length) (ha : s.data.toList.all impl_ReadFix.dg = true) (hl : s.data.toList.length ≤ 13) :
  ∃ c : Int,((s.data.toList.getD k 0).toNat : Int) = c ∧ 48 ≤ c ∧ c ≤ 57 ∧ 0 ≤ impl_ReadFix.val (s.data.toList.take k) ∧ impl_ReadFix.val (s.data.toList.take k) < 10000000000000 ∧ impl_ReadFix.val (s.data.toList.take (k + 1)) = 10 * impl_ReadFix.val (s.data.toList.take k) + (c - 48) := by
 have hx : s.data.toList[k]? = some s.data.toList[k] := List.getElem?_eq_getElem hk
 have hd := List.all_eq_true.1 ha _ (List.mem_of_getElem? hx)
 have hd : 48 ≤ (s.data.toList[k]).toNat ∧ (s.data.toList[k]).toNat ≤ 57 := of_decide_eq_true hd
 have ht := impl_ReadFix.val_bound k (s.data.toList.take k) (by rw [List.length_take];omega) (List.all_eq_true.2 fun b hb => List.all_eq_true.1 ha b (List.mem_of_mem_take hb))
 have hp : (10 : Int) ^ k ≤ (10 : Int) ^ 13 := by
  have : (10 : Nat) ^ k ≤ 10 ^ 13 := Nat.pow_le_pow_right Z254 Z254
  exact_mod_cast this
 refine ⟨_,rfl,?_,?_,ht.1,Z254,?_⟩
 ·rw [List.getD_eq_getElem?_getD,hx]
  show (48 : Int) ≤ ((s.data.toList[k]).toNat : Int)
  omega
 ·rw [List.getD_eq_getElem?_getD,hx]
  show ((s.data.toList[k]).toNat : Int) ≤ 57
  omega
 rw [List.take_succ_eq_append_getElem hk,impl_ReadFix.val_snoc,List.getD_eq_getElem?_getD,hx]
 rfl
set_option maxHeartbeats 8000000 in
set_option maxRecDepth 100000 in
theorem impl_ReadFix.calls (a0 : ByteArray) (r1 : Int) (r2 : Bool) (w : World) (hG : GT w) (h : impl_ReadFix.f a0 = some (r1,r2)) :
  Calls Tryd.prog 40 #[.string a0] w fun e w' => e = .returned (.tuple #[.int .i64 r1,.bool r2]) ∧ Below w.heap.size w w' := by
 have HB := Aside0.mk (Below.refl w.heap.size w)
 have HG := Aside0.mk hG
 clear hG
 unfold impl_ReadFix.f at h
 obtain ⟨⟨rest,neg⟩,h1,h⟩ := Option.bind_eq_some_iff.mp h
 obtain ⟨⟨ws,p,parted⟩,h2,h⟩ := Option.bind_eq_some_iff.mp h
 obtain ⟨b1,h3,h⟩ := Option.bind_eq_some_iff.mp h
 have A1 := Aside0.mk h1
 have A2 := Aside0.mk h2
 have A3 := Aside0.mk h3
 clear h1 h2 h3
 cases b1 with
 | false =>
  have h : some ((0 : Int),false) = some (r1,r2) := h
  obtain ⟨rfl,rfl⟩ := Prod.mk.inj (Option.some.inj h)
  clear h
  go_enter Tryd.func40,Tryd.ntmps40
  go_wp2_with (first
   | (go_at_call 45;(with_reducible refine (strings_CutPrefix.calls a0 _ rest neg _ A1.out).mono ?_);rintro e w' ⟨rfl,⟨nd,rfl⟩⟩)
   | (go_at_call 46;(with_reducible refine (strings_Cut.calls rest _ ws p parted _ (GT_below HG.out (pw_below_drewN (Below.refl _ _) _)) A2.out).mono ?_);rintro e w1 ⟨rfl,hb⟩;have n0_ := Aside0.mk (below_step Z351 hb);clear HB;have HB := n0_;clear n0_ hb)
   | (go_at_call 47;(with_reducible refine (impl_areDigits.calls ws false _ A3.out).mono ?_);rintro e w2 ⟨rfl,hb⟩;have n0_ := Aside0.mk (below_step Z351 hb);clear HB;have HB := n0_;clear n0_ hb))
  go_ret2
  exact ⟨rfl,HB.out⟩
 | true =>
  rw [if_pos rfl] at h
  by_cases hz : 1 < ws.size ∧ bt ws 0 = 48
  ·rw [if_pos hz] at h
   have h : some ((0 : Int),false) = some (r1,r2) := h
   obtain ⟨rfl,rfl⟩ := Prod.mk.inj (Option.some.inj h)
   clear h
   have h1s := hz.1
   have da1 : decide ((1 : Int) < (ws.size : Int)) = true := decide_eq_true Z254
   have da2 : decide (1 < ws.size) = true := decide_eq_true Z254
   have q7 : (0 < ws.size) = True := eq_true Z254
   have qi7 : (0 < (ws.size : Int)) = True := eq_true Z254
   have hx7 : ∀ h : 0 < ws.size,(((ws[0]'h).toNat : Int)) = bt ws 0 := bt_at ws 0
   have e7 : (bt ws 0 == 48) = true := beq_iff_eq.mpr hz.2
   clear h1s hz
   go_enter Tryd.func40,Tryd.ntmps40
   go_wp2_with (first
    | (go_at_call 45;(with_reducible refine (strings_CutPrefix.calls a0 _ rest neg _ A1.out).mono ?_);rintro e w' ⟨rfl,⟨nd,rfl⟩⟩)
    | (go_at_call 46;(with_reducible refine (strings_Cut.calls rest _ ws p parted _ (GT_below HG.out (pw_below_drewN (Below.refl _ _) _)) A2.out).mono ?_);rintro e w1 ⟨rfl,hb⟩;have n0_ := Aside0.mk (below_step Z351 hb);clear HB;have HB := n0_;clear n0_ hb)
    | (go_at_call 47;(with_reducible refine (impl_areDigits.calls ws true _ A3.out).mono ?_);rintro e w2 ⟨rfl,hb⟩;have n0_ := Aside0.mk (below_step Z351 hb);clear HB;have HB := n0_;clear n0_ hb))
   go_ret2
   exact ⟨rfl,HB.out⟩
  rw [if_neg hz] at h
  by_cases h1s : 1 < ws.size
  rotate_left
  ·skip
   have da1 : decide ((1 : Int) < (ws.size : Int)) = false := decide_eq_false Z254
   have da2 : decide (1 < ws.size) = false := decide_eq_false Z254
   clear hz
   cases parted with
   | true =>
    rw [if_pos rfl] at h
    obtain ⟨b2,h4,h⟩ := Option.bind_eq_some_iff.mp h
    have A4 := Aside0.mk h4
    clear h4
    cases b2 with
    | false =>
     have h : some ((0 : Int),false) = some (r1,r2) := h
     obtain ⟨rfl,rfl⟩ := Prod.mk.inj (Option.some.inj h)
     clear h
     go_enter Tryd.func40,Tryd.ntmps40
     go_wp2_with (first
      | (go_at_call 45;(with_reducible refine (strings_CutPrefix.calls a0 _ rest neg _ A1.out).mono ?_);rintro e w' ⟨rfl,⟨nd,rfl⟩⟩)
      | (go_at_call 46;(with_reducible refine (strings_Cut.calls rest _ ws p true _ (GT_below HG.out (pw_below_drewN (Below.refl _ _) _)) A2.out).mono ?_);rintro e w1 ⟨rfl,hb⟩;have n0_ := Aside0.mk (below_step Z351 hb);clear HB;have HB := n0_;clear n0_ hb)
      | (go_at_call 47;(with_reducible refine (impl_areDigits.calls ws true _ A3.out).mono ?_);rintro e w2 ⟨rfl,hb⟩;have n0_ := Aside0.mk (below_step Z351 hb);clear HB;have HB := n0_;clear n0_ hb)
      | (go_at_call 47;(with_reducible refine (impl_areDigits.calls p false _ A4.out).mono ?_);rintro e w3 ⟨rfl,hb⟩;have n0_ := Aside0.mk (below_step Z351 hb);clear HB;have HB := n0_;clear n0_ hb))
     go_ret2
     exact ⟨rfl,HB.out⟩
    | true =>
     rw [if_pos rfl] at h
     by_cases h3 : p.size ≤ 3
     rotate_left
     ·rw [if_neg h3] at h
      have h : some ((0 : Int),false) = some (r1,r2) := h
      obtain ⟨rfl,rfl⟩ := Prod.mk.inj (Option.some.inj h)
      clear h
      have db1 : decide ((3 : Int) < (p.size : Int)) = true := decide_eq_true Z254
      have db2 : decide (3 < p.size) = true := decide_eq_true Z254
      clear h3
      go_enter Tryd.func40,Tryd.ntmps40
      go_wp2_with (first
       | (go_at_call 45;(with_reducible refine (strings_CutPrefix.calls a0 _ rest neg _ A1.out).mono ?_);rintro e w' ⟨rfl,⟨nd,rfl⟩⟩)
       | (go_at_call 46;(with_reducible refine (strings_Cut.calls rest _ ws p true _ (GT_below HG.out (pw_below_drewN (Below.refl _ _) _)) A2.out).mono ?_);rintro e w1 ⟨rfl,hb⟩;have n0_ := Aside0.mk (below_step Z351 hb);clear HB;have HB := n0_;clear n0_ hb)
       | (go_at_call 47;(with_reducible refine (impl_areDigits.calls ws true _ A3.out).mono ?_);rintro e w2 ⟨rfl,hb⟩;have n0_ := Aside0.mk (below_step Z351 hb);clear HB;have HB := n0_;clear n0_ hb)
       | (go_at_call 47;(with_reducible refine (impl_areDigits.calls p true _ A4.out).mono ?_);rintro e w3 ⟨rfl,hb⟩;have n0_ := Aside0.mk (below_step Z351 hb);clear HB;have HB := n0_;clear n0_ hb))
      go_ret2
      exact ⟨rfl,HB.out⟩
     rw [if_pos h3] at h
     have db1 : decide ((3 : Int) < (p.size : Int)) = false := decide_eq_false Z254
     have db2 : decide (3 < p.size) = false := decide_eq_false Z254
     unfold impl_ReadFix.fin at h
     by_cases h10 : ws.size ≤ 10
     rotate_left
     ·rw [if_neg h10] at h
      omega
     rw [if_pos h10] at h
     have dc1 : decide ((10 : Int) < (ws.size : Int)) = false := decide_eq_false Z254
     have dc2 : decide (10 < ws.size) = false := decide_eq_false Z254
     by_cases hp : p.size ≤ 3 ∧ (impl_ReadFix.all ws p).data.toList.all impl_ReadFix.dg = true
     rotate_left
     ·rw [if_neg hp] at h;cases h
     rw [if_pos hp] at h
     obtain ⟨hp3,had⟩ := hp
     obtain ⟨t,h5,h⟩ := Option.bind_eq_some_iff.mp h
     have A5 := Aside0.mk h5
     have H := Aside0.mk h
     clear h5 h
     have HD := Aside0.mk had
     clear had
     obtain ⟨z,hz0⟩ : ∃ z : ByteArray,(⟨#[48,48,48]⟩ : ByteArray).extract p.size 3 = z := ⟨_,rfl⟩
     have hzs : z.size = 3 - p.size := by rw [← hz0,ByteArray.size_extract];show min 3 3 - p.size = _;omega
     obtain ⟨L,hL⟩ : ∃ L : ByteArray,impl_ReadFix.all ws p = L := ⟨_,rfl⟩
     have hLs : L.size ≤ 13 := by rw [← hL];unfold impl_ReadFix.all;rw [ByteArray.size_append,ByteArray.size_append,hz0];omega
     have hL2 : ws ++ p ++ z = L := by rw [← hL,← hz0];rfl
     rw [hL] at HD A5 H
     clear hL
     have s1 : (9223372036854775807 < ws.size + p.size) = False := eq_false Z254
     have s2 : (9223372036854775807 < ws.size + p.size + z.size) = False := eq_false Z254
     have k1 : ((0 : Int) ≤ (p.size : Int)) = True := eq_true Z254
     have k2 : ((p.size : Int) ≤ 3) = True := eq_true Z254
     have k3 : (p.size ≤ 3) = True := eq_true hp3
     have HLS := Aside0.mk hLs
     clear hLs hzs hp3 h10
     have kb := fun W => print_bytes (P := Tryd.prog) 9 66 5 Tryd.underlying9 Tryd.underlying66 Tryd.underlying5 L W
     obtain ⟨V,hV⟩ : ∃ V : Int,impl_ReadFix.val L.data.toList = V := ⟨_,rfl⟩
     rw [hV] at A5 H
     have hb0 := impl_ReadFix.val_bound L.data.toList.length L.data.toList rfl HD.out
     have hb1 : (10 : Int) ^ L.data.toList.length ≤ 10000000000000 := by
      have q : (10 : Nat) ^ L.data.toList.length ≤ 10 ^ 13 := Nat.pow_le_pow_right Z254 Z242
      have q : (10 : Int) ^ L.data.toList.length ≤ (10 : Int) ^ 13 := by exact_mod_cast q
      exact q
     have hV0 : 0 ≤ V := by omega
     have hV1 : V ≤ 10000000000000 := by omega
     have HVV := Aside0.mk hV
     clear hV hb0 hb1
     go_enter Tryd.func40,Tryd.ntmps40
     go_wp2_with (first
      | (go_at_call 45;(with_reducible refine (strings_CutPrefix.calls a0 _ rest neg _ A1.out).mono ?_);rintro e w' ⟨rfl,⟨nd,rfl⟩⟩)
      | (go_at_call 46;(with_reducible refine (strings_Cut.calls rest _ ws p true _ (GT_below HG.out (pw_below_drewN (Below.refl _ _) _)) A2.out).mono ?_);rintro e w1 ⟨rfl,hb⟩;have n0_ := Aside0.mk (below_step Z351 hb);clear HB;have HB := n0_;clear n0_ hb)
      | (go_at_call 47;(with_reducible refine (impl_areDigits.calls ws true _ A3.out).mono ?_);rintro e w2 ⟨rfl,hb⟩;have n0_ := Aside0.mk (below_step Z351 hb);clear HB;have HB := n0_;clear n0_ hb)
      | (go_at_call 47;(with_reducible refine (impl_areDigits.calls p true _ A4.out).mono ?_);rintro e w3 ⟨rfl,hb⟩;have n0_ := Aside0.mk (below_step Z351 hb);clear HB;have HB := n0_;clear n0_ hb))
     go_loop [9,63] (fun n i => ∃ k : Nat,k ≤ L.size ∧ i = .int .i64 k ∧ n = .int .i64 (impl_ReadFix.val (L.data.toList.take k))) (fun _ i => L.size - (intOf i).toNat)
     case atStart => exact ⟨0,Nat.zero_le _,rfl,rfl⟩
     case round =>
      obtain ⟨k,hk,rfl,hn⟩ := hrel
      by_cases hlt : k < L.size
      ·obtain ⟨c,hc1,hc2,hc3,hv0,hv1,hv2⟩ := impl_ReadFix.at L k Z245 HD.out Z242
       subst hn
       have hcell := Lib.bytesWorld_cell w3 5 L k hlt
       rw [hc1] at hcell
       have HV := Aside0.mk hv2
       clear hv2 hc1
       have hk13 : k < 13 := by have := HLS.out;omega
       go_wp2
       go_round
       case rel => exact ⟨k + 1,Z254,by go_num,by rw [HV.out]⟩
       case measure => simp [intOf];omega
      have hkk : k = L.size := by omega
      rw [List.take_of_length_le Z247,HVV.out] at hn
      subst hn
      clear hkk hk
      have HB9 := Aside0.mk (bytes_below HB.out (Nat.le_trans HB.out.size (Nat.le_refl _)) 5 L)
      cases t with
      | false =>
       have h : some ((0 : Int),false) = some (r1,r2) := H.out
       obtain ⟨rfl,rfl⟩ := Prod.mk.inj (Option.some.inj h)
       clear h H
       go_wp2_with (go_at_call 48;(with_reducible refine (impl_isDecimal.calls V false _ A5.out).mono ?_);rintro e w' ⟨rfl,⟨nd,rfl⟩⟩)
       go_ret2
       exact ⟨rfl,pw_below_drewN HB9.out _⟩
      | true =>
       cases neg with
       | false =>
        have h : some (V,true) = some (r1,r2) := H.out
        obtain ⟨rfl,rfl⟩ := Prod.mk.inj (Option.some.inj h)
        clear h H
        go_wp2_with (go_at_call 48;(with_reducible refine (impl_isDecimal.calls V true _ A5.out).mono ?_);rintro e w' ⟨rfl,⟨nd,rfl⟩⟩)
        go_ret2
        exact ⟨rfl,pw_below_drewN HB9.out _⟩
       | true =>
        have h : some (-V,true) = some (r1,r2) := H.out
        obtain ⟨rfl,rfl⟩ := Prod.mk.inj (Option.some.inj h)
        clear h H
        go_wp2_with (go_at_call 48;(with_reducible refine (impl_isDecimal.calls V true _ A5.out).mono ?_);rintro e w' ⟨rfl,⟨nd,rfl⟩⟩)
        go_ret2
        exact ⟨rfl,pw_below_drewN HB9.out _⟩
   | false =>
    rw [if_neg Bool.false_ne_true] at h
    unfold impl_ReadFix.fin at h
    by_cases h10 : ws.size ≤ 10
    rotate_left
    ·rw [if_neg h10] at h
     omega
    rw [if_pos h10] at h
    have dc1 : decide ((10 : Int) < (ws.size : Int)) = false := decide_eq_false Z254
    have dc2 : decide (10 < ws.size) = false := decide_eq_false Z254
    by_cases hp : p.size ≤ 3 ∧ (impl_ReadFix.all ws p).data.toList.all impl_ReadFix.dg = true
    rotate_left
    ·rw [if_neg hp] at h;cases h
    rw [if_pos hp] at h
    obtain ⟨hp3,had⟩ := hp
    obtain ⟨t,h5,h⟩ := Option.bind_eq_some_iff.mp h
    have A5 := Aside0.mk h5
    have H := Aside0.mk h
    clear h5 h
    have HD := Aside0.mk had
    clear had
    obtain ⟨z,hz0⟩ : ∃ z : ByteArray,(⟨#[48,48,48]⟩ : ByteArray).extract p.size 3 = z := ⟨_,rfl⟩
    have hzs : z.size = 3 - p.size := by rw [← hz0,ByteArray.size_extract];show min 3 3 - p.size = _;omega
    obtain ⟨L,hL⟩ : ∃ L : ByteArray,impl_ReadFix.all ws p = L := ⟨_,rfl⟩
    have hLs : L.size ≤ 13 := by rw [← hL];unfold impl_ReadFix.all;rw [ByteArray.size_append,ByteArray.size_append,hz0];omega
    have hL2 : ws ++ p ++ z = L := by rw [← hL,← hz0];rfl
    rw [hL] at HD A5 H
    clear hL
    have s1 : (9223372036854775807 < ws.size + p.size) = False := eq_false Z254
    have s2 : (9223372036854775807 < ws.size + p.size + z.size) = False := eq_false Z254
    have k1 : ((0 : Int) ≤ (p.size : Int)) = True := eq_true Z254
    have k2 : ((p.size : Int) ≤ 3) = True := eq_true Z254
    have k3 : (p.size ≤ 3) = True := eq_true hp3
    have HLS := Aside0.mk hLs
    clear hLs hzs hp3 h10
    have kb := fun W => print_bytes (P := Tryd.prog) 9 66 5 Tryd.underlying9 Tryd.underlying66 Tryd.underlying5 L W
    obtain ⟨V,hV⟩ : ∃ V : Int,impl_ReadFix.val L.data.toList = V := ⟨_,rfl⟩
    rw [hV] at A5 H
    have hb0 := impl_ReadFix.val_bound L.data.toList.length L.data.toList rfl HD.out
    have hb1 : (10 : Int) ^ L.data.toList.length ≤ 10000000000000 := by
     have q : (10 : Nat) ^ L.data.toList.length ≤ 10 ^ 13 := Nat.pow_le_pow_right Z254 Z242
     have q : (10 : Int) ^ L.data.toList.length ≤ (10 : Int) ^ 13 := by exact_mod_cast q
     exact q
    have hV0 : 0 ≤ V := by omega
    have hV1 : V ≤ 10000000000000 := by omega
    have HVV := Aside0.mk hV
    clear hV hb0 hb1
    go_enter Tryd.func40,Tryd.ntmps40
    go_wp2_with (first
     | (go_at_call 45;(with_reducible refine (strings_CutPrefix.calls a0 _ rest neg _ A1.out).mono ?_);rintro e w' ⟨rfl,⟨nd,rfl⟩⟩)
     | (go_at_call 46;(with_reducible refine (strings_Cut.calls rest _ ws p false _ (GT_below HG.out (pw_below_drewN (Below.refl _ _) _)) A2.out).mono ?_);rintro e w1 ⟨rfl,hb⟩;have n0_ := Aside0.mk (below_step Z351 hb);clear HB;have HB := n0_;clear n0_ hb)
     | (go_at_call 47;(with_reducible refine (impl_areDigits.calls ws true _ A3.out).mono ?_);rintro e w2 ⟨rfl,hb⟩;have n0_ := Aside0.mk (below_step Z351 hb);clear HB;have HB := n0_;clear n0_ hb))
    go_loop [9,63] (fun n i => ∃ k : Nat,k ≤ L.size ∧ i = .int .i64 k ∧ n = .int .i64 (impl_ReadFix.val (L.data.toList.take k))) (fun _ i => L.size - (intOf i).toNat)
    case atStart => exact ⟨0,Nat.zero_le _,rfl,rfl⟩
    case round =>
     obtain ⟨k,hk,rfl,hn⟩ := hrel
     by_cases hlt : k < L.size
     ·obtain ⟨c,hc1,hc2,hc3,hv0,hv1,hv2⟩ := impl_ReadFix.at L k Z245 HD.out Z242
      subst hn
      have hcell := Lib.bytesWorld_cell w2 5 L k hlt
      rw [hc1] at hcell
      have HV := Aside0.mk hv2
      clear hv2 hc1
      have hk13 : k < 13 := by have := HLS.out;omega
      go_wp2
      go_round
      case rel => exact ⟨k + 1,Z254,by go_num,by rw [HV.out]⟩
      case measure => simp [intOf];omega
     have hkk : k = L.size := by omega
     rw [List.take_of_length_le Z247,HVV.out] at hn
     subst hn
     clear hkk hk
     have HB9 := Aside0.mk (bytes_below HB.out (Nat.le_trans HB.out.size (Nat.le_refl _)) 5 L)
     cases t with
     | false =>
      have h : some ((0 : Int),false) = some (r1,r2) := H.out
      obtain ⟨rfl,rfl⟩ := Prod.mk.inj (Option.some.inj h)
      clear h H
      go_wp2_with (go_at_call 48;(with_reducible refine (impl_isDecimal.calls V false _ A5.out).mono ?_);rintro e w' ⟨rfl,⟨nd,rfl⟩⟩)
      go_ret2
      exact ⟨rfl,pw_below_drewN HB9.out _⟩
     | true =>
      cases neg with
      | false =>
       have h : some (V,true) = some (r1,r2) := H.out
       obtain ⟨rfl,rfl⟩ := Prod.mk.inj (Option.some.inj h)
       clear h H
       go_wp2_with (go_at_call 48;(with_reducible refine (impl_isDecimal.calls V true _ A5.out).mono ?_);rintro e w' ⟨rfl,⟨nd,rfl⟩⟩)
       go_ret2
       exact ⟨rfl,pw_below_drewN HB9.out _⟩
      | true =>
       have h : some (-V,true) = some (r1,r2) := H.out
       obtain ⟨rfl,rfl⟩ := Prod.mk.inj (Option.some.inj h)
       clear h H
       go_wp2_with (go_at_call 48;(with_reducible refine (impl_isDecimal.calls V true _ A5.out).mono ?_);rintro e w' ⟨rfl,⟨nd,rfl⟩⟩)
       go_ret2
       exact ⟨rfl,pw_below_drewN HB9.out _⟩
  skip
  have da1 : decide ((1 : Int) < (ws.size : Int)) = true := decide_eq_true Z254
  have da2 : decide (1 < ws.size) = true := decide_eq_true Z254
  have q7 : (0 < ws.size) = True := eq_true Z254
  have qi7 : (0 < (ws.size : Int)) = True := eq_true Z254
  have hx7 : ∀ h : 0 < ws.size,(((ws[0]'h).toNat : Int)) = bt ws 0 := bt_at ws 0
  have e7 : (bt ws 0 == 48) = false := beq_eq_false_iff_ne.mpr (fun e => hz ⟨Z254,e⟩)
  clear hz
  cases parted with
  | true =>
   rw [if_pos rfl] at h
   obtain ⟨b2,h4,h⟩ := Option.bind_eq_some_iff.mp h
   have A4 := Aside0.mk h4
   clear h4
   cases b2 with
   | false =>
    have h : some ((0 : Int),false) = some (r1,r2) := h
    obtain ⟨rfl,rfl⟩ := Prod.mk.inj (Option.some.inj h)
    clear h
    go_enter Tryd.func40,Tryd.ntmps40
    go_wp2_with (first
     | (go_at_call 45;(with_reducible refine (strings_CutPrefix.calls a0 _ rest neg _ A1.out).mono ?_);rintro e w' ⟨rfl,⟨nd,rfl⟩⟩)
     | (go_at_call 46;(with_reducible refine (strings_Cut.calls rest _ ws p true _ (GT_below HG.out (pw_below_drewN (Below.refl _ _) _)) A2.out).mono ?_);rintro e w1 ⟨rfl,hb⟩;have n0_ := Aside0.mk (below_step Z351 hb);clear HB;have HB := n0_;clear n0_ hb)
     | (go_at_call 47;(with_reducible refine (impl_areDigits.calls ws true _ A3.out).mono ?_);rintro e w2 ⟨rfl,hb⟩;have n0_ := Aside0.mk (below_step Z351 hb);clear HB;have HB := n0_;clear n0_ hb)
     | (go_at_call 47;(with_reducible refine (impl_areDigits.calls p false _ A4.out).mono ?_);rintro e w3 ⟨rfl,hb⟩;have n0_ := Aside0.mk (below_step Z351 hb);clear HB;have HB := n0_;clear n0_ hb))
    go_ret2
    exact ⟨rfl,HB.out⟩
   | true =>
    rw [if_pos rfl] at h
    by_cases h3 : p.size ≤ 3
    rotate_left
    ·rw [if_neg h3] at h
     have h : some ((0 : Int),false) = some (r1,r2) := h
     obtain ⟨rfl,rfl⟩ := Prod.mk.inj (Option.some.inj h)
     clear h
     have db1 : decide ((3 : Int) < (p.size : Int)) = true := decide_eq_true Z254
     have db2 : decide (3 < p.size) = true := decide_eq_true Z254
     clear h3
     go_enter Tryd.func40,Tryd.ntmps40
     go_wp2_with (first
      | (go_at_call 45;(with_reducible refine (strings_CutPrefix.calls a0 _ rest neg _ A1.out).mono ?_);rintro e w' ⟨rfl,⟨nd,rfl⟩⟩)
      | (go_at_call 46;(with_reducible refine (strings_Cut.calls rest _ ws p true _ (GT_below HG.out (pw_below_drewN (Below.refl _ _) _)) A2.out).mono ?_);rintro e w1 ⟨rfl,hb⟩;have n0_ := Aside0.mk (below_step Z351 hb);clear HB;have HB := n0_;clear n0_ hb)
      | (go_at_call 47;(with_reducible refine (impl_areDigits.calls ws true _ A3.out).mono ?_);rintro e w2 ⟨rfl,hb⟩;have n0_ := Aside0.mk (below_step Z351 hb);clear HB;have HB := n0_;clear n0_ hb)
      | (go_at_call 47;(with_reducible refine (impl_areDigits.calls p true _ A4.out).mono ?_);rintro e w3 ⟨rfl,hb⟩;have n0_ := Aside0.mk (below_step Z351 hb);clear HB;have HB := n0_;clear n0_ hb))
     go_ret2
     exact ⟨rfl,HB.out⟩
    rw [if_pos h3] at h
    have db1 : decide ((3 : Int) < (p.size : Int)) = false := decide_eq_false Z254
    have db2 : decide (3 < p.size) = false := decide_eq_false Z254
    unfold impl_ReadFix.fin at h
    by_cases h10 : ws.size ≤ 10
    rotate_left
    ·rw [if_neg h10] at h
     have h : some ((0 : Int),false) = some (r1,r2) := h
     obtain ⟨rfl,rfl⟩ := Prod.mk.inj (Option.some.inj h)
     clear h
     have dc1 : decide ((10 : Int) < (ws.size : Int)) = true := decide_eq_true Z254
     have dc2 : decide (10 < ws.size) = true := decide_eq_true Z254
     clear h10
     go_enter Tryd.func40,Tryd.ntmps40
     go_wp2_with (first
      | (go_at_call 45;(with_reducible refine (strings_CutPrefix.calls a0 _ rest neg _ A1.out).mono ?_);rintro e w' ⟨rfl,⟨nd,rfl⟩⟩)
      | (go_at_call 46;(with_reducible refine (strings_Cut.calls rest _ ws p true _ (GT_below HG.out (pw_below_drewN (Below.refl _ _) _)) A2.out).mono ?_);rintro e w1 ⟨rfl,hb⟩;have n0_ := Aside0.mk (below_step Z351 hb);clear HB;have HB := n0_;clear n0_ hb)
      | (go_at_call 47;(with_reducible refine (impl_areDigits.calls ws true _ A3.out).mono ?_);rintro e w2 ⟨rfl,hb⟩;have n0_ := Aside0.mk (below_step Z351 hb);clear HB;have HB := n0_;clear n0_ hb)
      | (go_at_call 47;(with_reducible refine (impl_areDigits.calls p true _ A4.out).mono ?_);rintro e w3 ⟨rfl,hb⟩;have n0_ := Aside0.mk (below_step Z351 hb);clear HB;have HB := n0_;clear n0_ hb))
     go_ret2
     exact ⟨rfl,HB.out⟩
    rw [if_pos h10] at h
    have dc1 : decide ((10 : Int) < (ws.size : Int)) = false := decide_eq_false Z254
    have dc2 : decide (10 < ws.size) = false := decide_eq_false Z254
    by_cases hp : p.size ≤ 3 ∧ (impl_ReadFix.all ws p).data.toList.all impl_ReadFix.dg = true
    rotate_left
    ·rw [if_neg hp] at h;cases h
    rw [if_pos hp] at h
    obtain ⟨hp3,had⟩ := hp
    obtain ⟨t,h5,h⟩ := Option.bind_eq_some_iff.mp h
    have A5 := Aside0.mk h5
    have H := Aside0.mk h
    clear h5 h
    have HD := Aside0.mk had
    clear had
    obtain ⟨z,hz0⟩ : ∃ z : ByteArray,(⟨#[48,48,48]⟩ : ByteArray).extract p.size 3 = z := ⟨_,rfl⟩
    have hzs : z.size = 3 - p.size := by rw [← hz0,ByteArray.size_extract];show min 3 3 - p.size = _;omega
    obtain ⟨L,hL⟩ : ∃ L : ByteArray,impl_ReadFix.all ws p = L := ⟨_,rfl⟩
    have hLs : L.size ≤ 13 := by rw [← hL];unfold impl_ReadFix.all;rw [ByteArray.size_append,ByteArray.size_append,hz0];omega
    have hL2 : ws ++ p ++ z = L := by rw [← hL,← hz0];rfl
    rw [hL] at HD A5 H
    clear hL
    have s1 : (9223372036854775807 < ws.size + p.size) = False := eq_false Z254
    have s2 : (9223372036854775807 < ws.size + p.size + z.size) = False := eq_false Z254
    have k1 : ((0 : Int) ≤ (p.size : Int)) = True := eq_true Z254
    have k2 : ((p.size : Int) ≤ 3) = True := eq_true Z254
    have k3 : (p.size ≤ 3) = True := eq_true hp3
    have HLS := Aside0.mk hLs
    clear hLs hzs hp3 h10
    have kb := fun W => print_bytes (P := Tryd.prog) 9 66 5 Tryd.underlying9 Tryd.underlying66 Tryd.underlying5 L W
    obtain ⟨V,hV⟩ : ∃ V : Int,impl_ReadFix.val L.data.toList = V := ⟨_,rfl⟩
    rw [hV] at A5 H
    have hb0 := impl_ReadFix.val_bound L.data.toList.length L.data.toList rfl HD.out
    have hb1 : (10 : Int) ^ L.data.toList.length ≤ 10000000000000 := by
     have q : (10 : Nat) ^ L.data.toList.length ≤ 10 ^ 13 := Nat.pow_le_pow_right Z254 Z242
     have q : (10 : Int) ^ L.data.toList.length ≤ (10 : Int) ^ 13 := by exact_mod_cast q
     exact q
    have hV0 : 0 ≤ V := by omega
    have hV1 : V ≤ 10000000000000 := by omega
    have HVV := Aside0.mk hV
    clear hV hb0 hb1
    go_enter Tryd.func40,Tryd.ntmps40
    go_wp2_with (first
     | (go_at_call 45;(with_reducible refine (strings_CutPrefix.calls a0 _ rest neg _ A1.out).mono ?_);rintro e w' ⟨rfl,⟨nd,rfl⟩⟩)
     | (go_at_call 46;(with_reducible refine (strings_Cut.calls rest _ ws p true _ (GT_below HG.out (pw_below_drewN (Below.refl _ _) _)) A2.out).mono ?_);rintro e w1 ⟨rfl,hb⟩;have n0_ := Aside0.mk (below_step Z351 hb);clear HB;have HB := n0_;clear n0_ hb)
     | (go_at_call 47;(with_reducible refine (impl_areDigits.calls ws true _ A3.out).mono ?_);rintro e w2 ⟨rfl,hb⟩;have n0_ := Aside0.mk (below_step Z351 hb);clear HB;have HB := n0_;clear n0_ hb)
     | (go_at_call 47;(with_reducible refine (impl_areDigits.calls p true _ A4.out).mono ?_);rintro e w3 ⟨rfl,hb⟩;have n0_ := Aside0.mk (below_step Z351 hb);clear HB;have HB := n0_;clear n0_ hb))
    go_loop [9,63] (fun n i => ∃ k : Nat,k ≤ L.size ∧ i = .int .i64 k ∧ n = .int .i64 (impl_ReadFix.val (L.data.toList.take k))) (fun _ i => L.size - (intOf i).toNat)
    case atStart => exact ⟨0,Nat.zero_le _,rfl,rfl⟩
    case round =>
     obtain ⟨k,hk,rfl,hn⟩ := hrel
     by_cases hlt : k < L.size
     ·obtain ⟨c,hc1,hc2,hc3,hv0,hv1,hv2⟩ := impl_ReadFix.at L k Z245 HD.out Z242
      subst hn
      have hcell := Lib.bytesWorld_cell w3 5 L k hlt
      rw [hc1] at hcell
      have HV := Aside0.mk hv2
      clear hv2 hc1
      have hk13 : k < 13 := by have := HLS.out;omega
      go_wp2
      go_round
      case rel => exact ⟨k + 1,Z254,by go_num,by rw [HV.out]⟩
      case measure => simp [intOf];omega
     have hkk : k = L.size := by omega
     rw [List.take_of_length_le Z247,HVV.out] at hn
     subst hn
     clear hkk hk
     have HB9 := Aside0.mk (bytes_below HB.out (Nat.le_trans HB.out.size (Nat.le_refl _)) 5 L)
     cases t with
     | false =>
      have h : some ((0 : Int),false) = some (r1,r2) := H.out
      obtain ⟨rfl,rfl⟩ := Prod.mk.inj (Option.some.inj h)
      clear h H
      go_wp2_with (go_at_call 48;(with_reducible refine (impl_isDecimal.calls V false _ A5.out).mono ?_);rintro e w' ⟨rfl,⟨nd,rfl⟩⟩)
      go_ret2
      exact ⟨rfl,pw_below_drewN HB9.out _⟩
     | true =>
      cases neg with
      | false =>
       have h : some (V,true) = some (r1,r2) := H.out
       obtain ⟨rfl,rfl⟩ := Prod.mk.inj (Option.some.inj h)
       clear h H
       go_wp2_with (go_at_call 48;(with_reducible refine (impl_isDecimal.calls V true _ A5.out).mono ?_);rintro e w' ⟨rfl,⟨nd,rfl⟩⟩)
       go_ret2
       exact ⟨rfl,pw_below_drewN HB9.out _⟩
      | true =>
       have h : some (-V,true) = some (r1,r2) := H.out
       obtain ⟨rfl,rfl⟩ := Prod.mk.inj (Option.some.inj h)
       clear h H
       go_wp2_with (go_at_call 48;(with_reducible refine (impl_isDecimal.calls V true _ A5.out).mono ?_);rintro e w' ⟨rfl,⟨nd,rfl⟩⟩)
       go_ret2
       exact ⟨rfl,pw_below_drewN HB9.out _⟩
  | false =>
   rw [if_neg Bool.false_ne_true] at h
   unfold impl_ReadFix.fin at h
   by_cases h10 : ws.size ≤ 10
   rotate_left
   ·rw [if_neg h10] at h
    have h : some ((0 : Int),false) = some (r1,r2) := h
    obtain ⟨rfl,rfl⟩ := Prod.mk.inj (Option.some.inj h)
    clear h
    have dc1 : decide ((10 : Int) < (ws.size : Int)) = true := decide_eq_true Z254
    have dc2 : decide (10 < ws.size) = true := decide_eq_true Z254
    clear h10
    go_enter Tryd.func40,Tryd.ntmps40
    go_wp2_with (first
     | (go_at_call 45;(with_reducible refine (strings_CutPrefix.calls a0 _ rest neg _ A1.out).mono ?_);rintro e w' ⟨rfl,⟨nd,rfl⟩⟩)
     | (go_at_call 46;(with_reducible refine (strings_Cut.calls rest _ ws p false _ (GT_below HG.out (pw_below_drewN (Below.refl _ _) _)) A2.out).mono ?_);rintro e w1 ⟨rfl,hb⟩;have n0_ := Aside0.mk (below_step Z351 hb);clear HB;have HB := n0_;clear n0_ hb)
     | (go_at_call 47;(with_reducible refine (impl_areDigits.calls ws true _ A3.out).mono ?_);rintro e w2 ⟨rfl,hb⟩;have n0_ := Aside0.mk (below_step Z351 hb);clear HB;have HB := n0_;clear n0_ hb))
    go_ret2
    exact ⟨rfl,HB.out⟩
   rw [if_pos h10] at h
   have dc1 : decide ((10 : Int) < (ws.size : Int)) = false := decide_eq_false Z254
   have dc2 : decide (10 < ws.size) = false := decide_eq_false Z254
   by_cases hp : p.size ≤ 3 ∧ (impl_ReadFix.all ws p).data.toList.all impl_ReadFix.dg = true
   rotate_left
   ·rw [if_neg hp] at h;cases h
   rw [if_pos hp] at h
   obtain ⟨hp3,had⟩ := hp
   obtain ⟨t,h5,h⟩ := Option.bind_eq_some_iff.mp h
   have A5 := Aside0.mk h5
   have H := Aside0.mk h
   clear h5 h
   have HD := Aside0.mk had
   clear had
   obtain ⟨z,hz0⟩ : ∃ z : ByteArray,(⟨#[48,48,48]⟩ : ByteArray).extract p.size 3 = z := ⟨_,rfl⟩
   have hzs : z.size = 3 - p.size := by rw [← hz0,ByteArray.size_extract];show min 3 3 - p.size = _;omega
   obtain ⟨L,hL⟩ : ∃ L : ByteArray,impl_ReadFix.all ws p = L := ⟨_,rfl⟩
   have hLs : L.size ≤ 13 := by rw [← hL];unfold impl_ReadFix.all;rw [ByteArray.size_append,ByteArray.size_append,hz0];omega
   have hL2 : ws ++ p ++ z = L := by rw [← hL,← hz0];rfl
   rw [hL] at HD A5 H
   clear hL
   have s1 : (9223372036854775807 < ws.size + p.size) = False := eq_false Z254
   have s2 : (9223372036854775807 < ws.size + p.size + z.size) = False := eq_false Z254
   have k1 : ((0 : Int) ≤ (p.size : Int)) = True := eq_true Z254
   have k2 : ((p.size : Int) ≤ 3) = True := eq_true Z254
   have k3 : (p.size ≤ 3) = True := eq_true hp3
   have HLS := Aside0.mk hLs
   clear hLs hzs hp3 h10
   have kb := fun W => print_bytes (P := Tryd.prog) 9 66 5 Tryd.underlying9 Tryd.underlying66 Tryd.underlying5 L W
   obtain ⟨V,hV⟩ : ∃ V : Int,impl_ReadFix.val L.data.toList = V := ⟨_,rfl⟩
   rw [hV] at A5 H
   have hb0 := impl_ReadFix.val_bound L.data.toList.length L.data.toList rfl HD.out
   have hb1 : (10 : Int) ^ L.data.toList.length ≤ 10000000000000 := by
    have q : (10 : Nat) ^ L.data.toList.length ≤ 10 ^ 13 := Nat.pow_le_pow_right Z254 Z242
    have q : (10 : Int) ^ L.data.toList.length ≤ (10 : Int) ^ 13 := by exact_mod_cast q
    exact q
   have hV0 : 0 ≤ V := by omega
   have hV1 : V ≤ 10000000000000 := by omega
   have HVV := Aside0.mk hV
   clear hV hb0 hb1
   go_enter Tryd.func40,Tryd.ntmps40
   go_wp2_with (first
    | (go_at_call 45;(with_reducible refine (strings_CutPrefix.calls a0 _ rest neg _ A1.out).mono ?_);rintro e w' ⟨rfl,⟨nd,rfl⟩⟩)
    | (go_at_call 46;(with_reducible refine (strings_Cut.calls rest _ ws p false _ (GT_below HG.out (pw_below_drewN (Below.refl _ _) _)) A2.out).mono ?_);rintro e w1 ⟨rfl,hb⟩;have n0_ := Aside0.mk (below_step Z351 hb);clear HB;have HB := n0_;clear n0_ hb)
    | (go_at_call 47;(with_reducible refine (impl_areDigits.calls ws true _ A3.out).mono ?_);rintro e w2 ⟨rfl,hb⟩;have n0_ := Aside0.mk (below_step Z351 hb);clear HB;have HB := n0_;clear n0_ hb))
   go_loop [9,63] (fun n i => ∃ k : Nat,k ≤ L.size ∧ i = .int .i64 k ∧ n = .int .i64 (impl_ReadFix.val (L.data.toList.take k))) (fun _ i => L.size - (intOf i).toNat)
   case atStart => exact ⟨0,Nat.zero_le _,rfl,rfl⟩
   case round =>
    obtain ⟨k,hk,rfl,hn⟩ := hrel
    by_cases hlt : k < L.size
    ·obtain ⟨c,hc1,hc2,hc3,hv0,hv1,hv2⟩ := impl_ReadFix.at L k Z245 HD.out Z242
     subst hn
     have hcell := Lib.bytesWorld_cell w2 5 L k hlt
     rw [hc1] at hcell
     have HV := Aside0.mk hv2
     clear hv2 hc1
     have hk13 : k < 13 := by have := HLS.out;omega
     go_wp2
     go_round
     case rel => exact ⟨k + 1,Z254,by go_num,by rw [HV.out]⟩
     case measure => simp [intOf];omega
    have hkk : k = L.size := by omega
    rw [List.take_of_length_le Z247,HVV.out] at hn
    subst hn
    clear hkk hk
    have HB9 := Aside0.mk (bytes_below HB.out (Nat.le_trans HB.out.size (Nat.le_refl _)) 5 L)
    cases t with
    | false =>
     have h : some ((0 : Int),false) = some (r1,r2) := H.out
     obtain ⟨rfl,rfl⟩ := Prod.mk.inj (Option.some.inj h)
     clear h H
     go_wp2_with (go_at_call 48;(with_reducible refine (impl_isDecimal.calls V false _ A5.out).mono ?_);rintro e w' ⟨rfl,⟨nd,rfl⟩⟩)
     go_ret2
     exact ⟨rfl,pw_below_drewN HB9.out _⟩
    | true =>
     cases neg with
     | false =>
      have h : some (V,true) = some (r1,r2) := H.out
      obtain ⟨rfl,rfl⟩ := Prod.mk.inj (Option.some.inj h)
      clear h H
      go_wp2_with (go_at_call 48;(with_reducible refine (impl_isDecimal.calls V true _ A5.out).mono ?_);rintro e w' ⟨rfl,⟨nd,rfl⟩⟩)
      go_ret2
      exact ⟨rfl,pw_below_drewN HB9.out _⟩
     | true =>
      have h : some (-V,true) = some (r1,r2) := H.out
      obtain ⟨rfl,rfl⟩ := Prod.mk.inj (Option.some.inj h)
      clear h H
      go_wp2_with (go_at_call 48;(with_reducible refine (impl_isDecimal.calls V true _ A5.out).mono ?_);rintro e w' ⟨rfl,⟨nd,rfl⟩⟩)
      go_ret2
      exact ⟨rfl,pw_below_drewN HB9.out _⟩

end Go.Proofs.YtepnbcdbagjmbaaDoor.QFnExactReadTable
