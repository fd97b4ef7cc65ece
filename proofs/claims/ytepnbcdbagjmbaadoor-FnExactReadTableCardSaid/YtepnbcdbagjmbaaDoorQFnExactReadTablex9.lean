/- The machine side of FnExactReadTable: what each Go function that it reaches comes to. Conditions: none. -/
import Derived.Test.YtepnbcdbagjmbaaDoorQFnExactReadTablex0
namespace Go.Proofs.YtepnbcdbagjmbaaDoor.QFnExactReadTable
open Go.RowKit Go.Proofs.YtepnbcdbagjmbaaDoorW.PrintWords Go.Proofs.YtepnbcdbagjmbaaDoorW.PrintLast Go.Proofs.YtepnbcdbagjmbaaDoorW.PrintMore
attribute [local go_sem] max2_int min2_int max_two min_two max_three min_three max_four min_four   -- for this text's walks alone
set_option linter.unusedVariables false
set_option linter.unusedSimpArgs false

/-! ### strings_IndexAny: function 43 (at the bytes that part a row's fields) -/
theorem ia_quiet {P : Program} {f : FuncId} {args : Array Value} {w : World} {a n : Nat} {v : Value} (h : Calls P f args (w.drewN (a + n)) fun e w' => e = .returned v ∧ w' = w.drewN (a + n)) : Calls P f args (w.drewN (a + n)) fun e w'' => e = .returned v ∧ ∃ m,w'' = w.drewN (a + m) :=
 h.mono fun _ _ ⟨he,hm⟩ => ⟨he,n,hm⟩
theorem strings_IndexAny.enc {r : Int} (h0 : 128 ≤ r) (h1 : r ≤ 1114111) (hv : Utf8.valid r = true) : ∃ (rs : ByteArray) (b : UInt8),Utf8.encode r = rs ∧ 128 ≤ b.toNat ∧ ((∃ b0,rs = ⟨#[b0,b]⟩) ∨ (∃ b0 b1,rs = ⟨#[b0,b1,b]⟩) ∨ (∃ b0 b1 b2,rs = ⟨#[b0,b1,b2,b]⟩)) := by
 have k : ∀ n : Nat,128 ≤ (UInt8.ofNat (0x80 + n % 64)).toNat := fun n => by rw [UInt8.toNat_ofNat'];omega
 unfold Utf8.encode
 rw [if_pos hv]
 simp only
 split
 ·omega
 split
 ·exact ⟨_,_,rfl,k _,.inl ⟨_,rfl⟩⟩
 split
 ·exact ⟨_,_,rfl,k _,.inr (.inl ⟨_,_,rfl⟩)⟩
 exact ⟨_,_,rfl,k _,.inr (.inr ⟨_,_,_,rfl⟩)⟩
theorem strings_IndexAny.none_ (k : Nat) (b : UInt8) (hb : 128 ≤ b.toNat) : Lib.indexByte (([44,34,10,13] : List UInt8).drop k) b = -1 := by
 have n1 : (44 : UInt8) ≠ b := by rintro rfl;exact absurd hb Z355
 have n2 : (34 : UInt8) ≠ b := by rintro rfl;exact absurd hb Z355
 have n3 : (10 : UInt8) ≠ b := by rintro rfl;exact absurd hb Z355
 have n4 : (13 : UInt8) ≠ b := by rintro rfl;exact absurd hb Z355
 match k with
 | 0 => simp [Lib.indexByte,n1,n2,n3,n4]
 | 1 => simp [Lib.indexByte,n1,n2,n3,n4]
 | 2 => simp [Lib.indexByte,n1,n2,n3,n4]
 | 3 => simp [Lib.indexByte,n1,n2,n3,n4]
 | k + 4 => simp [Lib.indexByte]
set_option maxHeartbeats 8000000 in
set_option maxRecDepth 1000000 in
theorem strings_IndexAny.rune_bad (w : World) : Calls Tryd.prog 50 #[.string ⟨#[44,34,10,13]⟩,.int .i32 65533] w fun e w' => e = .returned (.int .i64 (-1)) ∧ Below w.heap.size w w' := by
 go_enter Tryd.func50,Tryd.ntmps50
 go_wp2
 go_loopg [5,6] 4 (fun g _ _ wx => ∃ i : Nat,i + g = 4 ∧ wx = w.iter ⟨#[44,34,10,13]⟩ i)
 case atStart => exact ⟨0,Z254,rfl⟩
 case round =>
  obtain ⟨i,hig,rfl⟩ := hrel
  cases gk with
  | zero =>
   obtain rfl : i = 4 := by omega
   have hnx := run_next_end (P := Tryd.prog) w ⟨#[44,34,10,13]⟩ 4
   go_wp2
   go_ret
   exact ⟨rfl,(Below.refl _ _).alloc (Nat.le_refl _) _⟩
  | succ g =>
   have hi : i = 0 ∨ i = 1 ∨ i = 2 ∨ i = 3 := by omega
   rcases hi with rfl | rfl | rfl | rfl
   ·have hnx := fun ty => run_next_ascii (P := Tryd.prog) w ⟨#[44,34,10,13]⟩ 0 ty Z355 Z355
    have e : (((⟨#[44,34,10,13]⟩ : ByteArray)[0]'Z355).toNat : Int) = 44 := rfl
    simp only [e] at hnx
    go_wp2
    go_roundg g
    case measure => omega
    case rel => exact ⟨1,Z254,rfl⟩
   ·have hnx := fun ty => run_next_ascii (P := Tryd.prog) w ⟨#[44,34,10,13]⟩ 1 ty Z355 Z355
    have e : (((⟨#[44,34,10,13]⟩ : ByteArray)[1]'Z355).toNat : Int) = 34 := rfl
    simp only [e] at hnx
    go_wp2
    go_roundg g
    case measure => omega
    case rel => exact ⟨2,Z254,rfl⟩
   ·have hnx := fun ty => run_next_ascii (P := Tryd.prog) w ⟨#[44,34,10,13]⟩ 2 ty Z355 Z355
    have e : (((⟨#[44,34,10,13]⟩ : ByteArray)[2]'Z355).toNat : Int) = 10 := rfl
    simp only [e] at hnx
    go_wp2
    go_roundg g
    case measure => omega
    case rel => exact ⟨3,Z254,rfl⟩
   have hnx := fun ty => run_next_ascii (P := Tryd.prog) w ⟨#[44,34,10,13]⟩ 3 ty Z355 Z355
   have e : (((⟨#[44,34,10,13]⟩ : ByteArray)[3]'Z355).toNat : Int) = 13 := rfl
   simp only [e] at hnx
   go_wp2
   go_roundg g
   case measure => omega
   case rel => exact ⟨4,Z254,rfl⟩
set_option maxHeartbeats 8000000 in
set_option maxRecDepth 1000000 in
theorem strings_IndexAny.rune_hi (r : Int) (w : World) (h0 : 128 ≤ r) (h1 : r ≤ 1114111) : Calls Tryd.prog 50 #[.string ⟨#[44,34,10,13]⟩,.int .i32 r] w fun e w' => e = .returned (.int .i64 (-1)) ∧ Below w.heap.size w w' := by
 by_cases hbad : r = 65533
 ·subst hbad
  exact strings_IndexAny.rune_bad w
 have e1 : (r == 65533) = false := beq_eq_false_iff_ne.2 hbad
 have d1 : decide ((0 : Int) ≤ r) = true := decide_eq_true Z254
 have d2 : decide (r < 128) = false := decide_eq_false Z254
 cases hv : Lib.validRune r with
 | false =>
  clear hbad
  go_enter Tryd.func50,Tryd.ntmps50
  go_wp2_with (go_at_call 59;(with_reducible refine (Tryd.utf8_ValidRune r _).mono ?_);rintro e w' ⟨rfl,hw⟩;rw [hw,hv])
  go_ret
  exact ⟨rfl,Below.refl _ _⟩
 | true =>
  have hv2 : Utf8.valid r = true := by
   have := hv
   unfold Lib.validRune at this
   unfold Utf8.valid
   simp only [Bool.or_eq_true,Bool.and_eq_true,decide_eq_true_eq] at this ⊢
   omega
  obtain ⟨rs,b,hrs,hb,hc⟩ := strings_IndexAny.enc h0 h1 hv2
  have HV := Aside0.mk hv
  have HB := Aside0.mk hb
  clear hbad hv hv2 hb
  rcases hc with ⟨b0,rfl⟩ | ⟨b0,b1,rfl⟩ | ⟨b0,b1,b2,rfl⟩
  ·have hx : (((⟨#[b0,b]⟩ : ByteArray)[1]'(show 1 < 2 from Z355)).toNat : Int) = (b.toNat : Int) := rfl
   have hc0 : (((⟨#[44,34,10,13]⟩ : ByteArray)[1]'(show 1 < 4 from Z355)).toNat : Int) = 34 := rfl
   have hne : ((34 : Int) != (b.toNat : Int)) = true := bne_iff_ne.2 (by have := HB.out;omega)
   have hb255 : (b.toNat : Int) < 256 := by have := b.toNat_lt;omega
   have hix := strings_IndexAny.none_ 2 b HB.out
   have hbk : ((b.toNat : Int)).toNat.toUInt8 = b := by simp
   have hib : ∀ W,Calls Tryd.prog 58 #[.string ((⟨#[44,34,10,13]⟩ : ByteArray).extract 2 4),.int .u8 (b.toNat : Int)] W fun e w' => e = .returned (.int .i64 (-1)) ∧ w' = W := fun W => by
    have c := Tryd.strings_IndexByte ((⟨#[44,34,10,13]⟩ : ByteArray).extract 2 4) (b.toNat : Int) W
    rw [hbk,show ((⟨#[44,34,10,13]⟩ : ByteArray).extract 2 4).data.toList = ([44,34,10,13] : List UInt8).drop 2 from rfl,hix] at c
    exact c
   have HIB := Aside0.mk hib
   clear hix hbk hib
   go_enter Tryd.func50,Tryd.ntmps50
   go_wp2_with (go_at_call 59;(with_reducible refine (Tryd.utf8_ValidRune r _).mono ?_);rintro e w' ⟨rfl,hw⟩;rw [hw,HV.out])
   go_step3
   go_wp2
   go_loopg [9,10] 1 (fun g v9 v10 wx => v9 = .int .i64 1 ∧ v10 = .int .i64 0 ∧ g = 1 ∧ wx = w)
   case atStart => exact ⟨rfl,rfl,rfl,rfl⟩
   case round =>
    obtain ⟨rfl,rfl,rfl,rfl⟩ := hrel
    go_wp2
    go_step3
    go_wp2
    go_quiet (fail)
    try go_wp2
    go_quiet ((go_at_call 58;exact ia_quiet (HIB.out _)))
    try go_wp2
    rw [Exit.noGoto_ret]
    go_wp2
    rw [Exit.noGoto_ret]
    go_wp2
    go_ret
    exact ⟨rfl,pw_below_drewN (Below.refl _ _) _⟩
  ·have hx : (((⟨#[b0,b1,b]⟩ : ByteArray)[2]'(show 2 < 3 from Z355)).toNat : Int) = (b.toNat : Int) := rfl
   have hc0 : (((⟨#[44,34,10,13]⟩ : ByteArray)[2]'(show 2 < 4 from Z355)).toNat : Int) = 10 := rfl
   have hne : ((10 : Int) != (b.toNat : Int)) = true := bne_iff_ne.2 (by have := HB.out;omega)
   have hb255 : (b.toNat : Int) < 256 := by have := b.toNat_lt;omega
   have hix := strings_IndexAny.none_ 3 b HB.out
   have hbk : ((b.toNat : Int)).toNat.toUInt8 = b := by simp
   have hib : ∀ W,Calls Tryd.prog 58 #[.string ((⟨#[44,34,10,13]⟩ : ByteArray).extract 3 4),.int .u8 (b.toNat : Int)] W fun e w' => e = .returned (.int .i64 (-1)) ∧ w' = W := fun W => by
    have c := Tryd.strings_IndexByte ((⟨#[44,34,10,13]⟩ : ByteArray).extract 3 4) (b.toNat : Int) W
    rw [hbk,show ((⟨#[44,34,10,13]⟩ : ByteArray).extract 3 4).data.toList = ([44,34,10,13] : List UInt8).drop 3 from rfl,hix] at c
    exact c
   have HIB := Aside0.mk hib
   clear hix hbk hib
   go_enter Tryd.func50,Tryd.ntmps50
   go_wp2_with (go_at_call 59;(with_reducible refine (Tryd.utf8_ValidRune r _).mono ?_);rintro e w' ⟨rfl,hw⟩;rw [hw,HV.out])
   go_step3
   go_wp2
   go_loopg [9,10] 1 (fun g v9 v10 wx => v9 = .int .i64 2 ∧ v10 = .int .i64 0 ∧ g = 1 ∧ wx = w)
   case atStart => exact ⟨rfl,rfl,rfl,rfl⟩
   case round =>
    obtain ⟨rfl,rfl,rfl,rfl⟩ := hrel
    go_wp2
    go_step3
    go_wp2
    go_quiet (fail)
    try go_wp2
    go_quiet ((go_at_call 58;exact ia_quiet (HIB.out _)))
    try go_wp2
    rw [Exit.noGoto_ret]
    go_wp2
    rw [Exit.noGoto_ret]
    go_wp2
    go_ret
    exact ⟨rfl,pw_below_drewN (Below.refl _ _) _⟩
  have hx : (((⟨#[b0,b1,b2,b]⟩ : ByteArray)[3]'(show 3 < 4 from Z355)).toNat : Int) = (b.toNat : Int) := rfl
  have hc0 : (((⟨#[44,34,10,13]⟩ : ByteArray)[3]'(show 3 < 4 from Z355)).toNat : Int) = 13 := rfl
  have hne : ((13 : Int) != (b.toNat : Int)) = true := bne_iff_ne.2 (by have := HB.out;omega)
  have hb255 : (b.toNat : Int) < 256 := by have := b.toNat_lt;omega
  have hix := strings_IndexAny.none_ 4 b HB.out
  have hbk : ((b.toNat : Int)).toNat.toUInt8 = b := by simp
  have hib : ∀ W,Calls Tryd.prog 58 #[.string ((⟨#[44,34,10,13]⟩ : ByteArray).extract 4 4),.int .u8 (b.toNat : Int)] W fun e w' => e = .returned (.int .i64 (-1)) ∧ w' = W := fun W => by
   have c := Tryd.strings_IndexByte ((⟨#[44,34,10,13]⟩ : ByteArray).extract 4 4) (b.toNat : Int) W
   rw [hbk,show ((⟨#[44,34,10,13]⟩ : ByteArray).extract 4 4).data.toList = ([44,34,10,13] : List UInt8).drop 4 from rfl,hix] at c
   exact c
  have HIB := Aside0.mk hib
  clear hix hbk hib
  go_enter Tryd.func50,Tryd.ntmps50
  go_wp2_with (go_at_call 59;(with_reducible refine (Tryd.utf8_ValidRune r _).mono ?_);rintro e w' ⟨rfl,hw⟩;rw [hw,HV.out])
  go_step3
  go_wp2
  go_loopg [9,10] 1 (fun g v9 v10 wx => v9 = .int .i64 3 ∧ v10 = .int .i64 0 ∧ g = 1 ∧ wx = w)
  case atStart => exact ⟨rfl,rfl,rfl,rfl⟩
  case round =>
   obtain ⟨rfl,rfl,rfl,rfl⟩ := hrel
   go_wp2
   go_step3
   go_wp2
   go_quiet (fail)
   try go_wp2
   go_quiet ((go_at_call 58;exact ia_quiet (HIB.out _)))
   try go_wp2
   rw [Exit.noGoto_ret]
   go_wp2
   rw [Exit.noGoto_ret]
   go_wp2
   go_ret
   exact ⟨rfl,pw_below_drewN (Below.refl _ _) _⟩
theorem strings_IndexAny.get_list {s : ByteArray} {j : Nat} {b : UInt8} (h : s.data.toList[j]? = some b) : s.get! j = b := by
 have hlt : j < s.data.size := by
  have := (List.getElem?_eq_some_iff.mp h).1
  simpa using this
 rw [Array.getElem?_toList,Array.getElem?_eq_getElem hlt] at h
 show s.data[j]! = b
 rw [getElem!_pos s.data j hlt]
 exact Option.some.inj h
theorem strings_IndexAny.dec_hi (s : ByteArray) (i : Nat) (h : i < s.size) (hx : 128 ≤ (s.get! i).toNat) : 128 ≤ (Utf8.decode s i).1 ∧ (Utf8.decode s i).1 ≤ 1114111 ∧ 1 ≤ (Utf8.decode s i).2 ∧ i + (Utf8.decode s i).2 ≤ s.size ∧ ∀ j,j < (Utf8.decode s i).2 → 128 ≤ (s.get! (i + j)).toNat := by
 rw [Lib.decode_at]
 have b3 := (s.get! (i + 3)).toNat_lt
 have b2 := (s.get! (i + 2)).toNat_lt
 have b1 := (s.get! (i + 1)).toNat_lt
 have b0 := (s.get! i).toNat_lt
 have one : ∀ j,j < 1 → 128 ≤ (s.get! (i + j)).toNat := fun j hj => by obtain rfl : j = 0 := Z254;exact hx
 unfold Lib.decodeN
 rw [if_neg Z254]
 split
 ·rename_i g
  split
  ·refine ⟨Z251,Z251,Z251,Z251,fun j hj => ?_⟩
   have hj : j = 0 ∨ j = 1 := by dsimp only at hj;omega
   rcases hj with rfl | rfl
   ·exact hx
   omega
  exact ⟨Z251,Z251,Z251,Z251,one⟩
 split
 ·rename_i g
  split
  ·refine ⟨Z251,Z251,Z251,Z251,fun j hj => ?_⟩
   have hj : j = 0 ∨ j = 1 ∨ j = 2 := by dsimp only at hj;omega
   rcases hj with rfl | rfl | rfl
   ·exact hx
   ·omega
   omega
  exact ⟨Z251,Z251,Z251,Z251,one⟩
 split
 ·rename_i g
  split
  ·refine ⟨Z251,Z251,Z251,Z251,fun j hj => ?_⟩
   have hj : j = 0 ∨ j = 1 ∨ j = 2 ∨ j = 3 := by dsimp only at hj;omega
   rcases hj with rfl | rfl | rfl | rfl
   ·exact hx
   ·omega
   ·omega
   omega
  exact ⟨Z251,Z251,Z251,Z251,one⟩
 exact ⟨Z251,Z251,Z251,Z251,one⟩
theorem strings_IndexAny.hi_not {b : UInt8} (h : 128 ≤ b.toNat) : ([44,34,10,13] : List UInt8).contains b = false := by
 have n1 : b ≠ 44 := by rintro rfl;exact absurd h Z355
 have n2 : b ≠ 34 := by rintro rfl;exact absurd h Z355
 have n3 : b ≠ 10 := by rintro rfl;exact absurd h Z355
 have n4 : b ≠ 13 := by rintro rfl;exact absurd h Z355
 simp [n1,n2,n3,n4]
theorem strings_IndexAny.skip {s : ByteArray} {i d : Nat} (h : Lib.NoAny s.data.toList [44,34,10,13] i) (hd : ∀ j,j < d → 128 ≤ (s.get! (i + j)).toNat) : Lib.NoAny s.data.toList [44,34,10,13] (i + d) := fun j b hj hb => by
 by_cases g : j < i
 ·exact h j b g hb
 ·have := hd (j - i) Z254
  rw [show i + (j - i) = j by omega,strings_IndexAny.get_list hb] at this
  exact strings_IndexAny.hi_not this
set_option maxHeartbeats 8000000 in
set_option maxRecDepth 1000000 in
theorem strings_IndexAny.short (s : ByteArray) (w : World) (h8 : s.size ≤ 8) :
  Calls Tryd.prog 43 #[.string s,.string ⟨#[44,34,10,13]⟩] w fun e w' => e = .returned (.int .i64 (Lib.indexAny s.data.toList [44,34,10,13])) ∧ Below w.heap.size w w' := by
 have h8z : decide ((8 : Int) < (s.size : Int)) = false := decide_eq_false Z254
 go_enter Tryd.func43,Tryd.ntmps43
 go_wp2_with (go_at_call 51;(with_reducible refine (Tryd.strings_shouldUseASCIISet _ _).mono ?_);rintro e w' ⟨rfl,hw⟩;rw [hw,h8z])
 go_loopg [9,10] s.size (fun g _ _ wx => ∃ i : Nat,i + g = s.size ∧ Aside0 (wx.heap[w.heap.size]? = some (.stringIter s i)) ∧ Aside0 (Below w.heap.size w wx) ∧ Aside0 (Lib.NoAny s.data.toList [44,34,10,13] i))
 case atStart => exact ⟨0,Z254,⟨World.iter_heap w s 0⟩,⟨(Below.refl _ _).alloc (Nat.le_refl _) _⟩,⟨Lib.NoAny.zero _ _⟩⟩
 case round =>
  obtain ⟨i,hig,HK,HB,HN⟩ := hrel
  cases gk with
  | zero =>
   obtain rfl : i = s.size := by omega
   have hnx := fun ty => Lib.run_next_end_at (P := Tryd.prog) wr w.heap.size s s.size ty HK.out Z254
   go_wp2
   go_ret
   exact ⟨by rw [Lib.indexAny_none (by rw [data_length];exact HN.out)];rfl,HB.out⟩
  | succ g =>
   have hi : i < s.size := by omega
   obtain ⟨x,hx⟩ : ∃ x : UInt8,s.data.toList[i]? = some x := ⟨_,List.getElem?_eq_getElem (by rw [data_length];exact hi)⟩
   have hgx := strings_IndexAny.get_list hx
   have Hx := Aside0.mk hx
   by_cases h128 : x.toNat < 128
   rotate_left
   ·obtain ⟨c0,c1,c2,c3,c4⟩ := strings_IndexAny.dec_hi s i hi (by rw [hgx];omega)
    have hnx := fun ty => Lib.run_next_any_at (P := Tryd.prog) wr w.heap.size s i ty HK.out hi
    obtain ⟨c,hc⟩ : ∃ c,(Utf8.decode s i).1 = c := ⟨_,rfl⟩
    obtain ⟨d,hd⟩ : ∃ d,(Utf8.decode s i).2 = d := ⟨_,rfl⟩
    rw [hc,hd] at hnx
    rw [hc] at c0 c1
    rw [hd] at c2 c3 c4
    have HK2 := Aside0.mk (Lib.iterAt_heap wr w.heap.size s i (i + d) HK.out)
    have HB2 := Aside0.mk (Lib.below_iterAt HB.out (Nat.le_refl _) s (i + d))
    have C4 := Aside0.mk c4
    clear hc hd c4 hx hgx
    go_wp2_with (go_at_call 50;(with_reducible refine (strings_IndexAny.rune_hi (c : Int) _ Z254 Z254).mono ?_);rintro e w9 ⟨rfl,hb9⟩;have HB9 := Aside0.mk hb9;clear hb9)
    go_roundg (g + 1 - d)
    case measure => omega
    case rel => exact ⟨i + d,Z254,⟨(HB9.out.block w.heap.size (by have := (Array.getElem?_eq_some_iff.1 HK2.out).1;exact this)).trans HK2.out⟩,⟨below_then HB2.out HB2.out.size HB9.out⟩,⟨strings_IndexAny.skip HN.out C4.out⟩⟩
   have hsx : (s[i]'hi).toNat = x.toNat := by
    have := Lib.data_getElem? s i hi
    rw [hx] at this
    rw [Option.some.inj this]
   have hnx := fun ty => Lib.run_next_ascii_at (P := Tryd.prog) wr w.heap.size s i ty HK.out hi (by rw [hsx];exact h128)
   rw [hsx] at hnx
   have HK2 := Aside0.mk (Lib.iterAt_heap wr w.heap.size s i (i + 1) HK.out)
   have HB2 := Aside0.mk (Lib.below_iterAt HB.out (Nat.le_refl _) s (i + 1))
   clear hx hgx hsx
   have hcon := Lib.contains_iff_indexByte ([44,34,10,13] : List UInt8) x
   have hback : ((x.toNat : Int)).toNat.toUInt8 = x := by simp
   cases hin : ([44,34,10,13] : List UInt8).contains x
   ·rw [hin] at hcon
    have hlt : ¬ ((0 : Int) ≤ Lib.indexByte ([44,34,10,13] : List UInt8) x) := of_decide_eq_false hcon.symm
    clear hcon
    go_wp2_with (go_at_call 50;(with_reducible refine (Tryd.strings_IndexRune_ascii _ _ _ Z254 Z254).mono ?_);rintro e w' ⟨rfl,hw⟩;rw [hw,hback])
    go_roundg g
    case measure => omega
    case rel => exact ⟨i + 1,Z254,HK2,HB2,⟨HN.out.succ Hx.out hin⟩⟩
   rw [hin] at hcon
   have hge : (0 : Int) ≤ Lib.indexByte ([44,34,10,13] : List UInt8) x := of_decide_eq_true hcon.symm
   clear hcon
   go_wp2_with (go_at_call 50;(with_reducible refine (Tryd.strings_IndexRune_ascii _ _ _ Z254 Z254).mono ?_);rintro e w' ⟨rfl,hw⟩;rw [hw,hback])
   go_ret
   exact ⟨by rw [Lib.indexAny_hit HN.out Hx.out hin];rfl,HB2.out⟩
def strings_IndexAny.f (a0 a1 : ByteArray) : Option Int := if a0.size < 4294967281 ∧ a1 = (⟨#[44,34,10,13]⟩ : ByteArray) then some (Lib.indexAny a0.data.toList [44,34,10,13]) else none
theorem strings_IndexAny.calls (a0 a1 : ByteArray) (r : Int) (w : World) (h : strings_IndexAny.f a0 a1 = some r) :
  Calls Tryd.prog 43 #[.string a0,.string a1] w fun e w' => e = .returned (.int .i64 r) ∧ Below w.heap.size w w' := by
 unfold strings_IndexAny.f at h
 by_cases hb : a0.size < 4294967281 ∧ a1 = (⟨#[44,34,10,13]⟩ : ByteArray)
 rotate_left
 ·rw [if_neg hb] at h;cases h
 rw [if_pos hb] at h
 obtain rfl := Option.some.inj h
 obtain ⟨hb,rfl⟩ := hb
 by_cases h8 : a0.size ≤ 8
 ·exact strings_IndexAny.short a0 w h8
 refine (Tryd.strings_IndexAny_long (by intro W;exact (zero_of_info (P := Tryd.prog) (n := 256) Z253).1 W) a0 ⟨#[44,34,10,13]⟩ w Z355 Z254 hb Z355 (fun _ b hb' => of_decide_eq_true (List.all_eq_true.1 (show ([44,34,10,13] : List UInt8).all (fun b => decide (b.toNat < 128)) = true by decide) b (List.mem_of_getElem? hb')))).mono fun e w' ⟨h1,h2⟩ => ⟨h1,?_⟩
 rw [h2]
 exact ((Below.refl _ _).alloc (Nat.le_refl _) _).alloc Z342 _

end Go.Proofs.YtepnbcdbagjmbaaDoor.QFnExactReadTable
