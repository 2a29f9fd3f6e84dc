/- Functions of the given program and of its reference: what each returns, as an equation over data; by the interpreter. -/
import Derived.Test.YthpcgbnochcbcaaS
import Derived.Test.YthpcgbnochcbcaaProg
import Derived.KernelRfl
set_option linter.unusedVariables false
set_option linter.unusedSimpArgs false
set_option linter.unusedSectionVars false
set_option linter.deprecated false
namespace Go.Proofs.Ythpcgbnochcbcaa.V
noncomputable section


end
end Go.Proofs.Ythpcgbnochcbcaa.V

namespace Go.Proofs.Ythpcgbnochcbcaa.V
set_option maxRecDepth 100000

end Go.Proofs.Ythpcgbnochcbcaa.V

namespace Go.Proofs.Ythpcgbnochcbcaa.V

theorem xor_half (x y : Nat) : (x ^^^ y) / 2 = x / 2 ^^^ y / 2 := by
  apply Nat.eq_of_testBit_eq; intro i
  simp only [Nat.testBit_xor, ← Nat.testBit_succ]
theorem xor_odd (x y : Nat) : (x ^^^ y) % 2 = (x % 2 + y % 2) % 2 := by
  have h := Nat.testBit_xor (x := x) (y := y) (i := 0)
  simp only [Nat.testBit_zero] at h
  rcases Nat.mod_two_eq_zero_or_one x with hx | hx <;> rcases Nat.mod_two_eq_zero_or_one y with hy | hy <;> rcases Nat.mod_two_eq_zero_or_one (x ^^^ y) with hz | hz <;> simp [hx, hy, hz] at h ⊢
theorem xor_swap (a b p : Nat) : (a ^^^ p) ^^^ b = (a ^^^ b) ^^^ p := by
  rw [Nat.xor_assoc, Nat.xor_comm p b, ← Nat.xor_assoc]
theorem xor_both (a b p : Nat) : (a ^^^ p) ^^^ (b ^^^ p) = a ^^^ b := by
  rw [← Nat.xor_assoc, xor_swap a b p, Nat.xor_assoc, Nat.xor_self, Nat.xor_zero]
theorem crcStep_xor (x y : Nat) : crcStep (x ^^^ y) = crcStep x ^^^ crcStep y := by
  unfold crcStep
  rw [xor_half, xor_odd]
  rcases Nat.mod_two_eq_zero_or_one x with hx | hx <;> rcases Nat.mod_two_eq_zero_or_one y with hy | hy <;> simp only [hx, hy]
  · rfl
  · show _ ^^^ 2197175160 = _ ^^^ (_ ^^^ 2197175160); rw [Nat.xor_assoc]; rfl
  · show _ ^^^ 2197175160 = (_ ^^^ 2197175160) ^^^ _; exact (xor_swap _ _ _).symm
  · show _ = (_ ^^^ 2197175160) ^^^ (_ ^^^ 2197175160); exact (xor_both _ _ _).symm
theorem crcIter_xor : ∀ (n x y : Nat), crcIter n (x ^^^ y) = crcIter n x ^^^ crcIter n y
  | 0, _, _ => rfl
  | n + 1, x, y => by simp only [crcIter]; rw [crcStep_xor, crcIter_xor n]
theorem crcIter_add : ∀ (m n x : Nat), crcIter (m + n) x = crcIter n (crcIter m x)
  | 0, n, x => by rw [Nat.zero_add]; rfl
  | m + 1, n, x => by rw [Nat.succ_add]; exact crcIter_add m n (crcStep x)
theorem crcStep_two (x : Nat) : crcStep (2 * x) = x := by
  unfold crcStep; rw [if_neg (by omega)]; omega
theorem crcIter_pow : ∀ (n x : Nat), crcIter n (2 ^ n * x) = x
  | 0, x => by rw [Nat.pow_zero, Nat.one_mul]; rfl
  | n + 1, x => by
    simp only [crcIter]
    rw [Nat.pow_succ, Nat.mul_comm (2 ^ n) 2, Nat.mul_assoc, crcStep_two]; exact crcIter_pow n x
theorem crcIter_zero : ∀ n, crcIter n 0 = 0
  | 0 => rfl
  | n + 1 => crcIter_zero n
theorem crcStep_ne (x : Nat) (h : x < 4294967296) (h0 : x ≠ 0) : crcStep x ≠ 0 := by
  unfold crcStep
  split
  · intro he
    have : x / 2 = 2197175160 := by
      have e : (x / 2 ^^^ 2197175160) ^^^ 2197175160 = 0 ^^^ 2197175160 := by rw [he]
      rw [Nat.xor_assoc, Nat.xor_self, Nat.xor_zero, Nat.zero_xor] at e
      exact e
    omega
  · omega
theorem crcIter_ne : ∀ (n x : Nat), x < 4294967296 → x ≠ 0 → crcIter n x ≠ 0
  | 0, _, _, h0 => h0
  | n + 1, x, h, h0 => crcIter_ne n _ (crcStep_lt x h) (crcStep_ne x h h0)
theorem crcFold_xor : ∀ (t : List UInt8) (x d : Nat), crcFold (x ^^^ d) t = crcFold x t ^^^ crcIter (8 * t.length) d
  | [], _, _ => rfl
  | c :: t, x, d => by
    show crcFold (crcByte (x ^^^ d) c.toNat) t = crcFold (crcByte x c.toNat) t ^^^ _
    have e : crcByte (x ^^^ d) c.toNat = crcByte x c.toNat ^^^ crcIter 8 d := by
      unfold crcByte
      rw [xor_swap, crcIter_xor]
    rw [e, crcFold_xor t, List.length_cons, Nat.mul_add, Nat.mul_one, Nat.add_comm, crcIter_add]
theorem crcFold_set : ∀ (t : List UInt8) (i : Nat) (c : UInt8) (x v : Nat), i < t.length → c.toNat = (t.getD i 0).toNat ^^^ v → crcFold x (t.set i c) = crcFold x t ^^^ crcIter (8 * (t.length - i)) v
  | [], i, _, _, _, h, _ => by simp at h
  | b :: t, 0, c, x, v, _, h => by
    have h' : c.toNat = b.toNat ^^^ v := h
    show crcFold (crcByte x c.toNat) t = crcFold (crcByte x b.toNat) t ^^^ _
    have e : crcByte x c.toNat = crcByte x b.toNat ^^^ crcIter 8 v := by
      unfold crcByte
      rw [h', ← Nat.xor_assoc, crcIter_xor]
    rw [e, crcFold_xor, Nat.sub_zero, List.length_cons, Nat.mul_add, Nat.mul_one, Nat.add_comm, crcIter_add]
  | b :: t, i + 1, c, x, v, hi, h => by
    have e := crcFold_set t i c (crcByte x b.toNat) v (by simp at hi; omega) h
    show crcFold (crcByte x b.toNat) (t.set i c) = crcFold (crcByte x b.toNat) t ^^^ _
    rw [e, List.length_cons, Nat.add_sub_add_right]
/-- the bits that are turned, as one word -/
def turnWord (a m : Int) (len : Nat) : Nat → Nat
  | 0 => 0
  | i + 1 => turnWord a m len i ^^^ (if iand .i64 (ishr .i64 m i) 1 = 1 ∧ 0 ≤ a ∧ a + i < 8 * len then 2 ^ i else 0)
theorem turnWord_lt (a m : Int) (len : Nat) : ∀ i, turnWord a m len i < 2 ^ i
  | 0 => by show (0 : Nat) < 2 ^ 0; decide
  | i + 1 => by
    have h := turnWord_lt a m len i
    have h2 : 2 ^ i < 2 ^ (i + 1) := Nat.pow_lt_pow_right (by omega) (by omega)
    unfold turnWord
    apply Nat.xor_lt_two_pow (by omega)
    split <;> omega
theorem turnWord_odd (a m : Int) (len : Nat) (h : iand .i64 (ishr .i64 m 0) 1 = 1 ∧ 0 ≤ a ∧ a < 8 * len) : ∀ i, turnWord a m len (i + 1) % 2 = 1
  | 0 => by
    have h' : iand .i64 (ishr .i64 m ((0 : Nat) : Int)) 1 = 1 ∧ 0 ≤ a ∧ a + ((0 : Nat) : Int) < 8 * len := ⟨h.1, h.2.1, by omega⟩
    simp only [turnWord, if_pos h']
    decide
  | i + 1 => by
    have ih := turnWord_odd a m len h i
    rw [turnWord, xor_odd, ih]
    split
    · rw [Nat.pow_succ]; omega
    · rfl
theorem shl8_fin : ∀ r : Fin 8, ishl .u8 1 (r.val : Int) = ((2 ^ r.val : Nat) : Int) := by decide
theorem turn_byte (x r : Nat) (hx : x < 256) (hr : r < 8) : (UInt8.ofNat (ixor .u8 (x : Int) (ishl .u8 1 (r : Int))).toNat).toNat = x ^^^ 2 ^ r := by
  have e := shl8_fin ⟨r, hr⟩
  simp only [] at e
  have hp : 2 ^ r < 256 := by
    have : 2 ^ r < 2 ^ 8 := Nat.pow_lt_pow_right (by omega) hr
    omega
  have hl : x ^^^ 2 ^ r < 256 := Nat.xor_lt_two_pow (n := 8) hx hp
  rw [e, ixor8_nat x (2 ^ r) hx hp, Int.toNat_natCast]
  show (x ^^^ 2 ^ r) % 256 = _
  exact Nat.mod_eq_of_lt hl
theorem crc_turnStep (u : List UInt8) (a m : Int) (i x : Nat) (hi : i < 32) : crcFold x (turnStep a m u i) = crcFold x u ^^^ crcIter (8 * u.length - a.toNat) (if iand .i64 (ishr .i64 m i) 1 = 1 ∧ 0 ≤ a ∧ a + i < 8 * u.length then 2 ^ i else 0) := by
  unfold turnStep
  split
  · rename_i h
    obtain ⟨_, h2, h3⟩ := h
    obtain ⟨k, rfl⟩ := Int.eq_ofNat_of_zero_le h2
    have ek : (((k : Int) + i) / 8).toNat = (k + i) / 8 := by omega
    have er : ((k : Int) + i) % 8 = (((k + i) % 8 : Nat) : Int) := by omega
    rw [ek, er]
    have hb := byte_lt u ((k + i) / 8)
    rw [crcFold_set u ((k + i) / 8) _ x (2 ^ ((k + i) % 8)) (by omega) (turn_byte _ _ hb (by omega))]
    congr 1
    have e1 : 8 * (u.length - (k + i) / 8) = (k + i) % 8 + (8 * u.length - (k + i)) := by omega
    have e2 : 8 * u.length - (k : Int).toNat = i + (8 * u.length - (k + i)) := by omega
    rw [e1, e2, crcIter_add, crcIter_add]
    have p1 := crcIter_pow ((k + i) % 8) 1
    have p2 := crcIter_pow i 1
    rw [Nat.mul_one] at p1 p2
    rw [p1, p2]
  · rw [crcIter_zero, Nat.xor_zero]
theorem crc_turnTo (t : List UInt8) (a m : Int) (x : Nat) : ∀ i, i ≤ 32 → crcFold x (turnTo t a m i) = crcFold x t ^^^ crcIter (8 * t.length - a.toNat) (turnWord a m t.length i)
  | 0, _ => by
    show crcFold x t = _
    unfold turnWord; rw [crcIter_zero, Nat.xor_zero]
  | i + 1, h => by
    rw [turnTo_succ, crc_turnStep _ a m i x (by omega), turnTo_length, crc_turnTo t a m x i (by omega), turnWord, crcIter_xor, Nat.xor_assoc]
/-- a burst is never unseen -/
theorem crc_turn_ne (t : List UInt8) (a m : Int) (x : Nat) (h : iand .i64 (ishr .i64 m 0) 1 = 1 ∧ 0 ≤ a ∧ a < 8 * t.length) : crcFold x (turnOf t a m) ≠ crcFold x t := by
  have e : crcFold x (turnOf t a m) = _ := crc_turnTo t a m x 32 (by omega)
  rw [e]
  intro he
  have hw := turnWord_odd a m t.length h 31
  have hl := turnWord_lt a m t.length 32
  have hz : crcIter (8 * t.length - a.toNat) (turnWord a m t.length 32) = 0 := by
    have e2 := congrArg (crcFold x t ^^^ ·) he
    simp only [← Nat.xor_assoc, Nat.xor_self, Nat.zero_xor] at e2
    exact e2
  exact crcIter_ne _ _ (by omega) (by intro h0; rw [h0] at hw; cases hw) hz
theorem split_xor (w : Nat) : w = (w % 256) ^^^ (2 ^ 8 * (w / 256)) := by
  apply Nat.eq_of_testBit_eq; intro i
  rw [Nat.testBit_xor]
  have h1 : (w % 256).testBit i = (decide (i < 8) && w.testBit i) := Nat.testBit_mod_two_pow w 8 i
  have h2 : (2 ^ 8 * (w / 256)).testBit i = (decide (i ≥ 8) && (w / 256).testBit (i - 8)) := Nat.testBit_two_pow_mul
  have h3 : (w / 256).testBit (i - 8) = w.testBit (i - 8 + 8) := Nat.testBit_div_two_pow (n := 8) w (i - 8)
  rw [h1, h2, h3]
  by_cases hi : i < 8
  · have h8 : ¬ 8 ≤ i := by omega
    simp [hi, h8]
  · have : i - 8 + 8 = i := by omega
    rw [this]
    have h8 : 8 ≤ i := by omega
    simp [hi, h8]
theorem crc_le : ∀ (k s w : Nat), w < 256 ^ k → crcFold s (leBytes k w) = crcIter (8 * k) (s ^^^ w)
  | 0, s, w, h => by
    have : w = 0 := by rw [Nat.pow_zero] at h; omega
    subst this; rw [Nat.xor_zero]; rfl
  | k + 1, s, w, h => by
    have hw : w / 256 < 256 ^ k := by rw [Nat.pow_succ] at h; omega
    have hb : (UInt8.ofNat (w % 256)).toNat = w % 256 := by
      show w % 256 % 256 = _
      omega
    show crcFold (crcByte s (UInt8.ofNat (w % 256)).toNat) (leBytes k (w / 256)) = _
    rw [hb, crc_le k _ _ hw, Nat.mul_add, Nat.mul_one, Nat.add_comm, crcIter_add]
    congr 1
    have e : s ^^^ w = (s ^^^ w % 256) ^^^ (2 ^ 8 * (w / 256)) := by
      rw [Nat.xor_assoc, ← split_xor w]
    rw [e, crcIter_xor, crcIter_pow]
    rfl
theorem crcFold_app (x : Nat) (s t : List UInt8) : crcFold x (s ++ t) = crcFold (crcFold x s) t := by
  unfold crcFold; rw [List.foldl_append]
/-- a text with its sum behind it is told by one number -/
theorem crc_code (p : List UInt8) : crcFold 4294967295 (p ++ fixOf (crcMore 0 p : Nat) 4) = crcIter 32 4294967295 := by
  have h0 : (0 : Nat) ^^^ 4294967295 = 4294967295 := Nat.zero_xor _
  have hs : crcFold 4294967295 p < 4294967296 := crcFold_lt p _ (by omega)
  have hm := crcMore_lt 0 p (by omega)
  have e : fixOf (crcMore 0 p : Nat) 4 = leBytes 4 (crcMore 0 p) := by
    rw [show (4 : Int) = ((4 : Nat) : Int) from rfl, fix_good _ 4 (by omega) (by omega), if_pos (by omega)]
  rw [e, crcFold_app, crc_le 4 _ _ (by omega)]
  unfold crcMore
  rw [h0, ← Nat.xor_assoc, Nat.xor_self, Nat.zero_xor]

end Go.Proofs.Ythpcgbnochcbcaa.V

namespace Go.Proofs.Ythpcgbnochcbcaa.V
noncomputable section


end
end Go.Proofs.Ythpcgbnochcbcaa.V

namespace Go.Proofs.Ythpcgbnochcbcaa.V
set_option maxRecDepth 100000

end Go.Proofs.Ythpcgbnochcbcaa.V

namespace Go.Proofs.Ythpcgbnochcbcaa.V

theorem leVal_le : ∀ (k n : Nat), n < 256 ^ k → leVal (leBytes k n) = n
  | 0, n, h => by
    have : n = 0 := by rw [Nat.pow_zero] at h; omega
    subst this; rfl
  | k + 1, n, h => by
    have hb : (UInt8.ofNat (n % 256)).toNat = n % 256 := by
      show n % 256 % 256 = _
      omega
    simp only [leBytes, leVal, hb]
    rw [leVal_le k (n / 256) (by rw [Nat.pow_succ] at h; omega)]
    omega
theorem fix4 (n : Nat) (h : n < 4294967296) : fixOf (n : Int) 4 = leBytes 4 n := by
  rw [show (4 : Int) = ((4 : Nat) : Int) from rfl, fix_good n 4 (by omega) (by omega), if_pos (by omega)]
theorem fix4_len (n : Nat) (h : n < 4294967296) : (fixOf (n : Int) 4).length = 4 := by rw [fix4 n h, leBytes_length]
theorem sized_len (p : Int) (n : Nat) (h : n < 4294967296) : (sizedOf p n).length = 8 := by
  unfold sizedOf
  have hc := crcMore_lt 0 (fixOf p 8 ++ fixOf n 4) (by omega)
  rw [List.length_append, fix4_len n h, fix4_len _ hc]
theorem sized_inj (p : Int) (n m : Nat) (hn : n < 4294967296) (hm : m < 4294967296) (h : sizedOf p n = sizedOf p m) : n = m := by
  unfold sizedOf at h
  have h1 := congrArg (List.take 4) h
  rw [List.take_left' (fix4_len n hn), List.take_left' (fix4_len m hm), fix4 n hn, fix4 m hm] at h1
  have h2 := congrArg leVal h1
  rw [leVal_le 4 n (by omega), leVal_le 4 m (by omega)] at h2
  exact h2
theorem sized_code (p : Int) (n : Nat) : crcFold (crcFold 4294967295 (fixOf p 8)) (sizedOf p n) = crcIter 32 4294967295 := by
  rw [← crcFold_app]
  unfold sizedOf
  rw [← List.append_assoc]
  exact crc_code (fixOf p 8 ++ fixOf n 4)
theorem turnStep_take (l : List UInt8) (a m : Int) (i k : Nat) : (turnStep a m l i).take k = turnStep a m (l.take k) i := by
  unfold turnStep
  by_cases h : iand .i64 (ishr .i64 m i) 1 = 1 ∧ 0 ≤ a ∧ a + i < 8 * l.length
  · rw [if_pos h, List.take_set]
    by_cases h2 : a + i < 8 * ((l.take k).length : Int)
    · rw [if_pos ⟨h.1, h.2.1, h2⟩]
      have hk : ((a + i) / 8).toNat < k := by rw [List.length_take] at h2; omega
      have e : (l.take k).getD ((a + i) / 8).toNat 0 = l.getD ((a + i) / 8).toNat 0 := by
        rw [List.getD_eq_getElem?_getD, List.getD_eq_getElem?_getD, List.getElem?_take, if_pos hk]
      rw [e]
    · rw [if_neg (fun hh => h2 hh.2.2), List.set_eq_of_length_le (by rw [List.length_take] at h2 ⊢; omega)]
  · rw [if_neg h, if_neg (fun hh => h ⟨hh.1, hh.2.1, by have := hh.2.2; rw [List.length_take] at this; omega⟩)]
theorem turn_take (t : List UInt8) (a m : Int) (k : Nat) : (turnOf t a m).take k = turnOf (t.take k) a m := by
  have : ∀ i, (turnTo t a m i).take k = turnTo (t.take k) a m i := by
    intro i
    induction i with
    | zero => rfl
    | succ i ih => rw [turnTo_succ, turnTo_succ, turnStep_take, ih]
  exact this 32
theorem turnStep_app (s u : List UInt8) (a m : Int) (i : Nat) (h : 8 * (s.length : Int) ≤ a) : turnStep a m (s ++ u) i = s ++ turnStep (a - 8 * s.length) m u i := by
  unfold turnStep
  by_cases hc : iand .i64 (ishr .i64 m i) 1 = 1 ∧ 0 ≤ a ∧ a + i < 8 * ((s ++ u).length : Int)
  · have hc2 : iand .i64 (ishr .i64 m i) 1 = 1 ∧ 0 ≤ a - 8 * s.length ∧ a - 8 * s.length + i < 8 * (u.length : Int) := ⟨hc.1, by omega, by have := hc.2.2; rw [List.length_append] at this; omega⟩
    rw [if_pos hc, if_pos hc2]
    have e1 : ((a + i) / 8).toNat = s.length + ((a - 8 * s.length + i) / 8).toNat := by omega
    have e2 : (a + i) % 8 = (a - 8 * s.length + i) % 8 := by omega
    rw [e1, e2, List.set_append_right _ _ (by omega), Nat.add_sub_cancel_left]
    have e3 : (s ++ u).getD (s.length + ((a - 8 * s.length + i) / 8).toNat) 0 = u.getD ((a - 8 * s.length + i) / 8).toNat 0 := by
      rw [List.getD_eq_getElem?_getD, List.getD_eq_getElem?_getD, List.getElem?_append_right (by omega), Nat.add_sub_cancel_left]
    rw [e3]
  · rw [if_neg hc, if_neg (fun hh => hc ⟨hh.1, by omega, by have := hh.2.2; rw [List.length_append]; omega⟩)]
theorem turn_app (s u : List UInt8) (a m : Int) (h : 8 * (s.length : Int) ≤ a) : turnOf (s ++ u) a m = s ++ turnOf u (a - 8 * s.length) m := by
  have : ∀ i, turnTo (s ++ u) a m i = s ++ turnTo u (a - 8 * s.length) m i := by
    intro i
    induction i with
    | zero => rfl
    | succ i ih => rw [turnTo_succ, turnTo_succ, ih, turnStep_app _ _ _ _ _ h]
  exact this 32
theorem turnOf_len (b : List UInt8) (a m : Int) : (turnOf b a m).length = b.length := turnTo_length b a m 32
theorem odd_bit (m : Int) (hm : m % 2 = 1) : iand .i64 (ishr .i64 m 0) 1 = 1 := by
  have h0 : ishr .i64 m 0 = m := by
    show m.fdiv (2 ^ (min (Int.toNat 0) 64)) = m
    simp
  rw [h0, iand_one]; exact hm
theorem frame2 (p : Int) (r : List UInt8) (hp : inB p 0 1000000000 = true) (hl : r.length ≤ 60) : frameText 2 p r = sizedOf p r.length ++ (r ++ fixOf (crcMore 0 r : Nat) 4) := by
  unfold frameText
  rw [hp, decide_eq_true hl, show inB 2 1 2 = true from rfl]
  simp
theorem frame2_len (p : Int) (r : List UInt8) (hl : r.length ≤ 60) : (sizedOf p r.length ++ (r ++ fixOf (crcMore 0 r : Nat) 4)).length = 12 + r.length := by
  have hc := crcMore_lt 0 r (by omega)
  rw [List.length_append, List.length_append, sized_len p r.length (by omega), fix4_len _ hc]
  omega
theorem rf2_at (p : Int) (b : List UInt8) (h : rfOk 2 p b 0 = true) : ∃ r : List UInt8, r.length ≤ 60 ∧ b.take (12 + r.length) = sizedOf p r.length ++ (r ++ fixOf (crcMore 0 r : Nat) 4) := by
  unfold rfOk at h
  simp only [Bool.and_eq_true, decide_eq_true_eq] at h
  obtain ⟨⟨⟨⟨hv, hp⟩, hh⟩, hn1, hn2⟩, ha⟩ := h
  have hl : (rfText 2 b 0).length ≤ 60 := by unfold rfText; simp; omega
  refine ⟨rfText 2 b 0, hl, ?_⟩
  obtain ⟨_, _, h3⟩ := (hasAt_iff _ _ _).1 ha
  rw [frame2 p _ hp hl, frame2_len p _ hl] at h3
  exact h3
theorem rf2_head (p : Int) (b : List UInt8) (h : rfOk 2 p b 0 = true) : ∃ n : Nat, n ≤ 60 ∧ b.take 8 = sizedOf p n := by
  obtain ⟨r, hl, h2⟩ := rf2_at p b h
  refine ⟨r.length, hl, ?_⟩
  have h3 := congrArg (List.take 8) h2
  rw [List.take_take, List.take_left' (sized_len p r.length (by omega)), show min 8 (12 + r.length) = 8 by omega] at h3
  exact h3
theorem head_bent (p : Int) (n n' : Nat) (hn : n < 4294967296) (rest : List UInt8) (a m : Int) (ha : 0 ≤ a) (ha2 : a < 64) (hm : m % 2 = 1) : (turnOf (sizedOf p n ++ rest) a m).take 8 ≠ sizedOf p n' := by
  intro h
  rw [turn_take, List.take_left' (sized_len p n hn)] at h
  have c := crc_turn_ne (sizedOf p n) a m (crcFold 4294967295 (fixOf p 8)) ⟨odd_bit m hm, ha, by rw [sized_len p n hn]; omega⟩
  rw [h, sized_code, sized_code] at c
  exact c rfl
theorem frame_bent (p : Int) (r tail : List UInt8) (hr : r.length ≤ 60) (a m : Int) (ha : 0 ≤ a) (ha2 : a < 8 * (12 + r.length)) (hm : m % 2 = 1) : rfOk 2 p (turnOf (sizedOf p r.length ++ (r ++ fixOf (crcMore 0 r : Nat) 4)) a m ++ tail) 0 = false := by
  cases hh : rfOk 2 p (turnOf (sizedOf p r.length ++ (r ++ fixOf (crcMore 0 r : Nat) 4)) a m ++ tail) 0 with
  | false => rfl
  | true =>
    have hs := sized_len p r.length (by omega)
    have hlen := frame2_len p r hr
    by_cases h64 : a < 64
    · obtain ⟨n, hn, h2⟩ := rf2_head _ _ hh
      rw [List.take_append_of_le_length (by rw [turnOf_len, hlen]; omega)] at h2
      exact absurd h2 (head_bent p r.length n (by omega) _ a m ha h64 hm)
    · obtain ⟨q, hq, h2⟩ := rf2_at _ _ hh
      rw [turn_app _ _ a m (by rw [hs]; omega), hs] at h2
      have h3 := congrArg (List.take 8) h2
      rw [List.take_take, show min 8 (12 + q.length) = 8 by omega, List.append_assoc, List.take_left' hs, List.take_left' (sized_len p q.length (by omega))] at h3
      have hl := sized_inj p r.length q.length (by omega) (by omega) h3
      rw [← hl] at h2
      have hc := crcMore_lt 0 r (by omega)
      have hw : (sizedOf p r.length ++ turnOf (r ++ fixOf (crcMore 0 r : Nat) 4) (a - 8 * (8 : Nat)) m).length = 12 + r.length := by
        rw [List.length_append, hs, turnOf_len, List.length_append, fix4_len _ hc]; omega
      rw [List.take_left' hw] at h2
      have h4 := List.append_cancel_left h2
      have c := crc_turn_ne (r ++ fixOf (crcMore 0 r : Nat) 4) (a - 8 * (8 : Nat)) m 4294967295 ⟨odd_bit m hm, by omega, by rw [List.length_append, fix4_len _ hc]; omega⟩
      rw [h4, crc_code, crc_code] at c
      exact absurd rfl c
theorem end2 (p : Int) (hp : inB p 0 1000000000 = true) : endMark 2 p = sizedOf p (4294967295 : Nat) := by
  unfold endMark
  rw [hp, show inB 2 1 2 = true from rfl]
  rfl
theorem mark_none (p : Int) (b : List UInt8) (h : ∀ n : Nat, n ≤ 60 → b.take 8 ≠ sizedOf p n) : rfOk 2 p b 0 = false := by
  cases hh : rfOk 2 p b 0 with
  | false => rfl
  | true =>
    obtain ⟨n, hn, h2⟩ := rf2_head _ _ hh
    exact absurd h2 (h n hn)
theorem mark_is (p : Int) (hp : inB p 0 1000000000 = true) (b : List UInt8) (h : markAt 2 p b 0 = true) : b.take 8 = sizedOf p (4294967295 : Nat) := by
  unfold markAt at h
  rw [Bool.and_eq_true, hasAt_iff, end2 p hp] at h
  have h3 := h.2.2.2
  rw [sized_len p 4294967295 (by omega)] at h3
  exact h3
theorem mark_own (p : Int) (hp : inB p 0 1000000000 = true) : markAt 2 p (sizedOf p (4294967295 : Nat)) 0 = true := by
  have hs := sized_len p 4294967295 (by omega)
  unfold markAt
  rw [Bool.and_eq_true, hasAt_iff, end2 p hp, decide_eq_true_eq]
  refine ⟨fun h => by rw [h] at hs; simp at hs, by omega, by omega, ?_⟩
  exact List.take_of_length_le (Nat.le_refl _)

end Go.Proofs.Ythpcgbnochcbcaa.V

namespace Go.Proofs.Ythpcgbnochcbcaa.V
noncomputable section

/-- places: pairs of a count and where -/
abbrev Pl := Int × Int
def ePl (p : Pl) : List C := [.int .i64 p.1, .int .i64 p.2]
def plOf (r : List C) : Pl := ((r.getD 0 (.fn 0 [])).toInt, (r.getD 1 (.fn 0 [])).toInt)
def pls (rows : List (List C)) : List Pl := rows.map plOf
def placesTo (s : Int) (os : List Int) : Nat → List Pl
  | 0 => []
  | i + 1 => placesTo s os i ++ (if (i : Int) % s = 0 then [((i : Int), os.getD i 0)] else [])
def places (s : Int) (os : List Int) : List Pl := if s < 1 then [] else placesTo s os os.length
/-- how much a is above b; -1 if it is not -/
def less (a b : Int) : Int := if a < b ∨ IntKind.i64.wrap (a - b) < 0 then -1 else IntKind.i64.wrap (a - b)
def ptGo : Pl → List Pl → Option (List UInt8)
  | _, [] => some []
  | q, p :: r => if varText (less p.1 q.1) = [] ∨ varText (less p.2 q.2) = [] then none else (ptGo p r).map ((varText (less p.1 q.1) ++ varText (less p.2 q.2)) ++ ·)
def placesText (l : List Pl) : List UInt8 := match ptGo (0, 0) l with
  | some t => varText l.length ++ t
  | none => []
def trGo : List Int → List UInt8 → List UInt8
  | [], t => t ++ [73, 68, 88, 33]
  | x :: r, t => if fixOf x 4 = [] then [] else trGo r (t ++ fixOf x 4)
def trailer (a b c d : Int) : List UInt8 := trGo [a, b, c, d] []
def footText (v s b l : Int) (os : List Int) (e : Int) : List UInt8 :=
  if headOk v s b l = false ∨ endMark v (b + os.length) = [] ∨ placesText (places s os) = [] ∨ trailer e os.length s 0 = [] then []
  else endMark v (b + os.length) ++ placesText (places s os) ++ trailer e os.length s (crcMore 0 (endMark v (b + os.length) ++ placesText (places s os) ++ (trailer e os.length s 0).take 12) : Nat)
def sealGo (v b : Int) : Int → List (List UInt8) → List UInt8 → List Int → Option (List UInt8 × List Int)
  | _, [], t, os => some (t, os)
  | i, r :: rs, t, os => if 60 < r.length then none else sealGo v b (i + 1) rs (t ++ frameText v (b + i) r) (os ++ [(t.length : Int)])
def sealText (v s b l : Int) (rs : List (List UInt8)) : List UInt8 :=
  if headOk v s b l = false ∨ 1000 < rs.length ∨ 1000000000 < b + rs.length then []
  else match sealGo v b 0 rs (headText v s b l) [] with
    | some (t, os) => t ++ footText v s b l os t.length
    | none => []
def placesOfSpec : Spec := fun cs => match cs with
  | [.int .i64 s, .sl os] => some (rowsOk [.int .i64] os && decide (os.length ≤ 1048576), [.sl ((places s (ints os)).map ePl)])
  | _ => none
def lessSpec : Spec := fun cs => match cs with
  | [.int .i64 a, .int .i64 b] => some (true, [.int .i64 (less a b)])
  | _ => none
def placesTextSpec : Spec := fun cs => match cs with
  | [.sl r] => some (rowsOk [.int .i64, .int .i64] r && decide (r.length ≤ 1048576), [.str (placesText (pls r))])
  | _ => none
def trailerSpec : Spec := fun cs => match cs with
  | [.int .i64 a, .int .i64 b, .int .i64 c, .int .i64 d] => some (inB a (-9223372036854775808) 9223372036854775807 && (inB b (-9223372036854775808) 9223372036854775807 && (inB c (-9223372036854775808) 9223372036854775807 && inB d (-9223372036854775808) 9223372036854775807)), [.str (trailer a b c d)])
  | _ => none
def footSpec : Spec := fun cs => match cs with
  | [.int .i64 v, .int .i64 s, .int .i64 b, .int .i64 l, .sl os, .int .i64 e] => some (rowsOk [.int .i64] os && (decide (os.length ≤ 1048576) && inB e (-9223372036854775808) 9223372036854775807), [.str (footText v s b l (ints os) e)])
  | _ => none
def sealSpec : Spec := fun cs => match cs with
  | [.int .i64 v, .int .i64 s, .int .i64 b, .int .i64 l, .sl r] => some (rowsOk [.str] r && decide (r.length ≤ 1048576), [.str (sealText v s b l (strs r))])
  | _ => none
abbrev pSlI : PTy := .val false [.slice 3]
abbrev pSlS : PTy := .val false [.slice 9]
abbrev pSlP : PTy := .val false [.slice 109]
abbrev rSlP : RTy := ⟨false, [(.slice 109, true)]⟩

def H_sPlacesOf (s : Int) (o : List (List C)) (n : Nat) (r : List (List C)) (j : Int) : St := { slots := [(0, int64 s), (1, .l (.sl o)), (5, .l (.ref 0 0 n)), (6, int64 j)], heap := [(0, .arr 2 r)], next := 1, pins := [] }
def E_sPlacesOf : Env := mkE [(3, [0, 1, 5, 6])] []

def E_sLess : Env := mkE [] []

def H_sPlacesText (r : List (List C)) (t : List UInt8) (a b j : Int) : St := { slots := [(0, .l (.sl r)), (3, wstr t), (4, .l (.ptr 0 0)), (5, int64 j)], heap := [(0, .box [.i .i64 a, .i .i64 b])], next := 1, pins := [] }
def E_sPlacesText : Env := mkE [(4, [0, 3, 4, 5])] [(105, (sg [pI] [rS]), varTextSpec), (114, (sg [pI, pI] [rI]), lessSpec)]

def H_sTrailer (t : List UInt8) (a b c d j : Int) : St := { slots := [(9, wstr t), (10, .l (.ref 0 0 4)), (11, int64 j)], heap := [(0, .arr 1 [[.int .i64 a], [.int .i64 b], [.int .i64 c], [.int .i64 d]])], next := 1, pins := [] }
def E_sTrailer : Env := mkE [(4, [9, 10, 11])] [(77, (sg [pI, pI] [rS]), fixSpec)]

def E_sFoot : Env := mkE [] [(78, (sg [pS] [rI]), sumOfSpec), (37, (sg [pHead] [rB]), headOkSpec), (106, (sg [pI, pI] [rS]), endMarkSpec), (108, (⟨[pI, pSlI], [rSlP], true⟩), placesOfSpec), (107, (⟨[pSlP], [rS], true⟩), placesTextSpec), (109, (sg [pI, pI, pI, pI] [rS]), trailerSpec)]

def H_sSeal (v s b l : Int) (r : List (List C)) (n : Nat) (x : List (List C)) (q : Nat) (o : List (List C)) (j : Int) : St := { slots := [(1, .l (.sl r)), (2, .l (.ptr 0 0)), (5, .l (.ref 1 0 n)), (6, .l (.ref 2 0 q)), (7, int64 j)], heap := [(0, .box [.i .i64 v, .i .i64 s, .i .i64 b, .i .i64 l]), (1, .arr 1 x), (2, .arr 1 o)], next := 3, pins := [] }
def E_sSeal : Env := mkE [(6, [1, 2, 5, 6, 7])] [(37, (sg [pHead] [rB]), headOkSpec), (35, (sg [pHead] [rS]), headTextSpec), (90, (sg [pI, pI, pS] [rS]), frameSpec), (91, (⟨[pHead, pSlI, pI], [rS], true⟩), footSpec)]

end
end Go.Proofs.Ythpcgbnochcbcaa.V

namespace Go.Proofs.Ythpcgbnochcbcaa.V
set_option maxRecDepth 100000
theorem sPlacesOf_tree (H : List Pt → Nat → St → T (List C)) (s : Int) (o : List (List C)) : (vBodyL E_sPlacesOf noInl { params := [pI, pSlI], results := [rSlP], nested := true } Try.f108 H
  [C.int IntKind.i64 s, C.sl o]).eval =
 ((H [Pt.r, Pt.r, Pt.l, Pt.r, Pt.b] (9223372036854775808 : Nat) (H_sPlacesOf (s) (o) ((0 : Nat)) ([]) ((0 : Int)))) : T (List C)).eval := evalEq (by kernel_rfl)
theorem sPlacesOf_round0 (H : List Pt → Nat → St → T (List C)) (s : Int) (o : List (List C)) (n : Nat) (r : List (List C)) (j : Int) (k : Nat) : (vRound E_sPlacesOf noInl { params := [pI, pSlI], results := [rSlP], nested := true } Try.f108 H
  [Pt.r, Pt.r, Pt.l, Pt.r, Pt.b] k (H_sPlacesOf s o n r j)).eval =
 ((.ask (decide (j < (↑o.length : Int)))
 (.ask (decide ((1 : Int) ≤ s))
  (.must (decide ¬s = (0 : Int))
   (.ask (decide (j.tmod s = (0 : Int)))
    (.must (decide ((0 : Int) ≤ j) && decide (j < (↑o.length : Int)) && decide ((o.getD j.toNat []).length = (1 : Nat)))
     (.must (decide ((0 : Nat) < (o.getD j.toNat []).length) &&
    C.is (K.int IntKind.i64) ((o.getD j.toNat []).getD (0 : Nat) (C.fn (0 : FuncId) [])) &&
  true)
      (.must (decide (n = r.length) && roomy (r.length + (1 : Nat)) (16 : Nat) &&
  (decide ((Nat.add (1 : Nat) (0 : Nat)).succ = (2 : Nat)) && true))
       (H [Pt.r, Pt.r, Pt.l, Pt.r, Pt.b] k (H_sPlacesOf (s) (o) (r.length + (1 : Nat)) (r.append [[C.int IntKind.i64 j, C.int IntKind.i64 ((o.getD j.toNat []).getD (0 : Nat) (C.fn (0 : FuncId) [])).toInt]]) (IntKind.i64.wrap (j + (1 : Int))))))))
    (H [Pt.r, Pt.r, Pt.l, Pt.r, Pt.b] k (H_sPlacesOf (s) (o) (n) (r) (IntKind.i64.wrap (j + (1 : Int)))))))
  (.must (decide (n = r.length) && (true || r.all fun r => r.all C.flat) && true && true && true)
   (.ret [C.sl r])))
 (.must (decide (n = r.length) && (true || r.all fun r => r.all C.flat) && true && true && true)
  (.ret [C.sl r]))) : T (List C)).eval := evalEq (by kernel_rfl)
theorem sLess_tree (H : List Pt → Nat → St → T (List C)) (a : Int) (b : Int) : (vBodyL E_sLess noInl (sg [pI, pI] [rI]) Try.f114 H [C.int IntKind.i64 a, C.int IntKind.i64 b]).eval =
 ((.ask (decide (a < b))
 (.ret [C.int IntKind.i64 (-1 : Int)])
 (.ask (decide (IntKind.i64.wrap (a - b) < (0 : Int)))
  (.ret [C.int IntKind.i64 (-1 : Int)])
  (.ret [C.int IntKind.i64 (IntKind.i64.wrap (a - b))]))) : T (List C)).eval := evalEq (by kernel_rfl)
theorem sPlacesText_tree (H : List Pt → Nat → St → T (List C)) (r : List (List C)) : (vBodyL E_sPlacesText noInl { params := [pSlP], results := [rS], nested := true } Try.f107 H [C.sl r]).eval =
 ((H [Pt.r, Pt.r, Pt.r, Pt.l, Pt.r, Pt.b] (9223372036854775808 : Nat) (H_sPlacesText (r) (varText (↑r.length : Int)) ((0 : Int)) ((0 : Int)) ((0 : Int)))) : T (List C)).eval := evalEq (by kernel_rfl)
theorem sPlacesText_round0 (H : List Pt → Nat → St → T (List C)) (r : List (List C)) (t : List UInt8) (a : Int) (b : Int) (j : Int) (k : Nat) : (vRound E_sPlacesText noInl { params := [pSlP], results := [rS], nested := true } Try.f107 H
  [Pt.r, Pt.r, Pt.r, Pt.l, Pt.r, Pt.b] k (H_sPlacesText r t a b j)).eval =
 ((.ask (decide (j < (↑r.length : Int)))
 (.must (decide ((0 : Int) ≤ j) && decide (j < (↑r.length : Int)) && decide ((r.getD j.toNat []).length = (2 : Nat)))
  (.must (decide ((0 : Nat) < (r.getD j.toNat []).length) &&
    C.is (K.int IntKind.i64) ((r.getD j.toNat []).getD (0 : Nat) (C.fn (0 : FuncId) [])) &&
  (decide ((0 : Nat) + (1 : Nat) < (r.getD j.toNat []).length) &&
      C.is (K.int IntKind.i64) ((r.getD j.toNat []).getD ((0 : Nat) + (1 : Nat)) (C.fn (0 : FuncId) [])) &&
    true))
   (.ask (varText (less ((r.getD j.toNat []).getD (0 : Nat) (C.fn (0 : FuncId) [])).toInt a) == [])
    (.ret [C.str []])
    (.ask (varText (less ((r.getD j.toNat []).getD ((0 : Nat) + (1 : Nat)) (C.fn (0 : FuncId) [])).toInt b) == [])
     (.ret [C.str []])
     (.must (decide
  (t.length + (varText (less ((r.getD j.toNat []).getD (0 : Nat) (C.fn (0 : FuncId) [])).toInt a)).length ≤
    (9223372036854775807 : Nat)))
      (.must (decide
  ((t ++ varText (less ((r.getD j.toNat []).getD (0 : Nat) (C.fn (0 : FuncId) [])).toInt a)).length +
      (varText (less ((r.getD j.toNat []).getD ((0 : Nat) + (1 : Nat)) (C.fn (0 : FuncId) [])).toInt b)).length ≤
    (9223372036854775807 : Nat)))
       (H [Pt.r, Pt.r, Pt.r, Pt.l, Pt.r, Pt.b] k (H_sPlacesText (r) (t ++ varText (less ((r.getD j.toNat []).getD (0 : Nat) (C.fn (0 : FuncId) [])).toInt a) ++
  varText (less ((r.getD j.toNat []).getD ((0 : Nat) + (1 : Nat)) (C.fn (0 : FuncId) [])).toInt b)) (((r.getD j.toNat []).getD (0 : Nat) (C.fn (0 : FuncId) [])).toInt) (((r.getD j.toNat []).getD ((0 : Nat) + (1 : Nat)) (C.fn (0 : FuncId) [])).toInt) (IntKind.i64.wrap (j + (1 : Int)))))))))))
 (.ret [C.str t])) : T (List C)).eval := evalEq (by kernel_rfl)
theorem sTrailer_tree (H : List Pt → Nat → St → T (List C)) (a : Int) (b : Int) (c : Int) (d : Int) : (vBodyL E_sTrailer noInl (sg [pI, pI, pI, pI] [rS]) Try.f109 H
  [C.int IntKind.i64 a, C.int IntKind.i64 b, C.int IntKind.i64 c, C.int IntKind.i64 d]).eval =
 ((H [Pt.r, Pt.r, Pt.r, Pt.l, Pt.r, Pt.b] (9223372036854775808 : Nat) (H_sTrailer ([]) (a) (b) (c) (d) ((0 : Int)))) : T (List C)).eval := evalEq (by kernel_rfl)
theorem sTrailer_round0 (H : List Pt → Nat → St → T (List C)) (t : List UInt8) (a : Int) (b : Int) (c : Int) (d : Int) (j : Int) (k : Nat) : (vRound E_sTrailer noInl (sg [pI, pI, pI, pI] [rS]) Try.f109 H [Pt.r, Pt.r, Pt.r, Pt.l, Pt.r, Pt.b] k
  (H_sTrailer t a b c d j)).eval =
 ((.ask (decide (j < (4 : Int)))
 (.must (decide ((0 : Int) ≤ j) && decide (j < (↑(4 : Nat) : Int)))
  (.must (decide ((0 : Nat) + j.toNat < (((Nat.add (1 : Nat) (0 : Nat)).succ.add (0 : Nat)).succ.add (0 : Nat)).succ) &&
  (decide
        ((0 : Nat) <
          ([[C.int IntKind.i64 a], [C.int IntKind.i64 b], [C.int IntKind.i64 c], [C.int IntKind.i64 d]].getD
              ((0 : Nat) + j.toNat) []).length) &&
      C.is (K.int IntKind.i64)
        (([[C.int IntKind.i64 a], [C.int IntKind.i64 b], [C.int IntKind.i64 c], [C.int IntKind.i64 d]].getD
              ((0 : Nat) + j.toNat) []).getD
          (0 : Nat) (C.fn (0 : FuncId) [])) &&
    true))
   (.must (decide
    ((-9223372036854775808 : Int) ≤
      (([[C.int IntKind.i64 a], [C.int IntKind.i64 b], [C.int IntKind.i64 c], [C.int IntKind.i64 d]].getD
              ((0 : Nat) + j.toNat) []).getD
          (0 : Nat) (C.fn (0 : FuncId) [])).toInt) &&
  decide
    ((([[C.int IntKind.i64 a], [C.int IntKind.i64 b], [C.int IntKind.i64 c], [C.int IntKind.i64 d]].getD
              ((0 : Nat) + j.toNat) []).getD
          (0 : Nat) (C.fn (0 : FuncId) [])).toInt ≤
      (9223372036854775807 : Int)))
    (.ask (fixOf
    (([[C.int IntKind.i64 a], [C.int IntKind.i64 b], [C.int IntKind.i64 c], [C.int IntKind.i64 d]].getD
            ((0 : Nat) + j.toNat) []).getD
        (0 : Nat) (C.fn (0 : FuncId) [])).toInt
    (4 : Int) ==
  [])
     (.ret [C.str []])
     (.must (decide
  (t.length +
      (fixOf
          (([[C.int IntKind.i64 a], [C.int IntKind.i64 b], [C.int IntKind.i64 c], [C.int IntKind.i64 d]].getD
                  ((0 : Nat) + j.toNat) []).getD
              (0 : Nat) (C.fn (0 : FuncId) [])).toInt
          (4 : Int)).length ≤
    (9223372036854775807 : Nat)))
      (H [Pt.r, Pt.r, Pt.r, Pt.l, Pt.r, Pt.b] k (H_sTrailer (t ++
  fixOf
    (([[C.int IntKind.i64 a], [C.int IntKind.i64 b], [C.int IntKind.i64 c], [C.int IntKind.i64 d]].getD
            ((0 : Nat) + j.toNat) []).getD
        (0 : Nat) (C.fn (0 : FuncId) [])).toInt
    (4 : Int)) (a) (b) (c) (d) (IntKind.i64.wrap (j + (1 : Int))))))))))
 (.must (decide (t.length + (4 : Nat) ≤ (9223372036854775807 : Nat)))
  (.ret [C.str (t ++ [(73 : UInt8), (68 : UInt8), (88 : UInt8), (33 : UInt8)])]))) : T (List C)).eval := evalEq (by kernel_rfl)
theorem sFoot_tree (H : List Pt → Nat → St → T (List C)) (v : Int) (s : Int) (b : Int) (l : Int) (o : List (List C)) (e : Int) : (vBodyL E_sFoot noInl { params := [pHead, pSlI, pI], results := [rS], nested := true } Try.f91 H
  [C.int IntKind.i64 v, C.int IntKind.i64 s, C.int IntKind.i64 b, C.int IntKind.i64 l, C.sl o, C.int IntKind.i64 e]).eval =
 ((.ask (headOk v s b l)
 (.must (rowsOk [K.int IntKind.i64] o && decide (o.length ≤ (1048576 : Nat)))
  (.must ((true && (List.map ePl (places s (ints o))).all fun row => decide (row.length = (2 : Nat))) && true && true && true)
   (.must (rowsOk [K.int IntKind.i64, K.int IntKind.i64]
    (List.take (List.map ePl (places s (ints o))).length (List.map ePl (places s (ints o)))) &&
  decide
    ((List.take (List.map ePl (places s (ints o))).length (List.map ePl (places s (ints o)))).length ≤ (1048576 : Nat)))
    (.must (inB e (-9223372036854775808 : Int) (9223372036854775807 : Int) &&
  (inB (↑o.length : Int) (-9223372036854775808 : Int) (9223372036854775807 : Int) &&
    (inB s (-9223372036854775808 : Int) (9223372036854775807 : Int) &&
      inB (0 : Int) (-9223372036854775808 : Int) (9223372036854775807 : Int))))
     (.ask (endMark v (IntKind.i64.wrap (b + (↑o.length : Int))) == [])
      (.ret [C.str []])
      (.ask (placesText (pls (List.take (List.map ePl (places s (ints o))).length (List.map ePl (places s (ints o))))) == [])
       (.ret [C.str []])
       (.ask (trailer e (↑o.length : Int) s (0 : Int) == [])
        (.ret [C.str []])
        (.must (decide
  ((endMark v (IntKind.i64.wrap (b + (↑o.length : Int)))).length +
      (placesText
          (pls (List.take (List.map ePl (places s (ints o))).length (List.map ePl (places s (ints o)))))).length ≤
    (9223372036854775807 : Nat)))
         (.must (decide ((0 : Int) ≤ (12 : Int)) && decide ((12 : Int) ≤ (↑(trailer e (↑o.length : Int) s (0 : Int)).length : Int)))
          (.must (decide
  ((endMark v (IntKind.i64.wrap (b + (↑o.length : Int))) ++
          placesText
            (pls (List.take (List.map ePl (places s (ints o))).length (List.map ePl (places s (ints o)))))).length +
      (List.drop (0 : Nat) (List.take (Int.toNat (12 : Int)) (trailer e (↑o.length : Int) s (0 : Int)))).length ≤
    (9223372036854775807 : Nat)))
           (.must (decide
  ((endMark v (IntKind.i64.wrap (b + (↑o.length : Int))) ++
          placesText (pls (List.take (List.map ePl (places s (ints o))).length (List.map ePl (places s (ints o))))) ++
        List.drop (0 : Nat) (List.take (Int.toNat (12 : Int)) (trailer e (↑o.length : Int) s (0 : Int)))).length ≤
    (281474976710656 : Nat)))
            (.must (decide
  ((endMark v (IntKind.i64.wrap (b + (↑o.length : Int)))).length +
      (placesText
          (pls (List.take (List.map ePl (places s (ints o))).length (List.map ePl (places s (ints o)))))).length ≤
    (9223372036854775807 : Nat)))
             (.must (inB e (-9223372036854775808 : Int) (9223372036854775807 : Int) &&
  (inB (↑o.length : Int) (-9223372036854775808 : Int) (9223372036854775807 : Int) &&
    (inB s (-9223372036854775808 : Int) (9223372036854775807 : Int) &&
      inB
        (Int.ofNat
          (crcMore (0 : Nat)
            (endMark v (IntKind.i64.wrap (b + (↑o.length : Int))) ++
                placesText
                  (pls (List.take (List.map ePl (places s (ints o))).length (List.map ePl (places s (ints o))))) ++
              List.drop (0 : Nat) (List.take (Int.toNat (12 : Int)) (trailer e (↑o.length : Int) s (0 : Int))))))
        (-9223372036854775808 : Int) (9223372036854775807 : Int))))
              (.must (decide
  ((endMark v (IntKind.i64.wrap (b + (↑o.length : Int))) ++
          placesText
            (pls (List.take (List.map ePl (places s (ints o))).length (List.map ePl (places s (ints o)))))).length +
      (trailer e (↑o.length : Int) s
          (Int.ofNat
            (crcMore (0 : Nat)
              (endMark v (IntKind.i64.wrap (b + (↑o.length : Int))) ++
                  placesText
                    (pls (List.take (List.map ePl (places s (ints o))).length (List.map ePl (places s (ints o))))) ++
                List.drop (0 : Nat)
                  (List.take (Int.toNat (12 : Int)) (trailer e (↑o.length : Int) s (0 : Int))))))).length ≤
    (9223372036854775807 : Nat)))
               (.ret [C.str
    (endMark v (IntKind.i64.wrap (b + (↑o.length : Int))) ++
        placesText (pls (List.take (List.map ePl (places s (ints o))).length (List.map ePl (places s (ints o))))) ++
      trailer e (↑o.length : Int) s
        (Int.ofNat
          (crcMore (0 : Nat)
            (endMark v (IntKind.i64.wrap (b + (↑o.length : Int))) ++
                placesText
                  (pls (List.take (List.map ePl (places s (ints o))).length (List.map ePl (places s (ints o))))) ++
              List.drop (0 : Nat) (List.take (Int.toNat (12 : Int)) (trailer e (↑o.length : Int) s (0 : Int)))))))])))))))))))))))
 (.ret [C.str []])) : T (List C)).eval := evalEq (by kernel_rfl)
theorem sSeal_tree (H : List Pt → Nat → St → T (List C)) (v : Int) (s : Int) (b : Int) (l : Int) (r : List (List C)) : (vBodyL E_sSeal noInl { params := [pHead, pSlS], results := [rS], nested := true } Try.f50 H
  [C.int IntKind.i64 v, C.int IntKind.i64 s, C.int IntKind.i64 b, C.int IntKind.i64 l, C.sl r]).eval =
 ((.ask (headOk v s b l)
 (.ask (decide ((1000 : Int) < (↑r.length : Int)))
  (.ret [C.str []])
  (.ask (decide ((1000000000 : Int) < IntKind.i64.wrap (b + (↑r.length : Int))))
   (.ret [C.str []])
   (H [Pt.r, Pt.r, Pt.r, Pt.r, Pt.l, Pt.r, Pt.b] (9223372036854775808 : Nat) (H_sSeal (v) (s) (b) (l) (r) ((headText v s b l).length) (rowsOfStr (headText v s b l)) ((0 : Nat)) ([]) ((0 : Int))))))
 (.ret [C.str []])) : T (List C)).eval := evalEq (by kernel_rfl)
theorem sSeal_round0 (H : List Pt → Nat → St → T (List C)) (v : Int) (s : Int) (b : Int) (l : Int) (r : List (List C)) (n : Nat) (x : List (List C)) (q : Nat) (o : List (List C)) (j : Int) (k : Nat) : (vRound E_sSeal noInl { params := [pHead, pSlS], results := [rS], nested := true } Try.f50 H
  [Pt.r, Pt.r, Pt.r, Pt.r, Pt.l, Pt.r, Pt.b] k (H_sSeal v s b l r n x q o j)).eval =
 ((.ask (decide (j < (↑r.length : Int)))
 (.must (decide ((0 : Int) ≤ j) && decide (j < (↑r.length : Int)) && decide ((r.getD j.toNat []).length = (1 : Nat)))
  (.must (decide ((0 : Nat) < (r.getD j.toNat []).length) &&
    C.is K.str ((r.getD j.toNat []).getD (0 : Nat) (C.fn (0 : FuncId) [])) &&
  true)
   (.ask (decide ((60 : Int) < (↑((r.getD j.toNat []).getD (0 : Nat) (C.fn (0 : FuncId) [])).toStr.length : Int)))
    (.ret [C.str []])
    (.must (decide (q = o.length) && roomy (o.length + (1 : Nat)) (8 : Nat) && (decide ((1 : Nat) = (1 : Nat)) && true))
     (.must (decide ((0 : Int) ≤ j) && decide (j < (↑r.length : Int)) && decide ((r.getD j.toNat []).length = (1 : Nat)))
      (.must (decide ((0 : Nat) < (r.getD j.toNat []).length) &&
    C.is K.str ((r.getD j.toNat []).getD (0 : Nat) (C.fn (0 : FuncId) [])) &&
  true)
       (.must (decide (((r.getD j.toNat []).getD (0 : Nat) (C.fn (0 : FuncId) [])).toStr.length ≤ (281474976710656 : Nat)))
        (.must (decide (n = x.length) &&
    roomy
      (x.length +
        (rowsOfStr
            (frameText v (IntKind.i64.wrap (b + j))
              ((r.getD j.toNat []).getD (0 : Nat) (C.fn (0 : FuncId) [])).toStr)).length)
      (1 : Nat) &&
  (rowsOfStr
        (frameText v (IntKind.i64.wrap (b + j)) ((r.getD j.toNat []).getD (0 : Nat) (C.fn (0 : FuncId) [])).toStr)).all
    fun r => decide (r.length = (1 : Nat)))
         (H [Pt.r, Pt.r, Pt.r, Pt.r, Pt.l, Pt.r, Pt.b] k (H_sSeal (v) (s) (b) (l) (r) (x.length +
  (rowsOfStr
      (frameText v (IntKind.i64.wrap (b + j)) ((r.getD j.toNat []).getD (0 : Nat) (C.fn (0 : FuncId) [])).toStr)).length) (x.append
  (rowsOfStr (frameText v (IntKind.i64.wrap (b + j)) ((r.getD j.toNat []).getD (0 : Nat) (C.fn (0 : FuncId) [])).toStr))) (o.length + (1 : Nat)) (o.append [[C.int IntKind.i64 (↑n : Int)]]) (IntKind.i64.wrap (j + (1 : Int)))))))))))))
 (.must (rowsOk [K.int IntKind.i64] (List.take q o) &&
  (decide ((List.take q o).length ≤ (1048576 : Nat)) &&
    inB (↑n : Int) (-9223372036854775808 : Int) (9223372036854775807 : Int)))
  (.must (decide (n = x.length) &&
    roomy (x.length + (rowsOfStr (footText v s b l (ints (List.take q o)) (↑n : Int))).length) (1 : Nat) &&
  (rowsOfStr (footText v s b l (ints (List.take q o)) (↑n : Int))).all fun r => decide (r.length = (1 : Nat)))
   (.must ((List.take (x.length + (rowsOfStr (footText v s b l (ints (List.take q o)) (↑n : Int))).length)
      (x.append (rowsOfStr (footText v s b l (ints (List.take q o)) (↑n : Int))))).all
  byteRow)
    (.ret [C.str
    (strOfRows
      (List.take (x.length + (rowsOfStr (footText v s b l (ints (List.take q o)) (↑n : Int))).length)
        (x.append (rowsOfStr (footText v s b l (ints (List.take q o)) (↑n : Int))))))]))))) : T (List C)).eval := evalEq (by kernel_rfl)
end Go.Proofs.Ythpcgbnochcbcaa.V

namespace Go.Proofs.Ythpcgbnochcbcaa.V

theorem row_pl {r : List C} (h : kindsOk r [.int .i64, .int .i64] = true) : r = ePl (plOf r) := by
  cases r with
  | nil => simp [kindsOk] at h
  | cons c r =>
    cases r with
    | nil => simp [kindsOk] at h
    | cons d r =>
      cases r with
      | cons e r => simp [kindsOk] at h
      | nil => cases c <;> simp [kindsOk, C.is] at h <;> cases d <;> simp [kindsOk, C.is] at h <;> (obtain ⟨rfl, rfl⟩ := h; rfl)
theorem rows_pls {rows : List (List C)} (h : rowsOk [.int .i64, .int .i64] rows = true) : rows = (pls rows).map ePl := by
  simp only [rowsOk, List.all_eq_true] at h
  simp only [pls, List.map_map]
  rw [List.map_congr_left (g := id)]
  · simp
  · intro r hr; exact (row_pl (h r hr)).symm
@[simp] theorem pls_map (l : List Pl) : pls (l.map ePl) = l := by simp [pls, plOf, ePl, Function.comp_def, C.toInt]
@[simp] theorem rowsOk_pls (l : List Pl) : rowsOk [.int .i64, .int .i64] (l.map ePl) = true := by simp [rowsOk, kindsOk, C.is, ePl]
theorem len2_pl (l : List Pl) : ((l.map ePl).all fun row => decide (row.length = 2)) = true := by simp [ePl]
theorem placesTo_len (s : Int) (os : List Int) : ∀ i, (placesTo s os i).length ≤ i
  | 0 => Nat.le_refl _
  | i + 1 => by
    have := placesTo_len s os i
    simp only [placesTo, List.length_append]
    split <;> simp <;> omega
theorem places_len (s : Int) (os : List Int) : (places s os).length ≤ os.length := by
  unfold places
  split
  · simp
  · exact placesTo_len _ _ _
theorem ptGo_len : ∀ (l : List Pl) (q : Pl) (t : List UInt8), ptGo q l = some t → t.length ≤ 10 * l.length
  | [], q, t, h => by simp [ptGo] at h; subst h; simp
  | p :: r, q, t, h => by
    unfold ptGo at h
    split at h
    · cases h
    · cases hr : ptGo p r with
      | none => rw [hr] at h; cases h
      | some u =>
        rw [hr] at h
        simp only [Option.map_some, Option.some.injEq] at h
        subst h
        have := ptGo_len r p u hr
        have h1 := varText_len (less p.1 q.1)
        have h2 := varText_len (less p.2 q.2)
        simp only [List.length_append, List.length_cons]
        omega
theorem placesText_len (l : List Pl) : (placesText l).length ≤ 5 + 10 * l.length := by
  unfold placesText
  cases h : ptGo (0, 0) l with
  | none => simp
  | some t =>
    have := ptGo_len l _ t h
    have h1 := varText_len (l.length : Int)
    simp only [List.length_append]
    omega
theorem trGo_len : ∀ (l : List Int) (t : List UInt8), trGo l t = [] ∨ (trGo l t).length = t.length + 4 * l.length + 4
  | [], t => .inr (by simp [trGo])
  | x :: r, t => by
    unfold trGo
    split
    · exact .inl rfl
    · rename_i hx
      have hf : (fixOf x 4).length = 4 := by
        unfold fixOf at hx ⊢
        split at hx
        · rename_i hc; rw [if_pos hc, leBytes_length]; rfl
        · exact absurd rfl hx
      rcases trGo_len r (t ++ fixOf x 4) with h | h
      · exact .inl h
      · right; rw [h]; simp [hf]; omega
theorem trailer_len (a b c d : Int) : trailer a b c d = [] ∨ (trailer a b c d).length = 20 := trGo_len [a, b, c, d] []
theorem trailer_le (a b c d : Int) : (trailer a b c d).length ≤ 20 := by
  rcases trailer_len a b c d with h | h <;> rw [h] <;> simp
theorem headText_le (v s b l : Int) : (headText v s b l).length ≤ 60 := by
  unfold headText headPre
  have h1 := fixOf_len v 1
  have h2 := fixOf_len s 1
  have h3 := fixOf_len b 8
  have h4 := fixOf_len l 4
  have h5 := fun x : Int => fixOf_len x 4
  split
  · simp only [List.length_append, List.length_cons, List.length_nil]
    have := h5 ((crcMore 0 ([83, 69, 71, 77] ++ fixOf v 1 ++ fixOf s 1 ++ [0, 0] ++ fixOf b 8 ++ fixOf l 4) : Nat) : Int)
    omega
  · simp
theorem footText_le (v s b l : Int) (os : List Int) (e : Int) : (footText v s b l os e).length ≤ 41 + 10 * os.length := by
  unfold footText
  split
  · simp
  · have h1 := endMark_len v (b + os.length)
    have h2 := placesText_len (places s os)
    have h3 := places_len s os
    simp only [List.length_append]
    have h4 := trailer_le e os.length s (crcMore 0 (endMark v (b + os.length) ++ placesText (places s os) ++ (trailer e os.length s 0).take 12) : Nat)
    omega
theorem sealGo_len (v b : Int) : ∀ (rs : List (List UInt8)) (i : Int) (t : List UInt8) (os : List Int) (x : List UInt8 × List Int), sealGo v b i rs t os = some x → x.1.length ≤ t.length + 90 * rs.length ∧ x.2.length = os.length + rs.length
  | [], i, t, os, x, h => by simp [sealGo] at h; subst h; simp
  | r :: rs, i, t, os, x, h => by
    unfold sealGo at h
    split at h
    · cases h
    · have := sealGo_len v b rs _ _ _ x h
      have h1 := frameText_len v (b + i) r
      simp only [List.length_append, List.length_cons, List.length_nil] at this ⊢
      omega
theorem sealText_le (v s b l : Int) (rs : List (List UInt8)) : (sealText v s b l rs).length ≤ 120000 := by
  unfold sealText
  split
  · simp
  · rename_i hc
    have hl : rs.length ≤ 1000 := by
      have : ¬ 1000 < rs.length := fun h => hc (.inr (.inl h))
      omega
    cases h : sealGo v b 0 rs (headText v s b l) [] with
    | none => simp
    | some x =>
      obtain ⟨t, os⟩ := x
      have h1 := sealGo_len v b rs 0 _ _ _ h
      have h2 := headText_le v s b l
      have h3 := footText_le v s b l os t.length
      simp only [List.length_append, List.length_nil] at h1 ⊢
      omega

theorem sPlacesOf_loop (s : Int) (os : List Int) (hs : 1 ≤ s) (hl : os.length ≤ 1048576) : ∀ (f n i : Nat), i + f = os.length → f < n →
    (vLoop E_sPlacesOf noInl (⟨[pI, pSlI], [rSlP], true⟩) Try.f108 [.r, .r, .l, .r, .b] n (H_sPlacesOf s (os.map eInt) (placesTo s os i).length ((placesTo s os i).map ePl) i)).eval = some [.sl ((placesTo s os os.length).map ePl)] := by
  intro f
  induction f with
  | zero =>
    intro n i h1 h2
    obtain ⟨n, rfl⟩ : ∃ q, n = q + 1 := ⟨n - 1, by omega⟩
    rw [vLoop_L _ _ _ _ _ _ _ (by kernel_rfl), sPlacesOf_round0]
    have c : ¬ ((i : Int) < (os.length : Int)) := by omega
    have ei : i = os.length := by omega
    simp only [List.length_map, eval_ask', eval_must', eval_ret', decide_eq_true_eq, c, if_false, decide_true, Bool.true_or, Bool.and_self, if_true]
    rw [ei]
  | succ f ih =>
    intro n i h1 h2
    obtain ⟨n, rfl⟩ : ∃ q, n = q + 1 := ⟨n - 1, by omega⟩
    rw [vLoop_L _ _ _ _ _ _ _ (by kernel_rfl), sPlacesOf_round0]
    have hi : i < os.length := by omega
    have c : (i : Int) < (os.length : Int) := by omega
    have z : (0 : Int) ≤ (i : Int) := by omega
    have ns : ¬ s = 0 := by omega
    have tm : (i : Int).tmod s = (i : Int) % s := Int.tmod_eq_emod_of_nonneg z
    have g := map_getD eInt os 0 i hi
    have w : IntKind.i64.wrap ((i : Int) + 1) = ((i + 1 : Nat) : Int) := by rw [wrap64] <;> omega
    have pl := placesTo_len s os i
    have ro : roomy ((placesTo s os i).length + 1) 16 = true := by simp only [roomy, decide_eq_true_eq]; omega
    have e := ih n (i + 1) (by omega) (by omega)
    simp only [List.length_map, eval_ask', eval_must', decide_eq_true_eq, c, hs, ns, tm, z, Int.toNat_natCast, g, w, ro, not_false_eq_true, if_true, decide_true, Bool.and_true, Bool.true_and, List.length_cons, List.length_nil, Nat.zero_add, Nat.zero_lt_one, C.is, beq_self_eq_true, List.getD_cons_zero, C.toInt]
    by_cases hm : (i : Int) % s = 0
    · have ep : placesTo s os (i + 1) = placesTo s os i ++ [((i : Int), os.getD i 0)] := by simp only [placesTo, hm, if_true]
      rw [ep, List.map_append, List.length_append] at e
      simp only [hm, if_true]
      exact e
    · have ep : placesTo s os (i + 1) = placesTo s os i := by simp only [placesTo, hm, if_false, List.append_nil]
      rw [ep] at e
      simp only [hm, if_false]
      exact e
theorem sPlacesOf_E : EnvSound Try.prog E_sPlacesOf := mkE_sound (by simp [])
theorem sPlacesOf_sound : Sound Try.prog 108 (⟨[pI, pSlI], [rSlP], true⟩) placesOfSpec := vBody_sound sPlacesOf_E noInl_ok Try.func108 (by kernel_rfl) fun cs outs hk h => by
  unfold placesOfSpec at h
  split at h
  · simp only [Option.some.injEq, Prod.mk.injEq, Bool.and_eq_true, decide_eq_true_eq] at h
    obtain ⟨⟨h1, h2⟩, rfl⟩ := h
    rename_i s o
    have hr := rows_ints h1
    generalize ints o = os at hr ⊢
    subst hr
    rw [List.length_map] at h2
    rw [vBody_L, sPlacesOf_tree]
    by_cases hs : 1 ≤ s
    · have e := sPlacesOf_loop s os hs h2 os.length 9223372036854775808 0 (by omega) (by omega)
      have ep : places s os = placesTo s os os.length := by unfold places; rw [if_neg (by omega)]
      rw [ep]
      exact e
    · have ep : places s os = [] := by unfold places; rw [if_pos (by omega)]
      rw [ep, vLoop_L _ _ _ _ _ 9223372036854775807 _ (by kernel_rfl), sPlacesOf_round0]
      by_cases c : (0 : Int) < (os.length : Int)
      · simp only [List.length_map, eval_ask', eval_must', eval_ret', decide_eq_true_eq, c, hs, if_true, if_false]; rfl
      · simp only [List.length_map, eval_ask', eval_must', eval_ret', decide_eq_true_eq, c, if_false]; rfl
  · cases h

theorem sLess_E : EnvSound Try.prog E_sLess := mkE_sound (by simp [])
theorem sLess_sound : Sound Try.prog 114 (sg [pI, pI] [rI]) lessSpec := vBody_sound sLess_E noInl_ok Try.func114 (by kernel_rfl) fun cs outs hk h => by
  unfold lessSpec at h
  split at h
  · simp only [Option.some.injEq, Prod.mk.injEq, true_and] at h
    rename_i a b
    rw [← h, vBody_L, sLess_tree]
    unfold less
    by_cases c : a < b
    · simp [eval_ask', eval_ret', c]
    · by_cases d : IntKind.i64.wrap (a - b) < 0 <;> simp [eval_ask', eval_ret', c, d]
  · cases h

theorem sPlacesText_loop (l : List Pl) (hl : l.length ≤ 1048576) : ∀ (f n i : Nat) (q : Pl) (t : List UInt8), i + f = l.length → f < n → t.length ≤ 5 + 10 * i →
    (vLoop E_sPlacesText noInl (⟨[pSlP], [rS], true⟩) Try.f107 [.r, .r, .r, .l, .r, .b] n (H_sPlacesText (l.map ePl) t q.1 q.2 i)).eval = some [.str (match ptGo q (l.drop i) with | some x => t ++ x | none => [])] := by
  intro f
  induction f with
  | zero =>
    intro n i q t h1 h2 h3
    obtain ⟨n, rfl⟩ : ∃ q, n = q + 1 := ⟨n - 1, by omega⟩
    rw [vLoop_L _ _ _ _ _ _ _ (by kernel_rfl), sPlacesText_round0]
    have c : ¬ ((i : Int) < (l.length : Int)) := by omega
    have hd : l.drop i = [] := List.drop_eq_nil_of_le (by omega)
    simp only [List.length_map, eval_ask', eval_ret', decide_eq_true_eq, c, if_false, hd, ptGo, List.append_nil]
  | succ f ih =>
    intro n i q t h1 h2 h3
    obtain ⟨n, rfl⟩ : ∃ q, n = q + 1 := ⟨n - 1, by omega⟩
    rw [vLoop_L _ _ _ _ _ _ _ (by kernel_rfl), sPlacesText_round0]
    have hi : i < l.length := by omega
    have c : (i : Int) < (l.length : Int) := by omega
    have z : (0 : Int) ≤ (i : Int) := by omega
    have g := map_getD ePl l (0, 0) i hi
    have hd := drop_cons l i (0, 0) hi
    generalize l.getD i (0, 0) = p at g hd
    have w : IntKind.i64.wrap ((i : Int) + 1) = ((i + 1 : Nat) : Int) := by rw [wrap64] <;> omega
    have v1 := varText_len (less p.1 q.1)
    have v2 := varText_len (less p.2 q.2)
    have m1 : t.length + (varText (less p.1 q.1)).length ≤ 9223372036854775807 := by omega
    have m2 : t.length + (varText (less p.1 q.1)).length + (varText (less p.2 q.2)).length ≤ 9223372036854775807 := by omega
    have e := ih n (i + 1) p (t ++ varText (less p.1 q.1) ++ varText (less p.2 q.2)) (by omega) (by omega) (by simp only [List.length_append]; omega)
    rw [hd]
    simp only [List.length_map, eval_ask', eval_must', eval_ret', decide_eq_true_eq, c, z, Int.toNat_natCast, g, w, if_true, decide_true, Bool.and_true, Bool.true_and, ePl, List.length_cons, List.length_nil, C.is, beq_self_eq_true, List.getD_cons_zero, List.getD_cons_succ, C.toInt, Nat.zero_add, Nat.reduceAdd, Nat.reduceLT, beq_iff_eq, List.length_append, m1, m2, ptGo]
    by_cases a1 : varText (less p.1 q.1) = []
    · simp only [a1, true_or, if_true]
    · by_cases a2 : varText (less p.2 q.2) = []
      · simp only [a1, a2, or_true, if_true, if_false]
      · simp only [a1, a2, or_self, if_false]
        refine e.trans ?_
        cases ptGo p (l.drop (i + 1)) with
        | none => rfl
        | some x => simp only [Option.map_some, List.append_assoc]
theorem sPlacesText_E : EnvSound Try.prog E_sPlacesText := mkE_sound (by simp [sVarText_sound, sLess_sound])
theorem sPlacesText_sound : Sound Try.prog 107 (⟨[pSlP], [rS], true⟩) placesTextSpec := vBody_sound sPlacesText_E noInl_ok Try.func107 (by kernel_rfl) fun cs outs hk h => by
  unfold placesTextSpec at h
  split at h
  · simp only [Option.some.injEq, Prod.mk.injEq, Bool.and_eq_true, decide_eq_true_eq] at h
    obtain ⟨⟨h1, h2⟩, rfl⟩ := h
    rename_i r
    have hr := rows_pls h1
    generalize pls r = l at hr ⊢
    subst hr
    rw [List.length_map] at h2
    rw [vBody_L, sPlacesText_tree, List.length_map]
    have e := sPlacesText_loop l h2 l.length 9223372036854775808 0 (0, 0) (varText (l.length : Int)) (by omega) (by omega) (by have := varText_len (l.length : Int); omega)
    exact e
  · cases h

theorem four_at (a b c d : Int) (i : Nat) (hi : i < 4) : ([[C.int .i64 a], [C.int .i64 b], [C.int .i64 c], [C.int .i64 d]] : List (List C)).getD i [] = eInt (([a, b, c, d] : List Int).getD i 0) := by
  exact map_getD eInt [a, b, c, d] 0 i hi
theorem sTrailer_loop (a b c d : Int) (hx : ∀ i, i < 4 → -9223372036854775808 ≤ ([a, b, c, d] : List Int).getD i 0 ∧ ([a, b, c, d] : List Int).getD i 0 ≤ 9223372036854775807) : ∀ (f n i : Nat) (t : List UInt8), i + f = 4 → f < n → t.length ≤ 8 * i →
    (vLoop E_sTrailer noInl (sg [pI, pI, pI, pI] [rS]) Try.f109 [.r, .r, .r, .l, .r, .b] n (H_sTrailer t a b c d i)).eval = some [.str (trGo (([a, b, c, d] : List Int).drop i) t)] := by
  intro f
  induction f with
  | zero =>
    intro n i t h1 h2 h3
    obtain ⟨n, rfl⟩ : ∃ q, n = q + 1 := ⟨n - 1, by omega⟩
    rw [vLoop_L _ _ _ _ _ _ _ (by kernel_rfl), sTrailer_round0]
    have c4 : ¬ ((i : Int) < 4) := by omega
    have hd : ([a, b, c, d] : List Int).drop i = [] := List.drop_eq_nil_of_le (by simp; omega)
    have m : t.length + 4 ≤ 9223372036854775807 := by omega
    simp only [eval_ask', eval_must', eval_ret', decide_eq_true_eq, c4, if_false, hd, trGo, m, if_true]
  | succ f ih =>
    intro n i t h1 h2 h3
    obtain ⟨n, rfl⟩ : ∃ q, n = q + 1 := ⟨n - 1, by omega⟩
    rw [vLoop_L _ _ _ _ _ _ _ (by kernel_rfl), sTrailer_round0]
    have hi : i < 4 := by omega
    have c4 : (i : Int) < 4 := by omega
    have z : (0 : Int) ≤ (i : Int) := by omega
    have g := four_at a b c d i hi
    have hd := drop_cons ([a, b, c, d] : List Int) i 0 hi
    have hx1 := hx i hi
    generalize ([a, b, c, d] : List Int).getD i 0 = x at g hd hx1
    have w : IntKind.i64.wrap ((i : Int) + 1) = ((i + 1 : Nat) : Int) := by rw [wrap64] <;> omega
    have v1 := fixOf_len x 4
    have m1 : t.length + (fixOf x 4).length ≤ 9223372036854775807 := by omega
    have e := ih n (i + 1) (t ++ fixOf x 4) (by omega) (by omega) (by simp only [List.length_append]; omega)
    have k1 : i < (((Nat.add 1 0).succ.add 0).succ.add 0).succ := by show i < 4; omega
    rw [hd]
    have c4' : (i : Int) < ((4 : Nat) : Int) := by omega
    simp only [eval_ask', eval_must', eval_ret', decide_eq_true_eq, c4, c4', z, Int.toNat_natCast, k1, g, w, if_true, decide_true, Bool.and_true, Bool.true_and, Bool.and_self, List.length_cons, List.length_nil, C.is, beq_self_eq_true, List.getD_cons_zero, C.toInt, Nat.zero_add, Nat.zero_lt_one, hx1.1, hx1.2, beq_iff_eq, m1, trGo]
    by_cases a1 : fixOf x 4 = []
    · simp only [a1, if_true]
    · simp only [a1, if_false]
      exact e
theorem sTrailer_E : EnvSound Try.prog E_sTrailer := mkE_sound (by simp [sFixText_sound])
theorem sTrailer_sound : Sound Try.prog 109 (sg [pI, pI, pI, pI] [rS]) trailerSpec := vBody_sound sTrailer_E noInl_ok Try.func109 (by kernel_rfl) fun cs outs hk h => by
  unfold trailerSpec at h
  split at h
  · simp only [Option.some.injEq, Prod.mk.injEq, Bool.and_eq_true, in_iff] at h
    obtain ⟨⟨ha, hb, hc, hd⟩, rfl⟩ := h
    rename_i a b c d
    rw [vBody_L, sTrailer_tree]
    exact sTrailer_loop a b c d (fun i hi => by
      match i, hi with
      | 0, _ => exact ha
      | 1, _ => exact hb
      | 2, _ => exact hc
      | 3, _ => exact hd) 4 9223372036854775808 0 [] (by omega) (by omega) (by simp)
  · cases h

theorem sFoot_E : EnvSound Try.prog E_sFoot := mkE_sound (by simp [sSumOf_sound, sHeadOk_sound, sEndMark_sound, sPlacesOf_sound, sPlacesText_sound, sTrailer_sound])
theorem sFoot_sound : Sound Try.prog 91 (⟨[pHead, pSlI, pI], [rS], true⟩) footSpec := vBody_sound sFoot_E noInl_ok Try.func91 (by kernel_rfl) fun cs outs hk h => by
  unfold footSpec at h
  split at h
  · simp only [Option.some.injEq, Prod.mk.injEq, Bool.and_eq_true, decide_eq_true_eq, in_iff] at h
    obtain ⟨⟨h1, h2, h3⟩, rfl⟩ := h
    rename_i v s b l o e
    have hr := rows_ints h1
    rw [vBody_L, sFoot_tree]
    generalize ints o = os at hr ⊢
    subst hr
    simp only [List.length_map] at h1 h2 ⊢
    by_cases hh : headOk v s b l = true
    · obtain ⟨hv, hs, hb, hl⟩ := (headOk_iff v s b l).1 hh
      have w : IntKind.i64.wrap (b + (os.length : Int)) = b + os.length := by rw [wrap64] <;> omega
      have pl := places_len s os
      have tk : List.take (places s os).length (List.map ePl (places s os)) = List.map ePl (places s os) := List.take_of_length_le (by simp)
      have i1 : inB e (-9223372036854775808) 9223372036854775807 = true := (in_iff _ _ _).2 h3
      have i2 : inB (os.length : Int) (-9223372036854775808) 9223372036854775807 = true := (in_iff _ _ _).2 ⟨by omega, by omega⟩
      have i3 : inB s (-9223372036854775808) 9223372036854775807 = true := (in_iff _ _ _).2 ⟨by omega, by omega⟩
      have i4 : inB 0 (-9223372036854775808) 9223372036854775807 = true := rfl
      have l1 := endMark_len v (b + os.length)
      have l2 := placesText_len (places s os)
      have p1 : (places s os).length ≤ 1048576 := by omega
      simp only [eval_ask', eval_must', eval_ret', hh, if_true, w, tk, pls_map, len2_pl, rowsOk_pls, h1, h2, i1, i2, i3, i4, List.length_map, p1, decide_true, Bool.and_self, Bool.true_and, beq_iff_eq, List.drop_zero]
      unfold footText
      by_cases c1 : endMark v (b + os.length) = []
      · rw [if_pos c1, if_pos (.inr (.inl c1))]
      · by_cases c2 : placesText (places s os) = []
        · rw [if_neg c1, if_pos c2, if_pos (.inr (.inr (.inl c2)))]
        · by_cases c3 : trailer e os.length s 0 = []
          · rw [if_neg c1, if_neg c2, if_pos c3, if_pos (.inr (.inr (.inr c3)))]
          · have t20 : (trailer e os.length s 0).length = 20 := by
              rcases trailer_len e os.length s 0 with h | h
              · exact absurd h c3
              · exact h
            have hn : ¬ (headOk v s b l = false ∨ endMark v (b + os.length) = [] ∨ placesText (places s os) = [] ∨ trailer e os.length s 0 = []) := by
              intro h
              rcases h with h | h | h | h
              · rw [hh] at h; cases h
              · exact c1 h
              · exact c2 h
              · exact c3 h
            rw [if_neg c1, if_neg c2, if_neg c3, if_neg hn]
            have t12 : Int.toNat 12 = 12 := rfl
            have d0 : List.drop 0 (List.take 12 (trailer e os.length s 0)) = List.take 12 (trailer e os.length s 0) := rfl
            have cl := crcMore_lt 0 (endMark v (b + os.length) ++ placesText (places s os) ++ (trailer e os.length s 0).take 12) (by omega)
            have i5 : ∀ z : Nat, z < 4294967296 → inB (Int.ofNat z) (-9223372036854775808) 9223372036854775807 = true := fun z hz => (in_iff _ _ _).2 ⟨by show _ ≤ (z : Int); omega, by show (z : Int) ≤ _; omega⟩
            have l3 := trailer_le e os.length s (Int.ofNat (crcMore 0 (endMark v (b + os.length) ++ placesText (places s os) ++ (trailer e os.length s 0).take 12)))
            rw [t12]
            rw [if_pos (decide_eq_true (by omega)), if_pos (by rw [t20]; rfl), if_pos (decide_eq_true (by simp only [List.length_append, List.length_take]; omega)), if_pos (decide_eq_true (by simp only [List.length_append, List.length_take]; omega)), if_pos (decide_eq_true (by omega)), if_pos (i5 _ cl), if_pos (decide_eq_true (by simp only [List.length_append]; omega))]
            rfl
    · have hh' : headOk v s b l = false := by simpa using hh
      simp only [eval_ask', eval_ret', hh, Bool.false_eq_true, if_false]
      unfold footText
      rw [if_pos (.inl hh')]
  · cases h

theorem sSeal_loop (v s b l : Int) (rs : List (List UInt8)) (hb : 0 ≤ b ∧ b ≤ 1000000000) (hl : rs.length ≤ 1000) : ∀ (f n i : Nat) (t : List UInt8) (os : List Int), i + f = rs.length → f < n → os.length = i → t.length ≤ 60 + 90 * i →
    (vLoop E_sSeal noInl (⟨[pHead, pSlS], [rS], true⟩) Try.f50 [.r, .r, .r, .r, .l, .r, .b] n (H_sSeal v s b l (rs.map eStr) t.length (rowsOfStr t) os.length (os.map eInt) i)).eval = some [.str (match sealGo v b i (rs.drop i) t os with | some (t', os') => t' ++ footText v s b l os' t'.length | none => [])] := by
  intro f
  induction f with
  | zero =>
    intro n i t os h1 h2 h3 h4
    obtain ⟨n, rfl⟩ : ∃ q, n = q + 1 := ⟨n - 1, by omega⟩
    rw [vLoop_L _ _ _ _ _ _ _ (by kernel_rfl), sSeal_round0]
    have c : ¬ ((i : Int) < (rs.length : Int)) := by omega
    have hd : rs.drop i = [] := List.drop_eq_nil_of_le (by omega)
    have tk : List.take os.length (os.map eInt) = os.map eInt := List.take_of_length_le (by simp)
    have i1 : inB (t.length : Int) (-9223372036854775808) 9223372036854775807 = true := (in_iff _ _ _).2 ⟨by omega, by omega⟩
    have fl := footText_le v s b l os t.length
    have ro : roomy (t.length + (footText v s b l os t.length).length) 1 = true := by simp only [roomy, decide_eq_true_eq]; omega
    have ap : (rowsOfStr t).append (rowsOfStr (footText v s b l os t.length)) = rowsOfStr (t ++ footText v s b l os t.length) := by rw [List.append_eq, rowsStr_append]
    have tk2 : List.take (t.length + (footText v s b l os t.length).length) (rowsOfStr (t ++ footText v s b l os t.length)) = rowsOfStr (t ++ footText v s b l os t.length) := List.take_of_length_le (by rw [rows_length, List.length_append]; exact Nat.le_refl _)
    have o1 : os.length ≤ 1048576 := by omega
    have al : ((rowsOfStr (footText v s b l os t.length)).all fun r => decide (r.length = 1)) = true := by simp [rowsOfStr]
    simp only [List.length_map, eval_ask', eval_must', eval_ret', decide_eq_true_eq, c, if_false, hd, sealGo, tk, ints_map, rowsOk_ints, i1, rows_length, ro, ap, tk2, rows_bytes, str_rows, o1, al, decide_true, Bool.and_self, if_true]
  | succ f ih =>
    intro n i t os h1 h2 h3 h4
    obtain ⟨n, rfl⟩ : ∃ q, n = q + 1 := ⟨n - 1, by omega⟩
    rw [vLoop_L _ _ _ _ _ _ _ (by kernel_rfl), sSeal_round0]
    have hi : i < rs.length := by omega
    have c : (i : Int) < (rs.length : Int) := by omega
    have z : (0 : Int) ≤ (i : Int) := by omega
    have g := map_getD eStr rs [] i hi
    have hd := drop_cons rs i [] hi
    generalize rs.getD i [] = r at g hd
    have w : IntKind.i64.wrap ((i : Int) + 1) = ((i + 1 : Nat) : Int) := by rw [wrap64] <;> omega
    have w2 : IntKind.i64.wrap (b + (i : Int)) = b + i := by rw [wrap64] <;> omega
    have fl := frameText_len v (b + i) r
    have ro1 : roomy (os.length + 1) 8 = true := by simp only [roomy, decide_eq_true_eq]; omega
    have ro2 : roomy (t.length + (frameText v (b + i) r).length) 1 = true := by simp only [roomy, decide_eq_true_eq]; omega
    have ap : (rowsOfStr t).append (rowsOfStr (frameText v (b + i) r)) = rowsOfStr (t ++ frameText v (b + i) r) := by rw [List.append_eq, rowsStr_append]
    have ap2 : (os.map eInt).append [[C.int .i64 (t.length : Int)]] = (os ++ [(t.length : Int)]).map eInt := by simp
    have al : ((rowsOfStr (frameText v (b + i) r)).all fun r => decide (r.length = 1)) = true := by simp [rowsOfStr]
    have e := ih n (i + 1) (t ++ frameText v (b + i) r) (os ++ [(t.length : Int)]) (by omega) (by omega) (by simp; omega) (by simp only [List.length_append]; omega)
    rw [List.length_append, List.length_append] at e
    rw [hd]
    simp only [List.length_map, eval_ask', eval_must', eval_ret', decide_eq_true_eq, c, z, Int.toNat_natCast, g, w, w2, if_true, decide_true, Bool.and_true, Bool.true_and, Bool.and_self, List.length_cons, List.length_nil, C.is, List.getD_cons_zero, C.toStr, Nat.zero_add, Nat.zero_lt_one, rows_length, ro1, ro2, ap, ap2, al, sealGo]
    by_cases h60 : (60 : Int) < (r.length : Int)
    · have h60' : 60 < r.length := by omega
      simp only [h60, h60', if_true]
    · have h60' : ¬ 60 < r.length := by omega
      have hm : r.length ≤ 281474976710656 := by omega
      simp only [h60, h60', hm, if_false, if_true]
      exact e
theorem sSeal_E : EnvSound Try.prog E_sSeal := mkE_sound (by simp [sHeadOk_sound, sHeadText_sound, sFrameText_sound, sFoot_sound])
theorem sSeal_sound : Sound Try.prog 50 (⟨[pHead, pSlS], [rS], true⟩) sealSpec := vBody_sound sSeal_E noInl_ok Try.func50 (by kernel_rfl) fun cs outs hk h => by
  unfold sealSpec at h
  split at h
  · simp only [Option.some.injEq, Prod.mk.injEq, Bool.and_eq_true, decide_eq_true_eq] at h
    obtain ⟨⟨h1, h2⟩, rfl⟩ := h
    rename_i v s b l r
    rw [vBody_L, sSeal_tree]
    have hr := rows_strs h1
    generalize strs r = rs at hr ⊢
    subst hr
    rw [List.length_map] at h2 ⊢
    unfold sealText
    by_cases hh : headOk v s b l = true
    · obtain ⟨hv, hs, hb, hl⟩ := (headOk_iff v s b l).1 hh
      have w : IntKind.i64.wrap (b + (rs.length : Int)) = b + rs.length := by rw [wrap64] <;> omega
      have hh' : ¬ headOk v s b l = false := by rw [hh]; decide
      simp only [eval_ask', eval_ret', hh, if_true, w, decide_eq_true_eq]
      by_cases c1 : (1000 : Int) < (rs.length : Int)
      · rw [if_pos c1, if_pos (.inr (.inl (by omega)))]
      · by_cases c2 : (1000000000 : Int) < b + (rs.length : Int)
        · rw [if_neg c1, if_pos c2, if_pos (.inr (.inr c2))]
        · have hn : ¬ (true = false ∨ 1000 < rs.length ∨ 1000000000 < b + (rs.length : Int)) := by
            intro h
            rcases h with h | h | h
            · cases h
            · omega
            · omega
          rw [if_neg c1, if_neg c2, if_neg hn]
          have e := sSeal_loop v s b l rs hb (by omega) rs.length 9223372036854775808 0 (headText v s b l) [] (by omega) (by omega) rfl (by have := headText_le v s b l; omega)
          exact e
    · have hh' : headOk v s b l = false := by simpa using hh
      simp only [eval_ask', eval_ret', hh', Bool.false_eq_true, if_false]
      rw [if_pos (.inl trivial)]
  · cases h

end Go.Proofs.Ythpcgbnochcbcaa.V

namespace Go.Proofs.Ythpcgbnochcbcaa.V
noncomputable section

/-- a drawn head's fields, and the cursor behind it -/
def hdV (rows : List (List C)) (i h : Int) : Int := 1 + below rows i h 2
def hdS (rows : List (List C)) (i h : Int) : Int := 1 + below rows (belowI rows i 2) (belowH h 2) 4
def hdB (rows : List (List C)) (i h : Int) : Int := below rows (belowI rows (belowI rows i 2) 4) (belowH (belowH h 2) 4) 9
def hdL (rows : List (List C)) (i h : Int) : Int := below rows (belowI rows (belowI rows (belowI rows i 2) 4) 9) (belowH (belowH (belowH h 2) 4) 9) 1000000
def hdI (rows : List (List C)) (i : Int) : Int := belowI rows (belowI rows (belowI rows (belowI rows i 2) 4) 9) 1000000
def hdH (h : Int) : Int := belowH (belowH (belowH (belowH h 2) 4) 9) 1000000
def hdSpec : Spec := fun cs => match cs with
  | [.sl rows, .int .i64 i, .int .i64 h] => some (curOk rows i, [.int .i64 (hdV rows i h), .int .i64 (hdS rows i h), .int .i64 (hdB rows i h), .int .i64 (hdL rows i h), .sl rows, .int .i64 (hdI rows i), .int .i64 (hdH h)])
  | _ => none
def E_sHeadD : Env := mkE [] [(73, (⟨[pCur, pI], [rI], true⟩), belowSpec)]

def rcT (rows : List (List C)) (i h : Int) : List UInt8 :=
  if below rows i h 6 = 0 then [] else if below rows i h 6 = 1 then curText rows (textN (20 + below rows (belowI rows i 6) (belowH h 6) 41)) (belowI rows (belowI rows i 6) 41) (belowH (belowH h 6) 41) else dtT rows 12 (belowI rows i 6) (belowH h 6)
def rcI (rows : List (List C)) (i h : Int) : Int :=
  if below rows i h 6 = 0 then belowI rows i 6 else if below rows i h 6 = 1 then textI rows (textN (20 + below rows (belowI rows i 6) (belowH h 6) 41)) (belowI rows (belowI rows i 6) 41) else dtI rows 12 (belowI rows i 6) (belowH h 6)
def rcH (rows : List (List C)) (i h : Int) : Int :=
  if below rows i h 6 = 0 then belowH h 6 else if below rows i h 6 = 1 then textH (textN (20 + below rows (belowI rows i 6) (belowH h 6) 41)) (belowH (belowH h 6) 41) else dtH rows 12 (belowI rows i 6) (belowH h 6)
def rcSpec : Spec := fun cs => match cs with
  | [.sl rows, .int .i64 i, .int .i64 h] => some (curOk rows i, [.str (rcT rows i h), .sl rows, .int .i64 (rcI rows i h), .int .i64 (rcH rows i h)])
  | _ => none
def E_sRecordD : Env := mkE [] [(73, (⟨[pCur, pI], [rI], true⟩), belowSpec), (83, (⟨[pCur, pI], [rS], true⟩), textSpec)]

/-- drawn records, at most m: what has come, the cursor -/
def rsGo (rows : List (List C)) (m : Int) : Nat → Int → Int → Int → List (List UInt8) → List (List UInt8) × Int × Int
  | 0, _, i, h, l => (l, i, h)
  | f + 1, x, i, h, l => if x < below rows i h (m + 1) then rsGo rows m f (x + 1) (rcI rows (belowI rows i (m + 1)) (belowH h (m + 1))) (rcH rows (belowI rows i (m + 1)) (belowH h (m + 1))) (l ++ [rcT rows (belowI rows i (m + 1)) (belowH h (m + 1))]) else (l, belowI rows i (m + 1), belowH h (m + 1))
def rsL (rows : List (List C)) (i h m : Int) : List (List UInt8) := (rsGo rows m (m + 2).toNat 0 i h []).1
def rsI (rows : List (List C)) (i h m : Int) : Int := (rsGo rows m (m + 2).toNat 0 i h []).2.1
def rsH (rows : List (List C)) (i h m : Int) : Int := (rsGo rows m (m + 2).toNat 0 i h []).2.2
def rsSpec : Spec := fun cs => match cs with
  | [.sl rows, .int .i64 i, .int .i64 h, .int .i64 m] => some (curOk rows i && decide (0 ≤ m ∧ m ≤ 100), [.sl ((rsL rows i h m).map eStr), .sl rows, .int .i64 (rsI rows i h m), .int .i64 (rsH rows i h m)])
  | _ => none
def H_sRecordsD (r : List (List C)) (i h m : Int) (n : Nat) (o : List (List C)) (j : Int) : St := { slots := [(0, .l (.ptr 0 0)), (1, int64 m), (5, .l (.ref 1 0 n)), (6, int64 j)], heap := [(0, .box [.sl r, .i .i64 i, .i .i64 h]), (1, .arr 1 o)], next := 2, pins := [0] }
def E_sRecordsD : Env := mkE [(3, [0, 1, 5, 6])] [(73, (⟨[pCur, pI], [rI], true⟩), belowSpec), (94, (⟨[pCur], [rS], true⟩), rcSpec)]

def bnK (rows : List (List C)) (i h : Int) (t : List UInt8) : Int := below rows (belowI rows i 2) (belowH h 2) t.length
def bnI3 (rows : List (List C)) (i : Int) (t : List UInt8) : Int := belowI rows (belowI rows (belowI rows i 2) t.length) 4
def bnH3 (h : Int) (t : List UInt8) : Int := belowH (belowH (belowH h 2) t.length) 4
def bnC (rows : List (List C)) (i h : Int) (t : List UInt8) : Int := below rows (belowI rows (belowI rows i 2) t.length) (belowH (belowH h 2) t.length) 4
def bnN (rows : List (List C)) (i h : Int) (t : List UInt8) : Nat := textN (1 + below rows (bnI3 rows i t) (bnH3 h t) 4)
def bnB (rows : List (List C)) (i h : Int) (t : List UInt8) : List UInt8 := strOfRows [[C.int .u8 (ixor .u8 ((t.getD (bnK rows i h t).toNat 0).toNat : Int) (ishl .u8 1 (IntKind.u64.wrap (below rows (bnI3 rows i t) (bnH3 h t) 8))))]]
def bnT (rows : List (List C)) (i h : Int) (t : List UInt8) : List UInt8 :=
  if t = [] then t else if below rows i h 2 = 0 then t
  else if bnC rows i h t = 0 then t.take (bnK rows i h t).toNat
  else if bnC rows i h t = 1 then t.take (bnK rows i h t).toNat ++ t.drop (bnK rows i h t + 1).toNat
  else if bnC rows i h t = 2 then t ++ curText rows (bnN rows i h t) (belowI rows (bnI3 rows i t) 4) (belowH (bnH3 h t) 4)
  else t.take (bnK rows i h t).toNat ++ bnB rows i h t ++ t.drop (bnK rows i h t + 1).toNat
def bnI (rows : List (List C)) (i h : Int) (t : List UInt8) : Int :=
  if t = [] then i else if below rows i h 2 = 0 then belowI rows i 2
  else if bnC rows i h t = 0 then bnI3 rows i t
  else if bnC rows i h t = 1 then bnI3 rows i t
  else if bnC rows i h t = 2 then textI rows (bnN rows i h t) (belowI rows (bnI3 rows i t) 4)
  else belowI rows (bnI3 rows i t) 8
def bnH (rows : List (List C)) (i h : Int) (t : List UInt8) : Int :=
  if t = [] then h else if below rows i h 2 = 0 then belowH h 2
  else if bnC rows i h t = 0 then bnH3 h t
  else if bnC rows i h t = 1 then bnH3 h t
  else if bnC rows i h t = 2 then textH (bnN rows i h t) (belowH (bnH3 h t) 4)
  else belowH (bnH3 h t) 8
def bnSpec : Spec := fun cs => match cs with
  | [.sl rows, .int .i64 i, .int .i64 h, .str t] => some (curOk rows i && decide (t.length ≤ 1048576), [.str (bnT rows i h t), .sl rows, .int .i64 (bnI rows i h t), .int .i64 (bnH rows i h t)])
  | _ => none
def E_sBentD : Env := mkE [] [(73, (⟨[pCur, pI], [rI], true⟩), belowSpec), (96, (⟨[pCur, pI], [rB], true⟩), onceSpec), (83, (⟨[pCur, pI], [rS], true⟩), textSpec)]

def framesGo (v b : Int) : Int → List (List UInt8) → List UInt8 → List UInt8
  | _, [], t => t
  | i, r :: rs, t => framesGo v b (i + 1) rs (t ++ frameText v (b + i) r)
def framesText (v s b l : Int) (rs : List (List UInt8)) : List UInt8 := framesGo v b 0 rs (headText v s b l)
def shortOk (rows : List (List C)) : Bool := (strs rows).all fun x => decide (x.length ≤ 281474976710656)
def framesSpec : Spec := fun cs => match cs with
  | [.int .i64 v, .int .i64 s, .int .i64 b, .int .i64 l, .sl r] => some (rowsOk [.str] r && (decide (r.length ≤ 1048576) && (inB b 0 1000000000 && shortOk r)), [.str (framesText v s b l (strs r))])
  | _ => none
def H_sFrames (v s b l : Int) (r : List (List C)) (t : List UInt8) (j : Int) : St := { slots := [(1, .l (.sl r)), (2, .l (.ptr 0 0)), (5, wstr t), (6, int64 j)], heap := [(0, .box [.i .i64 v, .i .i64 s, .i .i64 b, .i .i64 l])], next := 1, pins := [] }
def E_sFrames : Env := mkE [(3, [1, 2, 5, 6])] [(35, (sg [pHead] [rS]), headTextSpec), (90, (sg [pI, pI, pS] [rS]), frameSpec)]

/-- a drawn file's bytes; the cursor behind them -/
def flR (rows : List (List C)) (i h : Int) : List (List UInt8) := rsL rows (hdI rows i) (hdH h) 6
def flI (rows : List (List C)) (i h : Int) : Int := rsI rows (hdI rows i) (hdH h) 6
def flH (rows : List (List C)) (i h : Int) : Int := rsH rows (hdI rows i) (hdH h) 6
def flX (rows : List (List C)) (i h : Int) : List UInt8 := if below rows (flI rows i h) (flH rows i h) 2 = 0 then sealText (hdV rows i h) (hdS rows i h) (hdB rows i h) (hdL rows i h) (flR rows i h) else framesText (hdV rows i h) (hdS rows i h) (hdB rows i h) (hdL rows i h) (flR rows i h)
def fileT (rows : List (List C)) (i h : Int) : List UInt8 := bnT rows (belowI rows (flI rows i h) 2) (belowH (flH rows i h) 2) (flX rows i h)
def fileI (rows : List (List C)) (i h : Int) : Int := bnI rows (belowI rows (flI rows i h) 2) (belowH (flH rows i h) 2) (flX rows i h)
def fileH (rows : List (List C)) (i h : Int) : Int := bnH rows (belowI rows (flI rows i h) 2) (belowH (flH rows i h) 2) (flX rows i h)
def fileSpec : Spec := fun cs => match cs with
  | [.sl rows, .int .i64 i, .int .i64 h] => some (curOk rows i, [.str (fileT rows i h), .sl rows, .int .i64 (fileI rows i h), .int .i64 (fileH rows i h)])
  | _ => none
def E_sFile : Env := mkE [] [(96, (⟨[pCur, pI], [rB], true⟩), onceSpec), (50, (⟨[pHead, pSlS], [rS], true⟩), sealSpec), (82, (⟨[pCur], [rHead], true⟩), hdSpec), (58, (⟨[pCur, pI], [rSl 9], true⟩), rsSpec), (81, (⟨[pCur, pS], [rS], true⟩), bnSpec), (104, (⟨[pHead, pSlS], [rS], true⟩), framesSpec)]

end
end Go.Proofs.Ythpcgbnochcbcaa.V

namespace Go.Proofs.Ythpcgbnochcbcaa.V
set_option maxRecDepth 100000
theorem sHeadD_tree (H : List Pt → Nat → St → T (List C)) (r : List (List C)) (i : Int) (h : Int) : (vBodyL E_sHeadD noInl { params := [pCur], results := [rHead], nested := true } Try.f82 H
  [C.sl r, C.int IntKind.i64 i, C.int IntKind.i64 h]).eval =
 ((.must (curOk r i)
 (.must (curOk r (belowI r i (2 : Int)))
  (.must (curOk r (belowI r (belowI r i (2 : Int)) (4 : Int)))
   (.must (curOk r (belowI r (belowI r (belowI r i (2 : Int)) (4 : Int)) (9 : Int)))
    (.ret [C.int IntKind.i64 (IntKind.i64.wrap ((1 : Int) + below r i h (2 : Int))),
  C.int IntKind.i64 (IntKind.i64.wrap ((1 : Int) + below r (belowI r i (2 : Int)) (belowH h (2 : Int)) (4 : Int))),
  C.int IntKind.i64
    (below r (belowI r (belowI r i (2 : Int)) (4 : Int)) (belowH (belowH h (2 : Int)) (4 : Int)) (9 : Int)),
  C.int IntKind.i64
    (below r (belowI r (belowI r (belowI r i (2 : Int)) (4 : Int)) (9 : Int))
      (belowH (belowH (belowH h (2 : Int)) (4 : Int)) (9 : Int)) (1000000 : Int)),
  C.sl r, C.int IntKind.i64 (belowI r (belowI r (belowI r (belowI r i (2 : Int)) (4 : Int)) (9 : Int)) (1000000 : Int)),
  C.int IntKind.i64 (belowH (belowH (belowH (belowH h (2 : Int)) (4 : Int)) (9 : Int)) (1000000 : Int))]))))) : T (List C)).eval := evalEq (by kernel_rfl)
theorem sRecordD_tree (H : List Pt → Nat → St → T (List C)) (r : List (List C)) (i : Int) (h : Int) : (vBodyL E_sRecordD noInl { params := [pCur], results := [rS], nested := true } Try.f94 H
  [C.sl r, C.int IntKind.i64 i, C.int IntKind.i64 h]).eval =
 ((.must (curOk r i)
 (.ask (decide (below r i h (6 : Int) = (0 : Int)))
  (.ret [C.str [], C.sl r, C.int IntKind.i64 (belowI r i (6 : Int)), C.int IntKind.i64 (belowH h (6 : Int))])
  (.ask (decide (below r i h (6 : Int) = (1 : Int)))
   (.must (curOk r (belowI r i (6 : Int)))
    (.must (curOk r (belowI r (belowI r i (6 : Int)) (41 : Int)))
     (.ret [C.str
    (curText r (textN (IntKind.i64.wrap ((20 : Int) + below r (belowI r i (6 : Int)) (belowH h (6 : Int)) (41 : Int))))
      (belowI r (belowI r i (6 : Int)) (41 : Int)) (belowH (belowH h (6 : Int)) (41 : Int))),
  C.sl r,
  C.int IntKind.i64
    (textI r (textN (IntKind.i64.wrap ((20 : Int) + below r (belowI r i (6 : Int)) (belowH h (6 : Int)) (41 : Int))))
      (belowI r (belowI r i (6 : Int)) (41 : Int))),
  C.int IntKind.i64
    (textH (textN (IntKind.i64.wrap ((20 : Int) + below r (belowI r i (6 : Int)) (belowH h (6 : Int)) (41 : Int))))
      (belowH (belowH h (6 : Int)) (41 : Int)))])))
   (.must (curOk r (belowI r i (6 : Int)))
    (.must (curOk r (belowI r (belowI r i (6 : Int)) (12 : Int)))
     (.ret [C.str
    (curText r (textN (below r (belowI r i (6 : Int)) (belowH h (6 : Int)) (12 : Int)))
      (belowI r (belowI r i (6 : Int)) (12 : Int)) (belowH (belowH h (6 : Int)) (12 : Int))),
  C.sl r,
  C.int IntKind.i64
    (textI r (textN (below r (belowI r i (6 : Int)) (belowH h (6 : Int)) (12 : Int)))
      (belowI r (belowI r i (6 : Int)) (12 : Int))),
  C.int IntKind.i64
    (textH (textN (below r (belowI r i (6 : Int)) (belowH h (6 : Int)) (12 : Int)))
      (belowH (belowH h (6 : Int)) (12 : Int)))])))))) : T (List C)).eval := evalEq (by kernel_rfl)
theorem sRecordsD_tree (H : List Pt → Nat → St → T (List C)) (r : List (List C)) (i : Int) (h : Int) (m : Int) : (vBodyL E_sRecordsD noInl { params := [pCur, pI], results := [rSl (9 : TypeId)], nested := true } Try.f58 H
  [C.sl r, C.int IntKind.i64 i, C.int IntKind.i64 h, C.int IntKind.i64 m]).eval =
 ((H [Pt.r, Pt.r, Pt.l, Pt.r, Pt.b] (9223372036854775808 : Nat) (H_sRecordsD (r) (i) (h) (m) ((0 : Nat)) ([]) ((0 : Int)))) : T (List C)).eval := evalEq (by kernel_rfl)
theorem sRecordsD_round0 (H : List Pt → Nat → St → T (List C)) (r : List (List C)) (i : Int) (h : Int) (m : Int) (n : Nat) (o : List (List C)) (j : Int) (k : Nat) : (vRound E_sRecordsD noInl { params := [pCur, pI], results := [rSl (9 : TypeId)], nested := true } Try.f58 H
  [Pt.r, Pt.r, Pt.l, Pt.r, Pt.b] k (H_sRecordsD r i h m n o j)).eval =
 ((.must (curOk r i)
 (.ask (decide (j < below r i h (IntKind.i64.wrap (m + (1 : Int)))))
  (.must (curOk r (belowI r i (IntKind.i64.wrap (m + (1 : Int)))))
   (.must (decide (n = o.length) && roomy (o.length + (1 : Nat)) (16 : Nat) && (decide ((1 : Nat) = (1 : Nat)) && true))
    (H [Pt.r, Pt.r, Pt.l, Pt.r, Pt.b] k (H_sRecordsD (r) (rcI r (belowI r i (IntKind.i64.wrap (m + (1 : Int)))) (belowH h (IntKind.i64.wrap (m + (1 : Int))))) (rcH r (belowI r i (IntKind.i64.wrap (m + (1 : Int)))) (belowH h (IntKind.i64.wrap (m + (1 : Int))))) (m) (o.length + (1 : Nat)) (o.append [[C.str (rcT r (belowI r i (IntKind.i64.wrap (m + (1 : Int)))) (belowH h (IntKind.i64.wrap (m + (1 : Int)))))]]) (IntKind.i64.wrap (j + (1 : Int)))))))
  (.must (decide (n = o.length) && (true || o.all fun r => r.all C.flat) && true && true &&
  (true && (true || (C.sl r).flat) && (true && (true || true) && (true && (true || true) && true)) && true))
   (.ret [C.sl o, C.sl r, C.int IntKind.i64 (belowI r i (IntKind.i64.wrap (m + (1 : Int)))),
  C.int IntKind.i64 (belowH h (IntKind.i64.wrap (m + (1 : Int))))])))) : T (List C)).eval := evalEq (by kernel_rfl)
theorem sBentD_tree (H : List Pt → Nat → St → T (List C)) (r : List (List C)) (i : Int) (h : Int) (t : List UInt8) : (vBodyL E_sBentD noInl { params := [pCur, pS], results := [rS], nested := true } Try.f81 H
  [C.sl r, C.int IntKind.i64 i, C.int IntKind.i64 h, C.str t]).eval =
 ((.ask (t == [])
 (.ret [C.str t, C.sl r, C.int IntKind.i64 i, C.int IntKind.i64 h])
 (.must (curOk r i)
  (.ask (decide (below r i h (2 : Int) = (0 : Int)))
   (.ret [C.str t, C.sl r, C.int IntKind.i64 (belowI r i (2 : Int)), C.int IntKind.i64 (belowH h (2 : Int))])
   (.must (curOk r (belowI r i (2 : Int)))
    (.must (curOk r (belowI r (belowI r i (2 : Int)) (↑t.length : Int)))
     (.ask (decide
  (below r (belowI r (belowI r i (2 : Int)) (↑t.length : Int)) (belowH (belowH h (2 : Int)) (↑t.length : Int))
      (4 : Int) =
    (0 : Int)))
      (.must (decide ((0 : Int) ≤ below r (belowI r i (2 : Int)) (belowH h (2 : Int)) (↑t.length : Int)) &&
  decide (below r (belowI r i (2 : Int)) (belowH h (2 : Int)) (↑t.length : Int) ≤ (↑t.length : Int)))
       (.ret [C.str
    (List.drop (0 : Nat) (List.take (below r (belowI r i (2 : Int)) (belowH h (2 : Int)) (↑t.length : Int)).toNat t)),
  C.sl r, C.int IntKind.i64 (belowI r (belowI r (belowI r i (2 : Int)) (↑t.length : Int)) (4 : Int)),
  C.int IntKind.i64 (belowH (belowH (belowH h (2 : Int)) (↑t.length : Int)) (4 : Int))]))
      (.ask (decide
  (below r (belowI r (belowI r i (2 : Int)) (↑t.length : Int)) (belowH (belowH h (2 : Int)) (↑t.length : Int))
      (4 : Int) =
    (1 : Int)))
       (.must (decide ((0 : Int) ≤ below r (belowI r i (2 : Int)) (belowH h (2 : Int)) (↑t.length : Int)) &&
  decide (below r (belowI r i (2 : Int)) (belowH h (2 : Int)) (↑t.length : Int) ≤ (↑t.length : Int)))
        (.must (decide
    ((0 : Int) ≤
      IntKind.i64.wrap (below r (belowI r i (2 : Int)) (belowH h (2 : Int)) (↑t.length : Int) + (1 : Int))) &&
  decide
    (IntKind.i64.wrap (below r (belowI r i (2 : Int)) (belowH h (2 : Int)) (↑t.length : Int) + (1 : Int)) ≤
      (↑t.length : Int)))
         (.must (decide
  ((List.drop (0 : Nat)
          (List.take (below r (belowI r i (2 : Int)) (belowH h (2 : Int)) (↑t.length : Int)).toNat t)).length +
      (List.drop
          (IntKind.i64.wrap (below r (belowI r i (2 : Int)) (belowH h (2 : Int)) (↑t.length : Int) + (1 : Int))).toNat
          (List.take t.length t)).length ≤
    (9223372036854775807 : Nat)))
          (.ret [C.str
    (List.drop (0 : Nat) (List.take (below r (belowI r i (2 : Int)) (belowH h (2 : Int)) (↑t.length : Int)).toNat t) ++
      List.drop
        (IntKind.i64.wrap (below r (belowI r i (2 : Int)) (belowH h (2 : Int)) (↑t.length : Int) + (1 : Int))).toNat
        (List.take t.length t)),
  C.sl r, C.int IntKind.i64 (belowI r (belowI r (belowI r i (2 : Int)) (↑t.length : Int)) (4 : Int)),
  C.int IntKind.i64 (belowH (belowH (belowH h (2 : Int)) (↑t.length : Int)) (4 : Int))]))))
       (.ask (decide
  (below r (belowI r (belowI r i (2 : Int)) (↑t.length : Int)) (belowH (belowH h (2 : Int)) (↑t.length : Int))
      (4 : Int) =
    (2 : Int)))
        (.must (curOk r (belowI r (belowI r (belowI r i (2 : Int)) (↑t.length : Int)) (4 : Int)))
         (.must (curOk r (belowI r (belowI r (belowI r (belowI r i (2 : Int)) (↑t.length : Int)) (4 : Int)) (4 : Int)))
          (.must (decide
  (t.length +
      (curText r
          (textN
            (IntKind.i64.wrap
              ((1 : Int) +
                below r (belowI r (belowI r (belowI r i (2 : Int)) (↑t.length : Int)) (4 : Int))
                  (belowH (belowH (belowH h (2 : Int)) (↑t.length : Int)) (4 : Int)) (4 : Int))))
          (belowI r (belowI r (belowI r (belowI r i (2 : Int)) (↑t.length : Int)) (4 : Int)) (4 : Int))
          (belowH (belowH (belowH (belowH h (2 : Int)) (↑t.length : Int)) (4 : Int)) (4 : Int))).length ≤
    (9223372036854775807 : Nat)))
           (.ret [C.str
    (t ++
      curText r
        (textN
          (IntKind.i64.wrap
            ((1 : Int) +
              below r (belowI r (belowI r (belowI r i (2 : Int)) (↑t.length : Int)) (4 : Int))
                (belowH (belowH (belowH h (2 : Int)) (↑t.length : Int)) (4 : Int)) (4 : Int))))
        (belowI r (belowI r (belowI r (belowI r i (2 : Int)) (↑t.length : Int)) (4 : Int)) (4 : Int))
        (belowH (belowH (belowH (belowH h (2 : Int)) (↑t.length : Int)) (4 : Int)) (4 : Int))),
  C.sl r,
  C.int IntKind.i64
    (textI r
      (textN
        (IntKind.i64.wrap
          ((1 : Int) +
            below r (belowI r (belowI r (belowI r i (2 : Int)) (↑t.length : Int)) (4 : Int))
              (belowH (belowH (belowH h (2 : Int)) (↑t.length : Int)) (4 : Int)) (4 : Int))))
      (belowI r (belowI r (belowI r (belowI r i (2 : Int)) (↑t.length : Int)) (4 : Int)) (4 : Int))),
  C.int IntKind.i64
    (textH
      (textN
        (IntKind.i64.wrap
          ((1 : Int) +
            below r (belowI r (belowI r (belowI r i (2 : Int)) (↑t.length : Int)) (4 : Int))
              (belowH (belowH (belowH h (2 : Int)) (↑t.length : Int)) (4 : Int)) (4 : Int))))
      (belowH (belowH (belowH (belowH h (2 : Int)) (↑t.length : Int)) (4 : Int)) (4 : Int)))]))))
        (.must (decide ((0 : Int) ≤ below r (belowI r i (2 : Int)) (belowH h (2 : Int)) (↑t.length : Int)) &&
  decide (below r (belowI r i (2 : Int)) (belowH h (2 : Int)) (↑t.length : Int) ≤ (↑t.length : Int)))
         (.must (decide ((0 : Int) ≤ below r (belowI r i (2 : Int)) (belowH h (2 : Int)) (↑t.length : Int)) &&
  decide (below r (belowI r i (2 : Int)) (belowH h (2 : Int)) (↑t.length : Int) < (↑t.length : Int)))
          (.must (curOk r (belowI r (belowI r (belowI r i (2 : Int)) (↑t.length : Int)) (4 : Int)))
           (.must (decide
  ((0 : Int) ≤
    IntKind.u64.wrap
      (below r (belowI r (belowI r (belowI r i (2 : Int)) (↑t.length : Int)) (4 : Int))
        (belowH (belowH (belowH h (2 : Int)) (↑t.length : Int)) (4 : Int)) (8 : Int))))
            (.must (decide
  ((List.drop (0 : Nat)
          (List.take (below r (belowI r i (2 : Int)) (belowH h (2 : Int)) (↑t.length : Int)).toNat t)).length +
      (strOfRows
          [[C.int IntKind.u8
                (ixor IntKind.u8
                  (↑(t.getD (below r (belowI r i (2 : Int)) (belowH h (2 : Int)) (↑t.length : Int)).toNat
                          (0 : UInt8)).toNat :
                    Int)
                  (ishl IntKind.u8 (1 : Int)
                    (IntKind.u64.wrap
                      (below r (belowI r (belowI r (belowI r i (2 : Int)) (↑t.length : Int)) (4 : Int))
                        (belowH (belowH (belowH h (2 : Int)) (↑t.length : Int)) (4 : Int)) (8 : Int)))))]]).length ≤
    (9223372036854775807 : Nat)))
             (.must (decide
    ((0 : Int) ≤
      IntKind.i64.wrap (below r (belowI r i (2 : Int)) (belowH h (2 : Int)) (↑t.length : Int) + (1 : Int))) &&
  decide
    (IntKind.i64.wrap (below r (belowI r i (2 : Int)) (belowH h (2 : Int)) (↑t.length : Int) + (1 : Int)) ≤
      (↑t.length : Int)))
              (.must (decide
  ((List.drop (0 : Nat) (List.take (below r (belowI r i (2 : Int)) (belowH h (2 : Int)) (↑t.length : Int)).toNat t) ++
          strOfRows
            [[C.int IntKind.u8
                  (ixor IntKind.u8
                    (↑(t.getD (below r (belowI r i (2 : Int)) (belowH h (2 : Int)) (↑t.length : Int)).toNat
                            (0 : UInt8)).toNat :
                      Int)
                    (ishl IntKind.u8 (1 : Int)
                      (IntKind.u64.wrap
                        (below r (belowI r (belowI r (belowI r i (2 : Int)) (↑t.length : Int)) (4 : Int))
                          (belowH (belowH (belowH h (2 : Int)) (↑t.length : Int)) (4 : Int)) (8 : Int)))))]]).length +
      (List.drop
          (IntKind.i64.wrap (below r (belowI r i (2 : Int)) (belowH h (2 : Int)) (↑t.length : Int) + (1 : Int))).toNat
          (List.take t.length t)).length ≤
    (9223372036854775807 : Nat)))
               (.ret [C.str
    (List.drop (0 : Nat) (List.take (below r (belowI r i (2 : Int)) (belowH h (2 : Int)) (↑t.length : Int)).toNat t) ++
        strOfRows
          [[C.int IntKind.u8
                (ixor IntKind.u8
                  (↑(t.getD (below r (belowI r i (2 : Int)) (belowH h (2 : Int)) (↑t.length : Int)).toNat
                          (0 : UInt8)).toNat :
                    Int)
                  (ishl IntKind.u8 (1 : Int)
                    (IntKind.u64.wrap
                      (below r (belowI r (belowI r (belowI r i (2 : Int)) (↑t.length : Int)) (4 : Int))
                        (belowH (belowH (belowH h (2 : Int)) (↑t.length : Int)) (4 : Int)) (8 : Int)))))]] ++
      List.drop
        (IntKind.i64.wrap (below r (belowI r i (2 : Int)) (belowH h (2 : Int)) (↑t.length : Int) + (1 : Int))).toNat
        (List.take t.length t)),
  C.sl r,
  C.int IntKind.i64 (belowI r (belowI r (belowI r (belowI r i (2 : Int)) (↑t.length : Int)) (4 : Int)) (8 : Int)),
  C.int IntKind.i64 (belowH (belowH (belowH (belowH h (2 : Int)) (↑t.length : Int)) (4 : Int)) (8 : Int))])))))))))))))))) : T (List C)).eval := evalEq (by kernel_rfl)
theorem sFrames_tree (H : List Pt → Nat → St → T (List C)) (v : Int) (s : Int) (b : Int) (l : Int) (r : List (List C)) : (vBodyL E_sFrames noInl { params := [pHead, pSlS], results := [rS], nested := true } Try.f104 H
  [C.int IntKind.i64 v, C.int IntKind.i64 s, C.int IntKind.i64 b, C.int IntKind.i64 l, C.sl r]).eval =
 ((H [Pt.r, Pt.r, Pt.l, Pt.r, Pt.b] (9223372036854775808 : Nat) (H_sFrames (v) (s) (b) (l) (r) (headText v s b l) ((0 : Int)))) : T (List C)).eval := evalEq (by kernel_rfl)
theorem sFrames_round0 (H : List Pt → Nat → St → T (List C)) (v : Int) (s : Int) (b : Int) (l : Int) (r : List (List C)) (t : List UInt8) (j : Int) (k : Nat) : (vRound E_sFrames noInl { params := [pHead, pSlS], results := [rS], nested := true } Try.f104 H
  [Pt.r, Pt.r, Pt.l, Pt.r, Pt.b] k (H_sFrames v s b l r t j)).eval =
 ((.ask (decide (j < (↑r.length : Int)))
 (.must (decide ((0 : Int) ≤ j) && decide (j < (↑r.length : Int)) && decide ((r.getD j.toNat []).length = (1 : Nat)))
  (.must (decide ((0 : Nat) < (r.getD j.toNat []).length) &&
    C.is K.str ((r.getD j.toNat []).getD (0 : Nat) (C.fn (0 : FuncId) [])) &&
  true)
   (.must (decide (((r.getD j.toNat []).getD (0 : Nat) (C.fn (0 : FuncId) [])).toStr.length ≤ (281474976710656 : Nat)))
    (.must (decide
  (t.length +
      (frameText v (IntKind.i64.wrap (b + j))
          ((r.getD j.toNat []).getD (0 : Nat) (C.fn (0 : FuncId) [])).toStr).length ≤
    (9223372036854775807 : Nat)))
     (H [Pt.r, Pt.r, Pt.l, Pt.r, Pt.b] k (H_sFrames (v) (s) (b) (l) (r) (t ++ frameText v (IntKind.i64.wrap (b + j)) ((r.getD j.toNat []).getD (0 : Nat) (C.fn (0 : FuncId) [])).toStr) (IntKind.i64.wrap (j + (1 : Int)))))))))
 (.ret [C.str t])) : T (List C)).eval := evalEq (by kernel_rfl)
theorem sFile_tree (H : List Pt → Nat → St → T (List C)) (r : List (List C)) (i : Int) (h : Int) : (vBodyL E_sFile noInl { params := [pCur], results := [rS], nested := true } Try.f87 H
  [C.sl r, C.int IntKind.i64 i, C.int IntKind.i64 h]).eval =
 ((.must (curOk r i)
 (.must (curOk r (hdI r i) && decide ((0 : Int) ≤ (6 : Int) ∧ (6 : Int) ≤ (100 : Int)))
  (.must ((true && (List.map eStr (rsL r (hdI r i) (hdH h) (6 : Int))).all fun row => decide (row.length = (1 : Nat))) && true &&
    true &&
  (decide ((0 : Nat) < ((Nat.add (1 : Nat) (0 : Nat)).succ.add (0 : Nat)).succ) && true &&
      (decide ((0 : Nat) + (1 : Nat) < ((Nat.add (1 : Nat) (0 : Nat)).succ.add (0 : Nat)).succ) && true &&
        (decide ((0 : Nat) + (1 : Nat) + (1 : Nat) < ((Nat.add (1 : Nat) (0 : Nat)).succ.add (0 : Nat)).succ) &&
            true &&
          true)) &&
    true))
   (.must (curOk r (rsI r (hdI r i) (hdH h) (6 : Int)))
    (.ask (decide (below r (rsI r (hdI r i) (hdH h) (6 : Int)) (rsH r (hdI r i) (hdH h) (6 : Int)) (2 : Int) = (0 : Int)))
     (.must (rowsOk [K.str]
    (List.take (List.map eStr (rsL r (hdI r i) (hdH h) (6 : Int))).length
      (List.map eStr (rsL r (hdI r i) (hdH h) (6 : Int)))) &&
  decide
    ((List.take (List.map eStr (rsL r (hdI r i) (hdH h) (6 : Int))).length
          (List.map eStr (rsL r (hdI r i) (hdH h) (6 : Int)))).length ≤
      (1048576 : Nat)))
      (.must (curOk r (belowI r (rsI r (hdI r i) (hdH h) (6 : Int)) (2 : Int)) &&
  decide
    ((sealText (hdV r i h) (hdS r i h) (hdB r i h) (hdL r i h)
          (strs
            (List.take (List.map eStr (rsL r (hdI r i) (hdH h) (6 : Int))).length
              (List.map eStr (rsL r (hdI r i) (hdH h) (6 : Int)))))).length ≤
      (1048576 : Nat)))
       (.ret [C.str
    (bnT r (belowI r (rsI r (hdI r i) (hdH h) (6 : Int)) (2 : Int))
      (belowH (rsH r (hdI r i) (hdH h) (6 : Int)) (2 : Int))
      (sealText (hdV r i h) (hdS r i h) (hdB r i h) (hdL r i h)
        (strs
          (List.take (List.map eStr (rsL r (hdI r i) (hdH h) (6 : Int))).length
            (List.map eStr (rsL r (hdI r i) (hdH h) (6 : Int))))))),
  C.sl r,
  C.int IntKind.i64
    (bnI r (belowI r (rsI r (hdI r i) (hdH h) (6 : Int)) (2 : Int))
      (belowH (rsH r (hdI r i) (hdH h) (6 : Int)) (2 : Int))
      (sealText (hdV r i h) (hdS r i h) (hdB r i h) (hdL r i h)
        (strs
          (List.take (List.map eStr (rsL r (hdI r i) (hdH h) (6 : Int))).length
            (List.map eStr (rsL r (hdI r i) (hdH h) (6 : Int))))))),
  C.int IntKind.i64
    (bnH r (belowI r (rsI r (hdI r i) (hdH h) (6 : Int)) (2 : Int))
      (belowH (rsH r (hdI r i) (hdH h) (6 : Int)) (2 : Int))
      (sealText (hdV r i h) (hdS r i h) (hdB r i h) (hdL r i h)
        (strs
          (List.take (List.map eStr (rsL r (hdI r i) (hdH h) (6 : Int))).length
            (List.map eStr (rsL r (hdI r i) (hdH h) (6 : Int)))))))])))
     (.must (rowsOk [K.str]
    (List.take (List.map eStr (rsL r (hdI r i) (hdH h) (6 : Int))).length
      (List.map eStr (rsL r (hdI r i) (hdH h) (6 : Int)))) &&
  (decide
      ((List.take (List.map eStr (rsL r (hdI r i) (hdH h) (6 : Int))).length
            (List.map eStr (rsL r (hdI r i) (hdH h) (6 : Int)))).length ≤
        (1048576 : Nat)) &&
    (inB (hdB r i h) (0 : Int) (1000000000 : Int) &&
      shortOk
        (List.take (List.map eStr (rsL r (hdI r i) (hdH h) (6 : Int))).length
          (List.map eStr (rsL r (hdI r i) (hdH h) (6 : Int)))))))
      (.must (curOk r (belowI r (rsI r (hdI r i) (hdH h) (6 : Int)) (2 : Int)) &&
  decide
    ((framesText (hdV r i h) (hdS r i h) (hdB r i h) (hdL r i h)
          (strs
            (List.take (List.map eStr (rsL r (hdI r i) (hdH h) (6 : Int))).length
              (List.map eStr (rsL r (hdI r i) (hdH h) (6 : Int)))))).length ≤
      (1048576 : Nat)))
       (.ret [C.str
    (bnT r (belowI r (rsI r (hdI r i) (hdH h) (6 : Int)) (2 : Int))
      (belowH (rsH r (hdI r i) (hdH h) (6 : Int)) (2 : Int))
      (framesText (hdV r i h) (hdS r i h) (hdB r i h) (hdL r i h)
        (strs
          (List.take (List.map eStr (rsL r (hdI r i) (hdH h) (6 : Int))).length
            (List.map eStr (rsL r (hdI r i) (hdH h) (6 : Int))))))),
  C.sl r,
  C.int IntKind.i64
    (bnI r (belowI r (rsI r (hdI r i) (hdH h) (6 : Int)) (2 : Int))
      (belowH (rsH r (hdI r i) (hdH h) (6 : Int)) (2 : Int))
      (framesText (hdV r i h) (hdS r i h) (hdB r i h) (hdL r i h)
        (strs
          (List.take (List.map eStr (rsL r (hdI r i) (hdH h) (6 : Int))).length
            (List.map eStr (rsL r (hdI r i) (hdH h) (6 : Int))))))),
  C.int IntKind.i64
    (bnH r (belowI r (rsI r (hdI r i) (hdH h) (6 : Int)) (2 : Int))
      (belowH (rsH r (hdI r i) (hdH h) (6 : Int)) (2 : Int))
      (framesText (hdV r i h) (hdS r i h) (hdB r i h) (hdL r i h)
        (strs
          (List.take (List.map eStr (rsL r (hdI r i) (hdH h) (6 : Int))).length
            (List.map eStr (rsL r (hdI r i) (hdH h) (6 : Int)))))))])))))))) : T (List C)).eval := evalEq (by kernel_rfl)
end Go.Proofs.Ythpcgbnochcbcaa.V

namespace Go.Proofs.Ythpcgbnochcbcaa.V

theorem hdI_ok (rows : List (List C)) (i : Int) (h : curOk rows i = true) : curOk rows (hdI rows i) = true :=
  belowI_ok _ _ _ (belowI_ok _ _ _ (belowI_ok _ _ _ (belowI_ok _ _ _ h)))
theorem hd_range (rows : List (List C)) (i h : Int) : (1 ≤ hdV rows i h ∧ hdV rows i h ≤ 2) ∧ (1 ≤ hdS rows i h ∧ hdS rows i h ≤ 4) ∧ (0 ≤ hdB rows i h ∧ hdB rows i h ≤ 8) ∧ (0 ≤ hdL rows i h ∧ hdL rows i h ≤ 999999) := by
  have b1 := below_range rows i h 2 (by omega)
  have b2 := below_range rows (belowI rows i 2) (belowH h 2) 4 (by omega)
  have b3 := below_range rows (belowI rows (belowI rows i 2) 4) (belowH (belowH h 2) 4) 9 (by omega)
  have b4 := below_range rows (belowI rows (belowI rows (belowI rows i 2) 4) 9) (belowH (belowH (belowH h 2) 4) 9) 1000000 (by omega)
  unfold hdV hdS hdB hdL
  omega
theorem sHeadD_E : EnvSound Try.prog E_sHeadD := mkE_sound (by simp [sBelow_sound])
theorem sHeadD_sound : Sound Try.prog 82 (⟨[pCur], [rHead], true⟩) hdSpec := vBody_sound sHeadD_E noInl_ok Try.func82 (by kernel_rfl) fun cs outs hk h => by
  unfold hdSpec at h
  split at h
  · simp only [Option.some.injEq, Prod.mk.injEq] at h
    obtain ⟨h1, rfl⟩ := h
    rename_i rows i hh
    rw [vBody_L, sHeadD_tree]
    have o1 := belowI_ok rows i 2 h1
    have o2 := belowI_ok rows _ 4 o1
    have o3 := belowI_ok rows _ 9 o2
    have b1 := below_range rows i hh 2 (by omega)
    have b2 := below_range rows (belowI rows i 2) (belowH hh 2) 4 (by omega)
    have w1 : IntKind.i64.wrap (1 + below rows i hh 2) = 1 + below rows i hh 2 := by rw [wrap64] <;> omega
    have w2 : IntKind.i64.wrap (1 + below rows (belowI rows i 2) (belowH hh 2) 4) = 1 + below rows (belowI rows i 2) (belowH hh 2) 4 := by rw [wrap64] <;> omega
    simp only [eval_must', eval_ret', h1, o1, o2, o3, w1, w2, if_true]
    rfl
  · cases h

theorem rcI_ok (rows : List (List C)) (i h : Int) (ho : curOk rows i = true) : curOk rows (rcI rows i h) = true := by
  unfold rcI
  split
  · exact belowI_ok _ _ _ ho
  · split
    · exact textI_ok _ _ _ (belowI_ok _ _ _ (belowI_ok _ _ _ ho))
    · exact dtI_ok _ _ _ _ (belowI_ok _ _ _ ho)
theorem rcT_len (rows : List (List C)) (i h : Int) : (rcT rows i h).length ≤ 60 := by
  unfold rcT
  split
  · simp
  · split
    · rw [curText_len]
      have := below_range rows (belowI rows i 6) (belowH h 6) 41 (by omega)
      unfold textN; split <;> omega
    · have := dtT_len rows 12 (belowI rows i 6) (belowH h 6) (by omega) (by omega)
      omega
theorem sRecordD_E : EnvSound Try.prog E_sRecordD := mkE_sound (by simp [sBelow_sound, sText_sound])
theorem sRecordD_sound : Sound Try.prog 94 (⟨[pCur], [rS], true⟩) rcSpec := vBody_sound sRecordD_E noInl_ok Try.func94 (by kernel_rfl) fun cs outs hk h => by
  unfold rcSpec at h
  split at h
  · simp only [Option.some.injEq, Prod.mk.injEq] at h
    obtain ⟨h1, rfl⟩ := h
    rename_i rows i hh
    rw [vBody_L, sRecordD_tree]
    have o1 := belowI_ok rows i 6 h1
    have o2 := belowI_ok rows _ 41 o1
    have o3 := belowI_ok rows _ 12 o1
    have b2 := below_range rows (belowI rows i 6) (belowH hh 6) 41 (by omega)
    have w2 : IntKind.i64.wrap (20 + below rows (belowI rows i 6) (belowH hh 6) 41) = 20 + below rows (belowI rows i 6) (belowH hh 6) 41 := by rw [wrap64] <;> omega
    unfold rcT rcI rcH dtT dtI dtH
    by_cases p0 : below rows i hh 6 = 0
    · simp only [eval_must', eval_ask', eval_ret', h1, p0, decide_true, if_true]
    · by_cases p1 : below rows i hh 6 = 1
      · have p2 : ¬ ((1 : Int) = 0) := by decide
        simp only [eval_must', eval_ask', eval_ret', h1, o1, o2, p1, p2, w2, decide_true, decide_false, Bool.false_eq_true, if_true, if_false]
      · simp only [eval_must', eval_ask', eval_ret', h1, o1, o3, p0, p1, decide_false, Bool.false_eq_true, if_true, if_false]
  · cases h

theorem rsGo_ok (rows : List (List C)) (m : Int) : ∀ (f : Nat) (j i h : Int) (l : List (List UInt8)), curOk rows i = true → curOk rows (rsGo rows m f j i h l).2.1 = true
  | 0, _, _, _, _, ho => ho
  | f + 1, j, i, h, l, ho => by
    unfold rsGo
    split
    · exact rsGo_ok rows m f _ _ _ _ (rcI_ok _ _ _ (belowI_ok _ _ _ ho))
    · exact belowI_ok _ _ _ ho
theorem rsGo_short (rows : List (List C)) (m : Int) : ∀ (f : Nat) (j i h : Int) (l : List (List UInt8)), (∀ r, r ∈ l → r.length ≤ 60) → (l.length : Int) ≤ j → j ≤ m + 1 → (∀ r, r ∈ (rsGo rows m f j i h l).1 → r.length ≤ 60) ∧ ((rsGo rows m f j i h l).1.length : Int) ≤ m + 1
  | 0, _, _, _, l, h1, h2, h3 => ⟨h1, by show (l.length : Int) ≤ m + 1; omega⟩
  | f + 1, j, i, h, l, h1, h2, h3 => by
    unfold rsGo
    split
    · rename_i hj
      by_cases hm : 0 < m + 1
      · have b := below_range rows i h (m + 1) hm
        refine rsGo_short rows m f _ _ _ _ (fun r hr => ?_) (by simp; omega) (by omega)
        rcases List.mem_append.1 hr with hr | hr
        · exact h1 r hr
        · have : r = rcT rows (belowI rows i (m + 1)) (belowH h (m + 1)) := by simpa using hr
          rw [this]; exact rcT_len _ _ _
      · have : below rows i h (m + 1) = 0 := by unfold below; rw [if_pos (by omega)]
        omega
    · exact ⟨h1, by show (l.length : Int) ≤ _; omega⟩
theorem rsI_ok (rows : List (List C)) (i h m : Int) (ho : curOk rows i = true) : curOk rows (rsI rows i h m) = true := rsGo_ok rows m _ _ _ _ _ ho
theorem rsL_len (rows : List (List C)) (i h m : Int) (hm : 0 ≤ m) : ((rsL rows i h m).length : Int) ≤ m + 1 := (rsGo_short rows m _ 0 i h [] (by simp) (by simp) (by omega)).2
theorem rsL_short (rows : List (List C)) (i h m : Int) (hm : 0 ≤ m) : ∀ r, r ∈ rsL rows i h m → r.length ≤ 60 := (rsGo_short rows m _ 0 i h [] (by simp) (by simp) (by omega)).1
theorem sRecordsD_loop (rows : List (List C)) (m : Int) (hm : 0 ≤ m ∧ m ≤ 100) : ∀ (f n : Nat) (j i h : Int) (l : List (List UInt8)), curOk rows i = true → j + f = m + 2 → j ≤ m + 1 → f ≤ n → (l.length : Int) ≤ j →
    (vLoop E_sRecordsD noInl (⟨[pCur, pI], [rSl 9], true⟩) Try.f58 [.r, .r, .l, .r, .b] n (H_sRecordsD rows i h m l.length (l.map eStr) j)).eval = some [.sl ((rsGo rows m f j i h l).1.map eStr), .sl rows, .int .i64 (rsGo rows m f j i h l).2.1, .int .i64 (rsGo rows m f j i h l).2.2] := by
  intro f
  induction f with
  | zero => intro n j i h l ho h1 h2 h3 h4; omega
  | succ f ih =>
    intro n j i h l ho h1 h2 h3 h4
    obtain ⟨n, rfl⟩ : ∃ q, n = q + 1 := ⟨n - 1, by omega⟩
    rw [vLoop_L _ _ _ _ _ _ _ (by kernel_rfl), sRecordsD_round0]
    have w : IntKind.i64.wrap (m + 1) = m + 1 := by rw [wrap64] <;> omega
    have w2 : IntKind.i64.wrap (j + 1) = j + 1 := by rw [wrap64] <;> omega
    have o1 := belowI_ok rows i (m + 1) ho
    have b := below_range rows i h (m + 1) (by omega)
    have ro : roomy (l.length + 1) 16 = true := by simp only [roomy, decide_eq_true_eq]; omega
    have ap : ∀ x : List UInt8, (l.map eStr).append [[C.str x]] = (l ++ [x]).map eStr := fun x => by simp
    simp only [eval_must', eval_ask', eval_ret', ho, o1, w, w2, ro, ap, List.length_map, decide_eq_true_eq, decide_true, Bool.true_or, Bool.and_true, Bool.true_and, Bool.and_self, if_true]
    unfold rsGo
    by_cases c : j < below rows i h (m + 1)
    · have e := ih n (j + 1) (rcI rows (belowI rows i (m + 1)) (belowH h (m + 1))) (rcH rows (belowI rows i (m + 1)) (belowH h (m + 1))) (l ++ [rcT rows (belowI rows i (m + 1)) (belowH h (m + 1))]) (rcI_ok _ _ _ o1) (by omega) (by omega) (by omega) (by simp; omega)
      rw [List.length_append] at e
      rw [if_pos c, if_pos c]
      exact e
    · rw [if_neg c, if_neg c]
theorem sRecordsD_E : EnvSound Try.prog E_sRecordsD := mkE_sound (by simp [sBelow_sound, sRecordD_sound])
theorem sRecordsD_sound : Sound Try.prog 58 (⟨[pCur, pI], [rSl 9], true⟩) rsSpec := vBody_sound sRecordsD_E noInl_ok Try.func58 (by kernel_rfl) fun cs outs hk h => by
  unfold rsSpec at h
  split at h
  · simp only [Option.some.injEq, Prod.mk.injEq, Bool.and_eq_true, decide_eq_true_eq] at h
    obtain ⟨⟨h1, h2⟩, rfl⟩ := h
    rename_i rows i hh m
    rw [vBody_L, sRecordsD_tree]
    exact sRecordsD_loop rows m h2 (m + 2).toNat 9223372036854775808 0 i hh [] h1 (by omega) (by omega) (by omega) (by simp)
  · cases h

theorem bnI_ok (rows : List (List C)) (i h : Int) (t : List UInt8) (ho : curOk rows i = true) : curOk rows (bnI rows i h t) = true := by
  have o3 : curOk rows (bnI3 rows i t) = true := belowI_ok _ _ _ (belowI_ok _ _ _ (belowI_ok _ _ _ ho))
  unfold bnI
  repeat' split
  · exact ho
  · exact belowI_ok _ _ _ ho
  · exact o3
  · exact o3
  · exact textI_ok _ _ _ (belowI_ok _ _ _ o3)
  · exact belowI_ok _ _ _ o3
theorem bnT_len (rows : List (List C)) (i h : Int) (t : List UInt8) : (bnT rows i h t).length ≤ t.length + 5 := by
  unfold bnT
  repeat' split
  · omega
  · omega
  · simp only [List.length_take]; omega
  · rename_i ht _ _ _
    have bk := below_range rows (belowI rows i 2) (belowH h 2) t.length (by have := List.length_pos_iff.2 ht; omega)
    simp only [List.length_append, List.length_take, List.length_drop, bnK]; omega
  · have b := below_range rows (bnI3 rows i t) (bnH3 h t) 4 (by omega)
    rw [List.length_append, curText_len]
    unfold bnN textN
    split <;> omega
  · rename_i ht _ _ _ _
    have bk := below_range rows (belowI rows i 2) (belowH h 2) t.length (by have := List.length_pos_iff.2 ht; omega)
    have e : (bnB rows i h t).length = 1 := rfl
    simp only [List.length_append, List.length_take, List.length_drop, e, bnK]; omega
theorem u64_pos (x : Int) (h1 : 0 ≤ x) (h2 : x < 256) : 0 ≤ IntKind.u64.wrap x := by
  simp only [IntKind.wrap, IntKind.bits, IntKind.signed]
  simp
  omega
theorem sBentD_E : EnvSound Try.prog E_sBentD := mkE_sound (by simp [sBelow_sound, sOnce_sound, sText_sound])
theorem sBentD_sound : Sound Try.prog 81 (⟨[pCur, pS], [rS], true⟩) bnSpec := vBody_sound sBentD_E noInl_ok Try.func81 (by kernel_rfl) fun cs outs hk h => by
  unfold bnSpec at h
  split at h
  · simp only [Option.some.injEq, Prod.mk.injEq, Bool.and_eq_true, decide_eq_true_eq] at h
    obtain ⟨⟨h1, h2⟩, rfl⟩ := h
    rename_i rows i hh t
    rw [vBody_L, sBentD_tree]
    have o1 := belowI_ok rows i 2 h1
    have o2 := belowI_ok rows _ t.length o1
    have o3 := belowI_ok rows _ 4 o2
    have o4 := belowI_ok rows _ 4 o3
    by_cases ht : t = []
    · subst ht; simp [eval_ask', eval_ret', bnT, bnI, bnH]
    · have hl : 0 < t.length := List.length_pos_iff.2 ht
      have bk := below_range rows (belowI rows i 2) (belowH hh 2) t.length (by omega)
      have b4 := below_range rows (bnI3 rows i t) (bnH3 hh t) 4 (by omega)
      have b8 := below_range rows (bnI3 rows i t) (bnH3 hh t) 8 (by omega)
      by_cases p : below rows i hh 2 = 0
      · simp [eval_ask', eval_must', eval_ret', ht, p, h1, bnT, bnI, bnH]
      · have w1 : IntKind.i64.wrap (bnK rows i hh t + 1) = bnK rows i hh t + 1 := by unfold bnK; rw [wrap64] <;> omega
        have w4 : IntKind.i64.wrap (1 + below rows (bnI3 rows i t) (bnH3 hh t) 4) = 1 + below rows (bnI3 rows i t) (bnH3 hh t) 4 := by rw [wrap64] <;> omega
        have u8 := u64_pos _ b8.1 (by omega)
        have ek : below rows (belowI rows i 2) (belowH hh 2) (t.length : Int) = bnK rows i hh t := rfl
        have ei : belowI rows (belowI rows (belowI rows i 2) (t.length : Int)) 4 = bnI3 rows i t := rfl
        have eh : belowH (belowH (belowH hh 2) (t.length : Int)) 4 = bnH3 hh t := rfl
        have ec : below rows (belowI rows (belowI rows i 2) (t.length : Int)) (belowH (belowH hh 2) (t.length : Int)) 4 = bnC rows i hh t := rfl
        rw [ei] at o3 o4
        rw [ek] at bk
        have en : textN (1 + below rows (bnI3 rows i t) (bnH3 hh t) 4) = bnN rows i hh t := rfl
        have eb : strOfRows [[C.int .u8 (ixor .u8 ((t.getD (bnK rows i hh t).toNat 0).toNat : Int) (ishl .u8 1 (IntKind.u64.wrap (below rows (bnI3 rows i t) (bnH3 hh t) 8))))]] = bnB rows i hh t := rfl
        have lb : (bnB rows i hh t).length = 1 := rfl
        have lc : (curText rows (bnN rows i hh t) (belowI rows (bnI3 rows i t) 4) (belowH (bnH3 hh t) 4)).length ≤ 5000 := by rw [curText_len]; unfold bnN textN; split <;> omega
        have tb : (t == []) = false := by simpa using ht
        have q1 : bnK rows i hh t ≤ (t.length : Int) := by omega
        have q2 : 0 ≤ bnK rows i hh t + 1 := by omega
        have q3 : bnK rows i hh t + 1 ≤ (t.length : Int) := by omega
        have l1 : (t.take (bnK rows i hh t).toNat).length + (t.drop (bnK rows i hh t + 1).toNat).length ≤ 9223372036854775807 := by simp only [List.length_take, List.length_drop]; omega
        have l2 : (t.take (bnK rows i hh t).toNat).length + (bnB rows i hh t).length ≤ 9223372036854775807 := by simp only [List.length_take, lb]; omega
        have l3 : (t.take (bnK rows i hh t).toNat).length + (bnB rows i hh t).length + (t.drop (bnK rows i hh t + 1).toNat).length ≤ 9223372036854775807 := by simp only [List.length_take, List.length_drop, lb]; omega
        have l4 : t.length + (curText rows (bnN rows i hh t) (belowI rows (bnI3 rows i t) 4) (belowH (bnH3 hh t) 4)).length ≤ 9223372036854775807 := by omega
        simp only [eval_ask', eval_must', eval_ret', tb, ek, ei, eh, ec, w1, w4, en, eb, h1, o1, o2, o3, o4, p, u8, bk.1, bk.2, q1, q2, q3, l1, l2, l3, l4, List.take_length, List.drop_zero, List.length_append, decide_true, decide_false, Bool.and_self, Bool.false_eq_true, if_true, if_false, decide_eq_true_eq]
        unfold bnT bnI bnH
        rw [if_neg ht, if_neg ht, if_neg ht, if_neg p, if_neg p, if_neg p]
        by_cases c0 : bnC rows i hh t = 0
        · simp only [c0, if_true]
        · by_cases c1 : bnC rows i hh t = 1
          · rw [if_neg c0, if_neg c0, if_neg c0, if_neg c0, if_pos c1, if_pos c1, if_pos c1, if_pos c1]
          · by_cases c2 : bnC rows i hh t = 2
            · rw [if_neg c0, if_neg c0, if_neg c0, if_neg c0, if_neg c1, if_neg c1, if_neg c1, if_neg c1, if_pos c2, if_pos c2, if_pos c2, if_pos c2]
            · rw [if_neg c0, if_neg c0, if_neg c0, if_neg c0, if_neg c1, if_neg c1, if_neg c1, if_neg c1, if_neg c2, if_neg c2, if_neg c2, if_neg c2]
  · cases h

theorem shortOk_map (l : List (List UInt8)) : shortOk (l.map eStr) = true ↔ ∀ x, x ∈ l → x.length ≤ 281474976710656 := by
  simp only [shortOk, strs_map, List.all_eq_true, decide_eq_true_eq]
theorem framesGo_len (v b : Int) : ∀ (rs : List (List UInt8)) (i : Int) (t : List UInt8), (framesGo v b i rs t).length ≤ t.length + 90 * rs.length
  | [], i, t => by simp [framesGo]
  | r :: rs, i, t => by
    unfold framesGo
    have := framesGo_len v b rs (i + 1) (t ++ frameText v (b + i) r)
    have h1 := frameText_len v (b + i) r
    simp only [List.length_append, List.length_cons] at this ⊢
    omega
theorem framesText_le (v s b l : Int) (rs : List (List UInt8)) : (framesText v s b l rs).length ≤ 60 + 90 * rs.length := by
  unfold framesText
  have := framesGo_len v b rs 0 (headText v s b l)
  have := headText_le v s b l
  omega
theorem sFrames_loop (v s b l : Int) (rs : List (List UInt8)) (hb : 0 ≤ b ∧ b ≤ 1000000000) (hl : rs.length ≤ 1048576) (hr : ∀ r, r ∈ rs → r.length ≤ 281474976710656) : ∀ (f n i : Nat) (t : List UInt8), i + f = rs.length → f < n → t.length ≤ 60 + 90 * i →
    (vLoop E_sFrames noInl (⟨[pHead, pSlS], [rS], true⟩) Try.f104 [.r, .r, .l, .r, .b] n (H_sFrames v s b l (rs.map eStr) t i)).eval = some [.str (framesGo v b i (rs.drop i) t)] := by
  intro f
  induction f with
  | zero =>
    intro n i t h1 h2 h3
    obtain ⟨n, rfl⟩ : ∃ q, n = q + 1 := ⟨n - 1, by omega⟩
    rw [vLoop_L _ _ _ _ _ _ _ (by kernel_rfl), sFrames_round0]
    have c : ¬ ((i : Int) < (rs.length : Int)) := by omega
    have hd : rs.drop i = [] := List.drop_eq_nil_of_le (by omega)
    simp only [List.length_map, eval_ask', eval_ret', decide_eq_true_eq, c, if_false, hd, framesGo]
  | succ f ih =>
    intro n i t h1 h2 h3
    obtain ⟨n, rfl⟩ : ∃ q, n = q + 1 := ⟨n - 1, by omega⟩
    rw [vLoop_L _ _ _ _ _ _ _ (by kernel_rfl), sFrames_round0]
    have hi : i < rs.length := by omega
    have c : (i : Int) < (rs.length : Int) := by omega
    have z : (0 : Int) ≤ (i : Int) := by omega
    have g := map_getD eStr rs [] i hi
    have hd := drop_cons rs i [] hi
    have hm : (rs.getD i []).length ≤ 281474976710656 := hr _ (by simp [List.getD_eq_getElem?_getD, hi])
    generalize rs.getD i [] = r at g hd hm
    have w : IntKind.i64.wrap ((i : Int) + 1) = ((i + 1 : Nat) : Int) := by rw [wrap64] <;> omega
    have w2 : IntKind.i64.wrap (b + (i : Int)) = b + i := by rw [wrap64] <;> omega
    have fl := frameText_len v (b + i) r
    have m1 : t.length + (frameText v (b + i) r).length ≤ 9223372036854775807 := by omega
    have e := ih n (i + 1) (t ++ frameText v (b + i) r) (by omega) (by omega) (by simp only [List.length_append]; omega)
    rw [hd]
    simp only [List.length_map, eval_ask', eval_must', eval_ret', decide_eq_true_eq, c, z, Int.toNat_natCast, g, w, w2, if_true, decide_true, Bool.and_true, Bool.true_and, Bool.and_self, List.length_cons, List.length_nil, C.is, List.getD_cons_zero, C.toStr, Nat.zero_add, Nat.zero_lt_one, hm, m1, framesGo]
    exact e
theorem sFrames_E : EnvSound Try.prog E_sFrames := mkE_sound (by simp [sHeadText_sound, sFrameText_sound])
theorem sFrames_sound : Sound Try.prog 104 (⟨[pHead, pSlS], [rS], true⟩) framesSpec := vBody_sound sFrames_E noInl_ok Try.func104 (by kernel_rfl) fun cs outs hk h => by
  unfold framesSpec at h
  split at h
  · simp only [Option.some.injEq, Prod.mk.injEq, Bool.and_eq_true, decide_eq_true_eq, in_iff] at h
    obtain ⟨⟨h1, h2, h3⟩, rfl⟩ := h
    rename_i v s b l r
    rw [vBody_L, sFrames_tree]
    have hr := rows_strs h1
    generalize strs r = rs at hr ⊢
    subst hr
    rw [List.length_map] at h2
    have h4 := (shortOk_map rs).1 h3.2
    exact sFrames_loop v s b l rs h3.1 h2 h4 rs.length 9223372036854775808 0 (headText v s b l) (by omega) (by omega) (by have := headText_le v s b l; omega)
  · cases h

theorem flX_le (rows : List (List C)) (i h : Int) : (flX rows i h).length ≤ 120000 := by
  unfold flX
  split
  · exact sealText_le _ _ _ _ _
  · have h1 := framesText_le (hdV rows i h) (hdS rows i h) (hdB rows i h) (hdL rows i h) (flR rows i h)
    have h2 := rsL_len rows (hdI rows i) (hdH h) 6 (by omega)
    unfold flR at h1
    unfold flR
    omega
theorem fileT_le (rows : List (List C)) (i h : Int) : (fileT rows i h).length ≤ 120005 := by
  have h1 := bnT_len rows (belowI rows (flI rows i h) 2) (belowH (flH rows i h) 2) (flX rows i h)
  have h2 := flX_le rows i h
  unfold fileT
  omega
theorem fileI_ok (rows : List (List C)) (i h : Int) (ho : curOk rows i = true) : curOk rows (fileI rows i h) = true :=
  bnI_ok _ _ _ _ (belowI_ok _ _ _ (rsI_ok _ _ _ _ (hdI_ok _ _ ho)))
theorem sFile_E : EnvSound Try.prog E_sFile := mkE_sound (by simp [sOnce_sound, sSeal_sound, sHeadD_sound, sRecordsD_sound, sBentD_sound, sFrames_sound])
theorem sFile_sound : Sound Try.prog 87 (⟨[pCur], [rS], true⟩) fileSpec := vBody_sound sFile_E noInl_ok Try.func87 (by kernel_rfl) fun cs outs hk h => by
  unfold fileSpec at h
  split at h
  · simp only [Option.some.injEq, Prod.mk.injEq] at h
    obtain ⟨h1, rfl⟩ := h
    rename_i rows i hh
    rw [vBody_L, sFile_tree]
    have o1 := hdI_ok rows i h1
    have o2 := rsI_ok rows (hdI rows i) (hdH hh) 6 o1
    have o3 := belowI_ok rows _ 2 o2
    have ll := rsL_len rows (hdI rows i) (hdH hh) 6 (by omega)
    have l1 : (rsL rows (hdI rows i) (hdH hh) 6).length ≤ 1048576 := by omega
    have tk : List.take (rsL rows (hdI rows i) (hdH hh) 6).length (List.map eStr (rsL rows (hdI rows i) (hdH hh) 6)) = List.map eStr (rsL rows (hdI rows i) (hdH hh) 6) := List.take_of_length_le (by simp)
    have so : shortOk (List.map eStr (rsL rows (hdI rows i) (hdH hh) 6)) = true := (shortOk_map _).2 fun x hx => by have := rsL_short rows (hdI rows i) (hdH hh) 6 (by omega) x hx; omega
    have hr := hd_range rows i hh
    have ib : inB (hdB rows i hh) 0 1000000000 = true := (in_iff _ _ _).2 ⟨by omega, by omega⟩
    have s1 := sealText_le (hdV rows i hh) (hdS rows i hh) (hdB rows i hh) (hdL rows i hh) (rsL rows (hdI rows i) (hdH hh) 6)
    have s2 := framesText_le (hdV rows i hh) (hdS rows i hh) (hdB rows i hh) (hdL rows i hh) (rsL rows (hdI rows i) (hdH hh) 6)
    have s3 : (sealText (hdV rows i hh) (hdS rows i hh) (hdB rows i hh) (hdL rows i hh) (rsL rows (hdI rows i) (hdH hh) 6)).length ≤ 1048576 := by omega
    have s4 : (framesText (hdV rows i hh) (hdS rows i hh) (hdB rows i hh) (hdL rows i hh) (rsL rows (hdI rows i) (hdH hh) 6)).length ≤ 1048576 := by omega
    have al : ((List.map eStr (rsL rows (hdI rows i) (hdH hh) 6)).all fun row => decide (row.length = 1)) = true := by simp
    have d6 : decide ((0 : Int) ≤ 6 ∧ (6 : Int) ≤ 100) = true := by decide
    unfold fileT fileI fileH flX flR flI flH
    simp only [eval_ask', eval_must', eval_ret', h1, o1, o2, o3, List.length_map, l1, tk, so, ib, s3, s4, al, d6, rowsOk_strs, strs_map, decide_true, Bool.and_self, Bool.true_and, Bool.and_true, if_true, Nat.zero_add, decide_eq_true_eq]
    by_cases c : below rows (rsI rows (hdI rows i) (hdH hh) 6) (rsH rows (hdI rows i) (hdH hh) 6) 2 = 0
    · simp only [c, if_true]; rfl
    · simp only [c, if_false]; rfl
  · cases h

end Go.Proofs.Ythpcgbnochcbcaa.V

namespace Go.Proofs.Ythpcgbnochcbcaa.V
noncomputable section

def haK (rows : List (List C)) (i h : Int) : Int := below rows (hdI rows i) (hdH h) 12
def haI0 (rows : List (List C)) (i : Int) : Int := belowI rows (hdI rows i) 12
def haH0 (h : Int) : Int := belowH (hdH h) 12
def haV (rows : List (List C)) (i h : Int) : Int := if haK rows i h = 0 then ([0, 3, 1, -1] : List Int).getD (below rows (haI0 rows i) (haH0 h) 4).toNat 0 else hdV rows i h
def haS (rows : List (List C)) (i h : Int) : Int := if haK rows i h = 1 then ([0, 20, 21, -1] : List Int).getD (below rows (haI0 rows i) (haH0 h) 4).toNat 0 else hdS rows i h
def haB (rows : List (List C)) (i h : Int) : Int := if haK rows i h = 2 then ([-1, 1000000000, 1000000001] : List Int).getD (below rows (haI0 rows i) (haH0 h) 3).toNat 0 else hdB rows i h
def haL (rows : List (List C)) (i h : Int) : Int := if haK rows i h = 3 then ([-1, 4294967295, 4294967296] : List Int).getD (below rows (haI0 rows i) (haH0 h) 3).toNat 0 else hdL rows i h
def haI (rows : List (List C)) (i h : Int) : Int := if haK rows i h = 0 ∨ haK rows i h = 1 then belowI rows (haI0 rows i) 4 else if haK rows i h = 2 ∨ haK rows i h = 3 then belowI rows (haI0 rows i) 3 else haI0 rows i
def haH (rows : List (List C)) (i h : Int) : Int := if haK rows i h = 0 ∨ haK rows i h = 1 then belowH (haH0 h) 4 else if haK rows i h = 2 ∨ haK rows i h = 3 then belowH (haH0 h) 3 else haH0 h
def haSpec : Spec := fun cs => match cs with
  | [.sl rows, .int .i64 i, .int .i64 h] => some (curOk rows i, [.int .i64 (haV rows i h), .int .i64 (haS rows i h), .int .i64 (haB rows i h), .int .i64 (haL rows i h), .sl rows, .int .i64 (haI rows i h), .int .i64 (haH rows i h)])
  | _ => none
def E_sAnyD : Env := mkE [] [(73, (⟨[pCur, pI], [rI], true⟩), belowSpec), (59, (⟨[pCur, pSl 3], [rI], true⟩), pickSpec), (82, (⟨[pCur], [rHead], true⟩), hdSpec)]

def drawHeadSpec : Spec := fun cs => match cs with
  | [.sl rows] => some (curOk rows 0, [.int .i64 (haV rows 0 (newH rows)), .int .i64 (haS rows 0 (newH rows)), .int .i64 (haB rows 0 (newH rows)), .int .i64 (haL rows 0 (newH rows))])
  | _ => none
def E_sDrawHeadText : Env := mkD [] [(76, (⟨[pCur], [rHead], true⟩), haSpec)]

def drhT (rows : List (List C)) : List UInt8 := bnT rows (dtI rows 3 (hdI rows 0) (hdH (newH rows))) (dtH rows 3 (hdI rows 0) (hdH (newH rows))) (headText (hdV rows 0 (newH rows)) (hdS rows 0 (newH rows)) (hdB rows 0 (newH rows)) (hdL rows 0 (newH rows)) ++ dtT rows 3 (hdI rows 0) (hdH (newH rows)))
def drawReadHeadSpec : Spec := fun cs => match cs with
  | [.sl rows] => some (curOk rows 0, [.str (drhT rows)])
  | _ => none
def E_sDrawReadHead : Env := mkD [] [(73, (⟨[pCur, pI], [rI], true⟩), belowSpec), (83, (⟨[pCur, pI], [rS], true⟩), textSpec), (35, (sg [pHead] [rS]), headTextSpec), (82, (⟨[pCur], [rHead], true⟩), hdSpec), (81, (⟨[pCur, pS], [rS], true⟩), bnSpec)]

def dpI (rows : List (List C)) : Nat → Int
  | 0 => 0
  | n + 1 => belowI rows (dpI rows n) 10000
def dpH (rows : List (List C)) : Nat → Int
  | 0 => newH rows
  | n + 1 => belowH (dpH rows n) 10000
def dpAt (rows : List (List C)) (n : Nat) : Int := below rows (dpI rows n) (dpH rows n) 10000
def dpL (rows : List (List C)) (n : Nat) : List Int := (List.range n).map (dpAt rows)
def drawPlacesSpec : Spec := fun cs => match cs with
  | [.sl rows] => some (curOk rows 0, [.sl ((dpL rows 12).map eInt)])
  | _ => none
def H_sDrawPlaces (r : List (List C)) (i h : Int) (n : Nat) (o : List (List C)) (j : Int) : St := { slots := [(3, .l (.ptr 0 0)), (4, .l (.ref 1 0 n)), (5, int64 j)], heap := [(0, .box [.sl r, .i .i64 i, .i .i64 h]), (1, .arr 1 o)], next := 2, pins := [] }
def E_sDrawPlaces : Env := mkD [(4, [3, 4, 5])] [(73, (⟨[pCur, pI], [rI], true⟩), belowSpec)]

def vsN (rows : List (List C)) (i h : Int) : Int := ([1, 2, 1, 2, 1, 2, 0, 3] : List Int).getD (below rows i h 8).toNat 0
def vsSpec : Spec := fun cs => match cs with
  | [.sl rows, .int .i64 i, .int .i64 h] => some (curOk rows i, [.int .i64 (vsN rows i h), .sl rows, .int .i64 (belowI rows i 8), .int .i64 (belowH h 8)])
  | _ => none
def E_sVersionD : Env := mkE [] [(59, (⟨[pCur, pSl 3], [rI], true⟩), pickSpec)]

def longSpec : Spec := fun cs => match cs with
  | [.int .i64 n, .int .u8 x] => some (decide (0 ≤ n ∧ n ≤ 100000) && inB x 0 255, [.str (List.replicate n.toNat (UInt8.ofNat x.toNat))])
  | _ => none
def H_sLong (n x : Int) (q : Nat) (o : List (List C)) (j : Int) : St := { slots := [(0, int64 n), (1, .l (.i .u8 x)), (5, .l (.ref 0 0 q)), (6, int64 j)], heap := [(0, .arr 1 o)], next := 1, pins := [] }
def E_sLong : Env := mkE [(3, [0, 1, 5, 6])] []

def r9T (rows : List (List C)) (i h : Int) : List UInt8 := if below rows i h 12 = 0 then List.replicate (60 + below rows (belowI rows i 12) (belowH h 12) 2).toNat 5 else rcT rows (belowI rows i 12) (belowH h 12)
def r9I (rows : List (List C)) (i h : Int) : Int := if below rows i h 12 = 0 then belowI rows (belowI rows i 12) 2 else rcI rows (belowI rows i 12) (belowH h 12)
def r9H (rows : List (List C)) (i h : Int) : Int := if below rows i h 12 = 0 then belowH (belowH h 12) 2 else rcH rows (belowI rows i 12) (belowH h 12)
def r9Spec : Spec := fun cs => match cs with
  | [.sl rows, .int .i64 i, .int .i64 h] => some (curOk rows i, [.str (r9T rows i h), .sl rows, .int .i64 (r9I rows i h), .int .i64 (r9H rows i h)])
  | _ => none
def E_sRecord9D : Env := mkE [] [(73, (⟨[pCur, pI], [rI], true⟩), belowSpec), (96, (⟨[pCur, pI], [rB], true⟩), onceSpec), (94, (⟨[pCur], [rS], true⟩), rcSpec), (97, (sg [pI, pU8] [rS]), longSpec)]

def dfP (rows : List (List C)) : Int := ([0, 1, 7, 1000000000, 1000000001, -1] : List Int).getD (below rows (belowI rows 0 8) (belowH (newH rows) 8) 6).toNat 0
def dfR (rows : List (List C)) : List UInt8 := r9T rows (belowI rows (belowI rows 0 8) 6) (belowH (belowH (newH rows) 8) 6)
def drawFrameSpec : Spec := fun cs => match cs with
  | [.sl rows] => some (curOk rows 0, [.int .i64 (vsN rows 0 (newH rows)), .int .i64 (dfP rows), .str (dfR rows)])
  | _ => none
def E_sDrawFrameText : Env := mkD [] [(59, (⟨[pCur, pSl 3], [rI], true⟩), pickSpec), (64, (⟨[pCur], [rI], true⟩), vsSpec), (65, (⟨[pCur], [rS], true⟩), r9Spec)]

def manySpec : Spec := fun cs => match cs with
  | [.int .i64 n] => some (decide (0 ≤ n ∧ n ≤ 100000), [.str (List.replicate n.toNat 113)])
  | _ => none
def H_lMany (n : Int) (q : Nat) (o : List (List C)) (j : Int) : St := { slots := [(0, int64 n), (3, .l (.ref 0 0 q)), (4, int64 j)], heap := [(0, .arr 1 o)], next := 1, pins := [] }
def E_lMany : Env := mkE [(3, [0, 3, 4])] []

def dhB (rows : List (List C)) : List UInt8 := fileT rows 0 (newH rows)
def dhI0 (rows : List (List C)) : Int := fileI rows 0 (newH rows)
def dhH0 (rows : List (List C)) : Int := fileH rows 0 (newH rows)
def dhN (rows : List (List C)) : Int := IntKind.i64.wrap (((dhB rows).length : Int) + 1)
def dhX (rows : List (List C)) : Int := ([0, 23, 24, 30, below rows (dhI0 rows) (dhH0 rows) (dhN rows), -1] : List Int).getD (below rows (belowI rows (dhI0 rows) (dhN rows)) (belowH (dhH0 rows) (dhN rows)) 6).toNat 0
def dhY (rows : List (List C)) : Int := ([IntKind.i64.wrap (dhX rows + 1), IntKind.i64.wrap (dhX rows + 4), dhX rows, ((dhB rows).length : Int), IntKind.i64.wrap (dhX rows - 1)] : List Int).getD (below rows (belowI rows (belowI rows (dhI0 rows) (dhN rows)) 6) (belowH (belowH (dhH0 rows) (dhN rows)) 6) 5).toNat 0
def drawHitSpec : Spec := fun cs => match cs with
  | [.sl rows] => some (curOk rows 0, [.str (dhB rows), .int .i64 (dhX rows), .int .i64 (dhY rows)])
  | _ => none
def E_sDrawFirstHit : Env := mkD [] [(73, (⟨[pCur, pI], [rI], true⟩), belowSpec), (59, (⟨[pCur, pSl 3], [rI], true⟩), pickSpec), (87, (⟨[pCur], [rS], true⟩), fileSpec)]

def E_sDrawHeadHit : Env := mkE [] [(48, (⟨[pCode], [rS, rI, rI], true⟩), drawHitSpec)]

def E_sDrawSizesHit : Env := mkE [] [(48, (⟨[pCode], [rS, rI, rI], true⟩), drawHitSpec)]

def drN (rows : List (List C)) : Int := IntKind.i64.wrap (below rows (dhI0 rows) (dhH0 rows) 8 - 1)
def drawRangeSpec : Spec := fun cs => match cs with
  | [.sl rows] => some (curOk rows 0, [.str (dhB rows), .int .i64 (drN rows)])
  | _ => none
def E_sDrawFrameRange : Env := mkD [] [(73, (⟨[pCur, pI], [rI], true⟩), belowSpec), (87, (⟨[pCur], [rS], true⟩), fileSpec)]

end
end Go.Proofs.Ythpcgbnochcbcaa.V

namespace Go.Proofs.Ythpcgbnochcbcaa.V
set_option maxRecDepth 100000
theorem sAnyD_tree (H : List Pt → Nat → St → T (List C)) (r : List (List C)) (i : Int) (h : Int) : (vBodyL E_sAnyD noInl { params := [pCur], results := [rHead], nested := true } Try.f76 H
  [C.sl r, C.int IntKind.i64 i, C.int IntKind.i64 h]).eval =
 ((.must (curOk r i)
 (.must (curOk r (hdI r i))
  (.ask (decide (below r (hdI r i) (hdH h) (12 : Int) = (0 : Int)))
   (.must (curOk r (belowI r (hdI r i) (12 : Int)) &&
  (rowsOk [K.int IntKind.i64]
      [[C.int IntKind.i64 (0 : Int)], [C.int IntKind.i64 (3 : Int)], [C.int IntKind.i64 (1 : Int)],
        [C.int IntKind.i64 (-1 : Int)]] &&
    (decide ((0 : Nat) < (4 : Nat)) && decide ((4 : Nat) ≤ (1048576 : Nat)))))
    (.ret [C.int IntKind.i64
    ((ints
          [[C.int IntKind.i64 (0 : Int)], [C.int IntKind.i64 (3 : Int)], [C.int IntKind.i64 (1 : Int)],
            [C.int IntKind.i64 (-1 : Int)]]).getD
      (below r (belowI r (hdI r i) (12 : Int)) (belowH (hdH h) (12 : Int)) (↑(4 : Nat) : Int)).toNat (0 : Int)),
  C.int IntKind.i64 (hdS r i h), C.int IntKind.i64 (hdB r i h), C.int IntKind.i64 (hdL r i h), C.sl r,
  C.int IntKind.i64 (belowI r (belowI r (hdI r i) (12 : Int)) (↑(4 : Nat) : Int)),
  C.int IntKind.i64 (belowH (belowH (hdH h) (12 : Int)) (↑(4 : Nat) : Int))]))
   (.ask (decide (below r (hdI r i) (hdH h) (12 : Int) = (1 : Int)))
    (.must (curOk r (belowI r (hdI r i) (12 : Int)) &&
  (rowsOk [K.int IntKind.i64]
      [[C.int IntKind.i64 (0 : Int)], [C.int IntKind.i64 (20 : Int)], [C.int IntKind.i64 (21 : Int)],
        [C.int IntKind.i64 (-1 : Int)]] &&
    (decide ((0 : Nat) < (4 : Nat)) && decide ((4 : Nat) ≤ (1048576 : Nat)))))
     (.ret [C.int IntKind.i64 (hdV r i h),
  C.int IntKind.i64
    ((ints
          [[C.int IntKind.i64 (0 : Int)], [C.int IntKind.i64 (20 : Int)], [C.int IntKind.i64 (21 : Int)],
            [C.int IntKind.i64 (-1 : Int)]]).getD
      (below r (belowI r (hdI r i) (12 : Int)) (belowH (hdH h) (12 : Int)) (↑(4 : Nat) : Int)).toNat (0 : Int)),
  C.int IntKind.i64 (hdB r i h), C.int IntKind.i64 (hdL r i h), C.sl r,
  C.int IntKind.i64 (belowI r (belowI r (hdI r i) (12 : Int)) (↑(4 : Nat) : Int)),
  C.int IntKind.i64 (belowH (belowH (hdH h) (12 : Int)) (↑(4 : Nat) : Int))]))
    (.ask (decide (below r (hdI r i) (hdH h) (12 : Int) = (2 : Int)))
     (.must (curOk r (belowI r (hdI r i) (12 : Int)) &&
  (rowsOk [K.int IntKind.i64]
      [[C.int IntKind.i64 (-1 : Int)], [C.int IntKind.i64 (1000000000 : Int)],
        [C.int IntKind.i64 (1000000001 : Int)]] &&
    (decide ((0 : Nat) < (3 : Nat)) && decide ((3 : Nat) ≤ (1048576 : Nat)))))
      (.ret [C.int IntKind.i64 (hdV r i h), C.int IntKind.i64 (hdS r i h),
  C.int IntKind.i64
    ((ints
          [[C.int IntKind.i64 (-1 : Int)], [C.int IntKind.i64 (1000000000 : Int)],
            [C.int IntKind.i64 (1000000001 : Int)]]).getD
      (below r (belowI r (hdI r i) (12 : Int)) (belowH (hdH h) (12 : Int)) (↑(3 : Nat) : Int)).toNat (0 : Int)),
  C.int IntKind.i64 (hdL r i h), C.sl r,
  C.int IntKind.i64 (belowI r (belowI r (hdI r i) (12 : Int)) (↑(3 : Nat) : Int)),
  C.int IntKind.i64 (belowH (belowH (hdH h) (12 : Int)) (↑(3 : Nat) : Int))]))
     (.ask (decide (below r (hdI r i) (hdH h) (12 : Int) = (3 : Int)))
      (.must (curOk r (belowI r (hdI r i) (12 : Int)) &&
  (rowsOk [K.int IntKind.i64]
      [[C.int IntKind.i64 (-1 : Int)], [C.int IntKind.i64 (4294967295 : Int)],
        [C.int IntKind.i64 (4294967296 : Int)]] &&
    (decide ((0 : Nat) < (3 : Nat)) && decide ((3 : Nat) ≤ (1048576 : Nat)))))
       (.ret [C.int IntKind.i64 (hdV r i h), C.int IntKind.i64 (hdS r i h), C.int IntKind.i64 (hdB r i h),
  C.int IntKind.i64
    ((ints
          [[C.int IntKind.i64 (-1 : Int)], [C.int IntKind.i64 (4294967295 : Int)],
            [C.int IntKind.i64 (4294967296 : Int)]]).getD
      (below r (belowI r (hdI r i) (12 : Int)) (belowH (hdH h) (12 : Int)) (↑(3 : Nat) : Int)).toNat (0 : Int)),
  C.sl r, C.int IntKind.i64 (belowI r (belowI r (hdI r i) (12 : Int)) (↑(3 : Nat) : Int)),
  C.int IntKind.i64 (belowH (belowH (hdH h) (12 : Int)) (↑(3 : Nat) : Int))]))
      (.ret [C.int IntKind.i64 (hdV r i h), C.int IntKind.i64 (hdS r i h), C.int IntKind.i64 (hdB r i h),
  C.int IntKind.i64 (hdL r i h), C.sl r, C.int IntKind.i64 (belowI r (hdI r i) (12 : Int)),
  C.int IntKind.i64 (belowH (hdH h) (12 : Int))]))))))) : T (List C)).eval := evalEq (by kernel_rfl)
theorem sDrawHeadText_tree (H : List Pt → Nat → St → T (List C)) (r : List (List C)) : (vBodyL E_sDrawHeadText (sumInl drawS) { params := [pCode], results := [rHead], nested := true } Try.f33 H [C.sl r]).eval =
 ((.must (curOk r (0 : Int))
 (.must (curOk r (0 : Int))
  (.ret [C.int IntKind.i64 (haV r (0 : Int) (newH r)), C.int IntKind.i64 (haS r (0 : Int) (newH r)),
  C.int IntKind.i64 (haB r (0 : Int) (newH r)), C.int IntKind.i64 (haL r (0 : Int) (newH r))]))) : T (List C)).eval := evalEq (by kernel_rfl)
theorem sDrawReadHead_tree (H : List Pt → Nat → St → T (List C)) (r : List (List C)) : (vBodyL E_sDrawReadHead (sumInl drawS) { params := [pCode], results := [rS], nested := true } Try.f38 H [C.sl r]).eval =
 ((.must (curOk r (0 : Int))
 (.must (curOk r (0 : Int))
  (.must (curOk r (hdI r (0 : Int)))
   (.must (curOk r (belowI r (hdI r (0 : Int)) (3 : Int)))
    (.must (decide
  ((headText (hdV r (0 : Int) (newH r)) (hdS r (0 : Int) (newH r)) (hdB r (0 : Int) (newH r))
          (hdL r (0 : Int) (newH r))).length +
      (curText r (textN (below r (hdI r (0 : Int)) (hdH (newH r)) (3 : Int))) (belowI r (hdI r (0 : Int)) (3 : Int))
          (belowH (hdH (newH r)) (3 : Int))).length ≤
    (9223372036854775807 : Nat)))
     (.must (curOk r (textI r (textN (below r (hdI r (0 : Int)) (hdH (newH r)) (3 : Int))) (belowI r (hdI r (0 : Int)) (3 : Int))) &&
  decide
    ((headText (hdV r (0 : Int) (newH r)) (hdS r (0 : Int) (newH r)) (hdB r (0 : Int) (newH r))
            (hdL r (0 : Int) (newH r)) ++
          curText r (textN (below r (hdI r (0 : Int)) (hdH (newH r)) (3 : Int))) (belowI r (hdI r (0 : Int)) (3 : Int))
            (belowH (hdH (newH r)) (3 : Int))).length ≤
      (1048576 : Nat)))
      (.ret [C.str
    (bnT r (textI r (textN (below r (hdI r (0 : Int)) (hdH (newH r)) (3 : Int))) (belowI r (hdI r (0 : Int)) (3 : Int)))
      (textH (textN (below r (hdI r (0 : Int)) (hdH (newH r)) (3 : Int))) (belowH (hdH (newH r)) (3 : Int)))
      (headText (hdV r (0 : Int) (newH r)) (hdS r (0 : Int) (newH r)) (hdB r (0 : Int) (newH r))
          (hdL r (0 : Int) (newH r)) ++
        curText r (textN (below r (hdI r (0 : Int)) (hdH (newH r)) (3 : Int))) (belowI r (hdI r (0 : Int)) (3 : Int))
          (belowH (hdH (newH r)) (3 : Int))))]))))))) : T (List C)).eval := evalEq (by kernel_rfl)
theorem sDrawPlaces_tree (H : List Pt → Nat → St → T (List C)) (r : List (List C)) : (vBodyL E_sDrawPlaces (sumInl drawS) { params := [pCode], results := [rSl (3 : TypeId)], nested := true } Try.f29 H
  [C.sl r]).eval =
 ((.must (curOk r (0 : Int))
 (H [Pt.r, Pt.r, Pt.r, Pt.l, Pt.r, Pt.b] (9223372036854775808 : Nat) (H_sDrawPlaces (r) ((0 : Int)) (newH r) ((0 : Nat)) ([]) ((0 : Int))))) : T (List C)).eval := evalEq (by kernel_rfl)
theorem sDrawPlaces_round0 (H : List Pt → Nat → St → T (List C)) (r : List (List C)) (i : Int) (h : Int) (n : Nat) (o : List (List C)) (j : Int) (k : Nat) : (vRound E_sDrawPlaces (sumInl drawS) { params := [pCode], results := [rSl (3 : TypeId)], nested := true } Try.f29 H
  [Pt.r, Pt.r, Pt.r, Pt.l, Pt.r, Pt.b] k (H_sDrawPlaces r i h n o j)).eval =
 ((.ask (decide (j < (12 : Int)))
 (.must (curOk r i)
  (.must (decide (n = o.length) && roomy (o.length + (1 : Nat)) (8 : Nat) && (decide ((1 : Nat) = (1 : Nat)) && true))
   (H [Pt.r, Pt.r, Pt.r, Pt.l, Pt.r, Pt.b] k (H_sDrawPlaces (r) (belowI r i (10000 : Int)) (belowH h (10000 : Int)) (o.length + (1 : Nat)) (o.append [[C.int IntKind.i64 (below r i h (10000 : Int))]]) (IntKind.i64.wrap (j + (1 : Int)))))))
 (.must (decide (n = o.length) && (true || o.all fun r => r.all C.flat) && true && true && true)
  (.ret [C.sl o]))) : T (List C)).eval := evalEq (by kernel_rfl)
theorem sVersionD_tree (H : List Pt → Nat → St → T (List C)) (r : List (List C)) (i : Int) (h : Int) : (vBodyL E_sVersionD noInl { params := [pCur], results := [rI], nested := true } Try.f64 H
  [C.sl r, C.int IntKind.i64 i, C.int IntKind.i64 h]).eval =
 ((.must (curOk r i &&
  (rowsOk [K.int IntKind.i64]
      [[C.int IntKind.i64 (1 : Int)], [C.int IntKind.i64 (2 : Int)], [C.int IntKind.i64 (1 : Int)],
        [C.int IntKind.i64 (2 : Int)], [C.int IntKind.i64 (1 : Int)], [C.int IntKind.i64 (2 : Int)],
        [C.int IntKind.i64 (0 : Int)], [C.int IntKind.i64 (3 : Int)]] &&
    (decide ((0 : Nat) < (8 : Nat)) && decide ((8 : Nat) ≤ (1048576 : Nat)))))
 (.ret [C.int IntKind.i64
    ((ints
          [[C.int IntKind.i64 (1 : Int)], [C.int IntKind.i64 (2 : Int)], [C.int IntKind.i64 (1 : Int)],
            [C.int IntKind.i64 (2 : Int)], [C.int IntKind.i64 (1 : Int)], [C.int IntKind.i64 (2 : Int)],
            [C.int IntKind.i64 (0 : Int)], [C.int IntKind.i64 (3 : Int)]]).getD
      (below r i h (↑(8 : Nat) : Int)).toNat (0 : Int)),
  C.sl r, C.int IntKind.i64 (belowI r i (↑(8 : Nat) : Int)), C.int IntKind.i64 (belowH h (↑(8 : Nat) : Int))])) : T (List C)).eval := evalEq (by kernel_rfl)
theorem sLong_tree (H : List Pt → Nat → St → T (List C)) (n : Int) (x : Int) : (vBodyL E_sLong noInl (sg [pI, pU8] [rS]) Try.f97 H [C.int IntKind.i64 n, C.int IntKind.u8 x]).eval =
 ((.must (decide ((0 : Int) ≤ n) && decide (n ≤ n) && decide ((↑(1 : Nat) : Int) * n ≤ (281474976710656 : Int)))
 (H [Pt.r, Pt.r, Pt.l, Pt.r, Pt.b] (9223372036854775808 : Nat) (H_sLong (n) (x) (n.toNat) (List.replicate n.toNat [C.int IntKind.u8 (0 : Int)]) ((0 : Int))))) : T (List C)).eval := evalEq (by kernel_rfl)
theorem sLong_round0 (H : List Pt → Nat → St → T (List C)) (n : Int) (x : Int) (q : Nat) (o : List (List C)) (j : Int) (k : Nat) : (vRound E_sLong noInl (sg [pI, pU8] [rS]) Try.f97 H [Pt.r, Pt.r, Pt.l, Pt.r, Pt.b] k (H_sLong n x q o j)).eval =
 ((.ask (decide (j < n))
 (.must (decide ((0 : Int) ≤ j) && decide (j < (↑q : Int)))
  (.must (decide ((0 : Nat) + j.toNat < o.length))
   (H [Pt.r, Pt.r, Pt.l, Pt.r, Pt.b] k (H_sLong (n) (x) (q) (o.set ((0 : Nat) + j.toNat) (C.int IntKind.u8 x :: List.drop ((0 : Nat) + (1 : Nat)) (o.getD ((0 : Nat) + j.toNat) []))) (IntKind.i64.wrap (j + (1 : Int)))))))
 (.must ((List.take q o).all byteRow)
  (.ret [C.str (strOfRows (List.take q o))]))) : T (List C)).eval := evalEq (by kernel_rfl)
theorem sRecord9D_tree (H : List Pt → Nat → St → T (List C)) (r : List (List C)) (i : Int) (h : Int) : (vBodyL E_sRecord9D noInl { params := [pCur], results := [rS], nested := true } Try.f65 H
  [C.sl r, C.int IntKind.i64 i, C.int IntKind.i64 h]).eval =
 ((.must (curOk r i)
 (.ask (decide (below r i h (12 : Int) = (0 : Int)))
  (.must (curOk r (belowI r i (12 : Int)))
   (.must (decide
    ((0 : Int) ≤ IntKind.i64.wrap ((60 : Int) + below r (belowI r i (12 : Int)) (belowH h (12 : Int)) (2 : Int)) ∧
      IntKind.i64.wrap ((60 : Int) + below r (belowI r i (12 : Int)) (belowH h (12 : Int)) (2 : Int)) ≤
        (100000 : Int)) &&
  inB (5 : Int) (0 : Int) (255 : Int))
    (.ret [C.str
    (List.replicate
      (IntKind.i64.wrap ((60 : Int) + below r (belowI r i (12 : Int)) (belowH h (12 : Int)) (2 : Int))).toNat
      (UInt8.ofNat (Int.toNat (5 : Int)))),
  C.sl r, C.int IntKind.i64 (belowI r (belowI r i (12 : Int)) (2 : Int)),
  C.int IntKind.i64 (belowH (belowH h (12 : Int)) (2 : Int))])))
  (.must (curOk r (belowI r i (12 : Int)))
   (.ret [C.str (rcT r (belowI r i (12 : Int)) (belowH h (12 : Int))), C.sl r,
  C.int IntKind.i64 (rcI r (belowI r i (12 : Int)) (belowH h (12 : Int))),
  C.int IntKind.i64 (rcH r (belowI r i (12 : Int)) (belowH h (12 : Int)))])))) : T (List C)).eval := evalEq (by kernel_rfl)
theorem sDrawFrameText_tree (H : List Pt → Nat → St → T (List C)) (r : List (List C)) : (vBodyL E_sDrawFrameText (sumInl drawS) { params := [pCode], results := [rI, rI, rS], nested := true } Try.f25 H [C.sl r]).eval =
 ((.must (curOk r (0 : Int))
 (.must (curOk r (0 : Int))
  (.must (curOk r (belowI r (0 : Int) (8 : Int)) &&
  (rowsOk [K.int IntKind.i64]
      [[C.int IntKind.i64 (0 : Int)], [C.int IntKind.i64 (1 : Int)], [C.int IntKind.i64 (7 : Int)],
        [C.int IntKind.i64 (1000000000 : Int)], [C.int IntKind.i64 (1000000001 : Int)],
        [C.int IntKind.i64 (-1 : Int)]] &&
    (decide ((0 : Nat) < (6 : Nat)) && decide ((6 : Nat) ≤ (1048576 : Nat)))))
   (.must (curOk r (belowI r (belowI r (0 : Int) (8 : Int)) (↑(6 : Nat) : Int)))
    (.ret [C.int IntKind.i64 (vsN r (0 : Int) (newH r)),
  C.int IntKind.i64
    ((ints
          [[C.int IntKind.i64 (0 : Int)], [C.int IntKind.i64 (1 : Int)], [C.int IntKind.i64 (7 : Int)],
            [C.int IntKind.i64 (1000000000 : Int)], [C.int IntKind.i64 (1000000001 : Int)],
            [C.int IntKind.i64 (-1 : Int)]]).getD
      (below r (belowI r (0 : Int) (8 : Int)) (belowH (newH r) (8 : Int)) (↑(6 : Nat) : Int)).toNat (0 : Int)),
  C.str
    (r9T r (belowI r (belowI r (0 : Int) (8 : Int)) (↑(6 : Nat) : Int))
      (belowH (belowH (newH r) (8 : Int)) (↑(6 : Nat) : Int)))]))))) : T (List C)).eval := evalEq (by kernel_rfl)
theorem lMany_tree (H : List Pt → Nat → St → T (List C)) (n : Int) : (vBodyL E_lMany noInl (sg [pI] [rS]) Try.f32 H [C.int IntKind.i64 n]).eval =
 ((H [Pt.r, Pt.r, Pt.l, Pt.r, Pt.b] (9223372036854775808 : Nat) (H_lMany (n) ((0 : Nat)) ([]) ((0 : Int)))) : T (List C)).eval := evalEq (by kernel_rfl)
theorem lMany_round0 (H : List Pt → Nat → St → T (List C)) (n : Int) (q : Nat) (o : List (List C)) (j : Int) (k : Nat) : (vRound E_lMany noInl (sg [pI] [rS]) Try.f32 H [Pt.r, Pt.r, Pt.l, Pt.r, Pt.b] k (H_lMany n q o j)).eval =
 ((.ask (decide (j < n))
 (.must (decide (q = o.length) && roomy (o.length + (1 : Nat)) (1 : Nat) && (decide ((1 : Nat) = (1 : Nat)) && true))
  (H [Pt.r, Pt.r, Pt.l, Pt.r, Pt.b] k (H_lMany (n) (o.length + (1 : Nat)) (o.append [[C.int IntKind.u8 (113 : Int)]]) (IntKind.i64.wrap (j + (1 : Int))))))
 (.must ((List.take q o).all byteRow)
  (.ret [C.str (strOfRows (List.take q o))]))) : T (List C)).eval := evalEq (by kernel_rfl)
theorem sDrawFirstHit_tree (H : List Pt → Nat → St → T (List C)) (r : List (List C)) : (vBodyL E_sDrawFirstHit (sumInl drawS) { params := [pCode], results := [rS, rI, rI], nested := true } Try.f48 H [C.sl r]).eval =
 ((.must (curOk r (0 : Int))
 (.must (curOk r (0 : Int))
  (.must (curOk r (fileI r (0 : Int) (newH r)))
   (.must (curOk r
    (belowI r (fileI r (0 : Int) (newH r))
      (IntKind.i64.wrap ((↑(fileT r (0 : Int) (newH r)).length : Int) + (1 : Int)))) &&
  (rowsOk [K.int IntKind.i64]
      [[C.int IntKind.i64 (0 : Int)], [C.int IntKind.i64 (23 : Int)], [C.int IntKind.i64 (24 : Int)],
        [C.int IntKind.i64 (30 : Int)],
        [C.int IntKind.i64
            (below r (fileI r (0 : Int) (newH r)) (fileH r (0 : Int) (newH r))
              (IntKind.i64.wrap ((↑(fileT r (0 : Int) (newH r)).length : Int) + (1 : Int))))],
        [C.int IntKind.i64 (-1 : Int)]] &&
    (decide
        ((0 : Nat) <
          ((((Nat.add (2 : Nat) (0 : Nat)).succ.add (0 : Nat)).succ.add (0 : Nat)).succ.add
              (0 : Nat)).succ) &&
      decide
        (((((Nat.add (2 : Nat) (0 : Nat)).succ.add (0 : Nat)).succ.add (0 : Nat)).succ.add (0 : Nat)).succ ≤
          (1048576 : Nat)))))
    (.must (curOk r
    (belowI r
      (belowI r (fileI r (0 : Int) (newH r))
        (IntKind.i64.wrap ((↑(fileT r (0 : Int) (newH r)).length : Int) + (1 : Int))))
      (↑((((Nat.add (2 : Nat) (0 : Nat)).succ.add (0 : Nat)).succ.add (0 : Nat)).succ.add (0 : Nat)).succ :
        Int)) &&
  (rowsOk [K.int IntKind.i64]
      [[C.int IntKind.i64
            (IntKind.i64.wrap
              ((ints
                      [[C.int IntKind.i64 (0 : Int)], [C.int IntKind.i64 (23 : Int)], [C.int IntKind.i64 (24 : Int)],
                        [C.int IntKind.i64 (30 : Int)],
                        [C.int IntKind.i64
                            (below r (fileI r (0 : Int) (newH r)) (fileH r (0 : Int) (newH r))
                              (IntKind.i64.wrap ((↑(fileT r (0 : Int) (newH r)).length : Int) + (1 : Int))))],
                        [C.int IntKind.i64 (-1 : Int)]]).getD
                  (below r
                      (belowI r (fileI r (0 : Int) (newH r))
                        (IntKind.i64.wrap ((↑(fileT r (0 : Int) (newH r)).length : Int) + (1 : Int))))
                      (belowH (fileH r (0 : Int) (newH r))
                        (IntKind.i64.wrap ((↑(fileT r (0 : Int) (newH r)).length : Int) + (1 : Int))))
                      (↑((((Nat.add (2 : Nat) (0 : Nat)).succ.add (0 : Nat)).succ.add (0 : Nat)).succ.add
                              (0 : Nat)).succ :
                        Int)).toNat
                  (0 : Int) +
                (1 : Int)))],
        [C.int IntKind.i64
            (IntKind.i64.wrap
              ((ints
                      [[C.int IntKind.i64 (0 : Int)], [C.int IntKind.i64 (23 : Int)], [C.int IntKind.i64 (24 : Int)],
                        [C.int IntKind.i64 (30 : Int)],
                        [C.int IntKind.i64
                            (below r (fileI r (0 : Int) (newH r)) (fileH r (0 : Int) (newH r))
                              (IntKind.i64.wrap ((↑(fileT r (0 : Int) (newH r)).length : Int) + (1 : Int))))],
                        [C.int IntKind.i64 (-1 : Int)]]).getD
                  (below r
                      (belowI r (fileI r (0 : Int) (newH r))
                        (IntKind.i64.wrap ((↑(fileT r (0 : Int) (newH r)).length : Int) + (1 : Int))))
                      (belowH (fileH r (0 : Int) (newH r))
                        (IntKind.i64.wrap ((↑(fileT r (0 : Int) (newH r)).length : Int) + (1 : Int))))
                      (↑((((Nat.add (2 : Nat) (0 : Nat)).succ.add (0 : Nat)).succ.add (0 : Nat)).succ.add
                              (0 : Nat)).succ :
                        Int)).toNat
                  (0 : Int) +
                (4 : Int)))],
        [C.int IntKind.i64
            ((ints
                  [[C.int IntKind.i64 (0 : Int)], [C.int IntKind.i64 (23 : Int)], [C.int IntKind.i64 (24 : Int)],
                    [C.int IntKind.i64 (30 : Int)],
                    [C.int IntKind.i64
                        (below r (fileI r (0 : Int) (newH r)) (fileH r (0 : Int) (newH r))
                          (IntKind.i64.wrap ((↑(fileT r (0 : Int) (newH r)).length : Int) + (1 : Int))))],
                    [C.int IntKind.i64 (-1 : Int)]]).getD
              (below r
                  (belowI r (fileI r (0 : Int) (newH r))
                    (IntKind.i64.wrap ((↑(fileT r (0 : Int) (newH r)).length : Int) + (1 : Int))))
                  (belowH (fileH r (0 : Int) (newH r))
                    (IntKind.i64.wrap ((↑(fileT r (0 : Int) (newH r)).length : Int) + (1 : Int))))
                  (↑((((Nat.add (2 : Nat) (0 : Nat)).succ.add (0 : Nat)).succ.add (0 : Nat)).succ.add
                          (0 : Nat)).succ :
                    Int)).toNat
              (0 : Int))],
        [C.int IntKind.i64 (↑(fileT r (0 : Int) (newH r)).length : Int)],
        [C.int IntKind.i64
            (IntKind.i64.wrap
              ((ints
                      [[C.int IntKind.i64 (0 : Int)], [C.int IntKind.i64 (23 : Int)], [C.int IntKind.i64 (24 : Int)],
                        [C.int IntKind.i64 (30 : Int)],
                        [C.int IntKind.i64
                            (below r (fileI r (0 : Int) (newH r)) (fileH r (0 : Int) (newH r))
                              (IntKind.i64.wrap ((↑(fileT r (0 : Int) (newH r)).length : Int) + (1 : Int))))],
                        [C.int IntKind.i64 (-1 : Int)]]).getD
                  (below r
                      (belowI r (fileI r (0 : Int) (newH r))
                        (IntKind.i64.wrap ((↑(fileT r (0 : Int) (newH r)).length : Int) + (1 : Int))))
                      (belowH (fileH r (0 : Int) (newH r))
                        (IntKind.i64.wrap ((↑(fileT r (0 : Int) (newH r)).length : Int) + (1 : Int))))
                      (↑((((Nat.add (2 : Nat) (0 : Nat)).succ.add (0 : Nat)).succ.add (0 : Nat)).succ.add
                              (0 : Nat)).succ :
                        Int)).toNat
                  (0 : Int) -
                (1 : Int)))]] &&
    (decide
        ((0 : Nat) <
          ((((Nat.add (1 : Nat) (0 : Nat)).succ.add (0 : Nat)).succ.add (0 : Nat)).succ.add
              (0 : Nat)).succ) &&
      decide
        (((((Nat.add (1 : Nat) (0 : Nat)).succ.add (0 : Nat)).succ.add (0 : Nat)).succ.add (0 : Nat)).succ ≤
          (1048576 : Nat)))))
     (.ret [C.str (fileT r (0 : Int) (newH r)),
  C.int IntKind.i64
    ((ints
          [[C.int IntKind.i64 (0 : Int)], [C.int IntKind.i64 (23 : Int)], [C.int IntKind.i64 (24 : Int)],
            [C.int IntKind.i64 (30 : Int)],
            [C.int IntKind.i64
                (below r (fileI r (0 : Int) (newH r)) (fileH r (0 : Int) (newH r))
                  (IntKind.i64.wrap ((↑(fileT r (0 : Int) (newH r)).length : Int) + (1 : Int))))],
            [C.int IntKind.i64 (-1 : Int)]]).getD
      (below r
          (belowI r (fileI r (0 : Int) (newH r))
            (IntKind.i64.wrap ((↑(fileT r (0 : Int) (newH r)).length : Int) + (1 : Int))))
          (belowH (fileH r (0 : Int) (newH r))
            (IntKind.i64.wrap ((↑(fileT r (0 : Int) (newH r)).length : Int) + (1 : Int))))
          (↑((((Nat.add (2 : Nat) (0 : Nat)).succ.add (0 : Nat)).succ.add (0 : Nat)).succ.add
                  (0 : Nat)).succ :
            Int)).toNat
      (0 : Int)),
  C.int IntKind.i64
    ((ints
          [[C.int IntKind.i64
                (IntKind.i64.wrap
                  ((ints
                          [[C.int IntKind.i64 (0 : Int)], [C.int IntKind.i64 (23 : Int)],
                            [C.int IntKind.i64 (24 : Int)], [C.int IntKind.i64 (30 : Int)],
                            [C.int IntKind.i64
                                (below r (fileI r (0 : Int) (newH r)) (fileH r (0 : Int) (newH r))
                                  (IntKind.i64.wrap ((↑(fileT r (0 : Int) (newH r)).length : Int) + (1 : Int))))],
                            [C.int IntKind.i64 (-1 : Int)]]).getD
                      (below r
                          (belowI r (fileI r (0 : Int) (newH r))
                            (IntKind.i64.wrap ((↑(fileT r (0 : Int) (newH r)).length : Int) + (1 : Int))))
                          (belowH (fileH r (0 : Int) (newH r))
                            (IntKind.i64.wrap ((↑(fileT r (0 : Int) (newH r)).length : Int) + (1 : Int))))
                          (↑((((Nat.add (2 : Nat) (0 : Nat)).succ.add (0 : Nat)).succ.add (0 : Nat)).succ.add
                                  (0 : Nat)).succ :
                            Int)).toNat
                      (0 : Int) +
                    (1 : Int)))],
            [C.int IntKind.i64
                (IntKind.i64.wrap
                  ((ints
                          [[C.int IntKind.i64 (0 : Int)], [C.int IntKind.i64 (23 : Int)],
                            [C.int IntKind.i64 (24 : Int)], [C.int IntKind.i64 (30 : Int)],
                            [C.int IntKind.i64
                                (below r (fileI r (0 : Int) (newH r)) (fileH r (0 : Int) (newH r))
                                  (IntKind.i64.wrap ((↑(fileT r (0 : Int) (newH r)).length : Int) + (1 : Int))))],
                            [C.int IntKind.i64 (-1 : Int)]]).getD
                      (below r
                          (belowI r (fileI r (0 : Int) (newH r))
                            (IntKind.i64.wrap ((↑(fileT r (0 : Int) (newH r)).length : Int) + (1 : Int))))
                          (belowH (fileH r (0 : Int) (newH r))
                            (IntKind.i64.wrap ((↑(fileT r (0 : Int) (newH r)).length : Int) + (1 : Int))))
                          (↑((((Nat.add (2 : Nat) (0 : Nat)).succ.add (0 : Nat)).succ.add (0 : Nat)).succ.add
                                  (0 : Nat)).succ :
                            Int)).toNat
                      (0 : Int) +
                    (4 : Int)))],
            [C.int IntKind.i64
                ((ints
                      [[C.int IntKind.i64 (0 : Int)], [C.int IntKind.i64 (23 : Int)], [C.int IntKind.i64 (24 : Int)],
                        [C.int IntKind.i64 (30 : Int)],
                        [C.int IntKind.i64
                            (below r (fileI r (0 : Int) (newH r)) (fileH r (0 : Int) (newH r))
                              (IntKind.i64.wrap ((↑(fileT r (0 : Int) (newH r)).length : Int) + (1 : Int))))],
                        [C.int IntKind.i64 (-1 : Int)]]).getD
                  (below r
                      (belowI r (fileI r (0 : Int) (newH r))
                        (IntKind.i64.wrap ((↑(fileT r (0 : Int) (newH r)).length : Int) + (1 : Int))))
                      (belowH (fileH r (0 : Int) (newH r))
                        (IntKind.i64.wrap ((↑(fileT r (0 : Int) (newH r)).length : Int) + (1 : Int))))
                      (↑((((Nat.add (2 : Nat) (0 : Nat)).succ.add (0 : Nat)).succ.add (0 : Nat)).succ.add
                              (0 : Nat)).succ :
                        Int)).toNat
                  (0 : Int))],
            [C.int IntKind.i64 (↑(fileT r (0 : Int) (newH r)).length : Int)],
            [C.int IntKind.i64
                (IntKind.i64.wrap
                  ((ints
                          [[C.int IntKind.i64 (0 : Int)], [C.int IntKind.i64 (23 : Int)],
                            [C.int IntKind.i64 (24 : Int)], [C.int IntKind.i64 (30 : Int)],
                            [C.int IntKind.i64
                                (below r (fileI r (0 : Int) (newH r)) (fileH r (0 : Int) (newH r))
                                  (IntKind.i64.wrap ((↑(fileT r (0 : Int) (newH r)).length : Int) + (1 : Int))))],
                            [C.int IntKind.i64 (-1 : Int)]]).getD
                      (below r
                          (belowI r (fileI r (0 : Int) (newH r))
                            (IntKind.i64.wrap ((↑(fileT r (0 : Int) (newH r)).length : Int) + (1 : Int))))
                          (belowH (fileH r (0 : Int) (newH r))
                            (IntKind.i64.wrap ((↑(fileT r (0 : Int) (newH r)).length : Int) + (1 : Int))))
                          (↑((((Nat.add (2 : Nat) (0 : Nat)).succ.add (0 : Nat)).succ.add (0 : Nat)).succ.add
                                  (0 : Nat)).succ :
                            Int)).toNat
                      (0 : Int) -
                    (1 : Int)))]]).getD
      (below r
          (belowI r
            (belowI r (fileI r (0 : Int) (newH r))
              (IntKind.i64.wrap ((↑(fileT r (0 : Int) (newH r)).length : Int) + (1 : Int))))
            (↑((((Nat.add (2 : Nat) (0 : Nat)).succ.add (0 : Nat)).succ.add (0 : Nat)).succ.add
                    (0 : Nat)).succ :
              Int))
          (belowH
            (belowH (fileH r (0 : Int) (newH r))
              (IntKind.i64.wrap ((↑(fileT r (0 : Int) (newH r)).length : Int) + (1 : Int))))
            (↑((((Nat.add (2 : Nat) (0 : Nat)).succ.add (0 : Nat)).succ.add (0 : Nat)).succ.add
                    (0 : Nat)).succ :
              Int))
          (↑((((Nat.add (1 : Nat) (0 : Nat)).succ.add (0 : Nat)).succ.add (0 : Nat)).succ.add
                  (0 : Nat)).succ :
            Int)).toNat
      (0 : Int))])))))) : T (List C)).eval := evalEq (by kernel_rfl)
theorem sDrawHeadHit_tree (H : List Pt → Nat → St → T (List C)) (r : List (List C)) : (vBodyL E_sDrawHeadHit noInl { params := [pCode], results := [rS, rI, rI], nested := true } Try.f41 H [C.sl r]).eval =
 ((.must (curOk r (0 : Int))
 (.ret [C.str (dhB r), C.int IntKind.i64 (dhX r), C.int IntKind.i64 (dhY r)])) : T (List C)).eval := evalEq (by kernel_rfl)
theorem sDrawSizesHit_tree (H : List Pt → Nat → St → T (List C)) (r : List (List C)) : (vBodyL E_sDrawSizesHit noInl { params := [pCode], results := [rS, rI, rI], nested := true } Try.f51 H [C.sl r]).eval =
 ((.must (curOk r (0 : Int))
 (.ret [C.str (dhB r), C.int IntKind.i64 (dhX r), C.int IntKind.i64 (dhY r)])) : T (List C)).eval := evalEq (by kernel_rfl)
theorem sDrawFrameRange_tree (H : List Pt → Nat → St → T (List C)) (r : List (List C)) : (vBodyL E_sDrawFrameRange (sumInl drawS) { params := [pCode], results := [rS, rI], nested := true } Try.f45 H [C.sl r]).eval =
 ((.must (curOk r (0 : Int))
 (.must (curOk r (0 : Int))
  (.must (curOk r (fileI r (0 : Int) (newH r)))
   (.ret [C.str (fileT r (0 : Int) (newH r)),
  C.int IntKind.i64
    (IntKind.i64.wrap (below r (fileI r (0 : Int) (newH r)) (fileH r (0 : Int) (newH r)) (8 : Int) - (1 : Int)))])))) : T (List C)).eval := evalEq (by kernel_rfl)
end Go.Proofs.Ythpcgbnochcbcaa.V

namespace Go.Proofs.Ythpcgbnochcbcaa.V

theorem must_go {α : Type} {c : Bool} {n : T α} {o : Option α} (h : c = true) (e : n.eval = o) : (T.must c n).eval = o := by subst h; exact e
theorem ask_yes {α : Type} {c : Bool} {y n : T α} {o : Option α} (h : c = true) (e : y.eval = o) : (T.ask c y n).eval = o := by subst h; exact e
theorem ask_no {α : Type} {c : Bool} {y n : T α} {o : Option α} (h : c = false) (e : n.eval = o) : (T.ask c y n).eval = o := by subst h; exact e
theorem sAnyD_E : EnvSound Try.prog E_sAnyD := mkE_sound (by simp [sBelow_sound, sPickInt_sound, sHeadD_sound])
theorem sAnyD_sound : Sound Try.prog 76 (⟨[pCur], [rHead], true⟩) haSpec := vBody_sound sAnyD_E noInl_ok Try.func76 (by kernel_rfl) fun cs outs hk h => by
  unfold haSpec at h
  split at h
  · simp only [Option.some.injEq, Prod.mk.injEq] at h
    obtain ⟨h1, rfl⟩ := h
    rename_i rows i hh
    rw [vBody_L, sAnyD_tree]
    have o1 := hdI_ok rows i h1
    have o2 := belowI_ok rows (hdI rows i) 12 o1
    refine must_go h1 (must_go o1 ?_)
    unfold haV haS haB haL haI haH haK haI0 haH0
    generalize hb : below rows (hdI rows i) (hdH hh) 12 = b
    by_cases c0 : b = 0
    · have d1 : ¬ b = 1 := by omega
      have d2 : ¬ b = 2 := by omega
      have d3 : ¬ b = 3 := by omega
      refine ask_yes (decide_eq_true c0) (must_go (by rw [o2]; rfl) ?_)
      simp only [if_pos c0, if_pos (Or.inl c0 : b = 0 ∨ b = 1), if_neg d1, if_neg d2, if_neg d3]; rfl
    · by_cases c1 : b = 1
      · have d2 : ¬ b = 2 := by omega
        have d3 : ¬ b = 3 := by omega
        refine ask_no (decide_eq_false c0) (ask_yes (decide_eq_true c1) (must_go (by rw [o2]; rfl) ?_))
        simp only [if_neg c0, if_pos c1, if_pos (Or.inr c1 : b = 0 ∨ b = 1), if_neg d2, if_neg d3]; rfl
      · have e1 : ¬ (b = 0 ∨ b = 1) := fun h => h.elim c0 c1
        by_cases c2 : b = 2
        · have d3 : ¬ b = 3 := by omega
          refine ask_no (decide_eq_false c0) (ask_no (decide_eq_false c1) (ask_yes (decide_eq_true c2) (must_go (by rw [o2]; rfl) ?_)))
          simp only [if_neg c0, if_neg c1, if_neg e1, if_pos c2, if_pos (Or.inl c2 : b = 2 ∨ b = 3), if_neg d3]; rfl
        · by_cases c3 : b = 3
          · refine ask_no (decide_eq_false c0) (ask_no (decide_eq_false c1) (ask_no (decide_eq_false c2) (ask_yes (decide_eq_true c3) (must_go (by rw [o2]; rfl) ?_))))
            simp only [if_neg c0, if_neg c1, if_neg e1, if_neg c2, if_pos c3, if_pos (Or.inr c3 : b = 2 ∨ b = 3)]; rfl
          · have e2 : ¬ (b = 2 ∨ b = 3) := fun h => h.elim c2 c3
            refine ask_no (decide_eq_false c0) (ask_no (decide_eq_false c1) (ask_no (decide_eq_false c2) (ask_no (decide_eq_false c3) ?_)))
            simp only [if_neg c0, if_neg c1, if_neg c2, if_neg c3, if_neg e1, if_neg e2]; rfl
  · cases h

theorem sDrawHeadText_E : EnvSound Try.prog E_sDrawHeadText := mkD_sound (by simp [sAnyD_sound])
theorem sDrawHeadText_sound : Sound Try.prog 33 (⟨[pCode], [rHead], true⟩) drawHeadSpec := vBody_sound sDrawHeadText_E (sumInl_ok drawS_ok) Try.func33 (by kernel_rfl) fun cs outs hk h => by
  unfold drawHeadSpec at h
  split at h
  · simp only [Option.some.injEq, Prod.mk.injEq] at h
    obtain ⟨h1, rfl⟩ := h
    rw [vBody_L, sDrawHeadText_tree]
    exact must_go h1 (must_go h1 rfl)
  · cases h

theorem drhT_len (rows : List (List C)) : (drhT rows).length ≤ 100 := by
  unfold drhT
  have h1 := bnT_len rows (dtI rows 3 (hdI rows 0) (hdH (newH rows))) (dtH rows 3 (hdI rows 0) (hdH (newH rows))) (headText (hdV rows 0 (newH rows)) (hdS rows 0 (newH rows)) (hdB rows 0 (newH rows)) (hdL rows 0 (newH rows)) ++ dtT rows 3 (hdI rows 0) (hdH (newH rows)))
  have h2 := dtT_len rows 3 (hdI rows 0) (hdH (newH rows)) (by omega) (by omega)
  have h3 := headText_le (hdV rows 0 (newH rows)) (hdS rows 0 (newH rows)) (hdB rows 0 (newH rows)) (hdL rows 0 (newH rows))
  rw [List.length_append] at h1
  omega
theorem sDrawReadHead_E : EnvSound Try.prog E_sDrawReadHead := mkD_sound (by simp [sBelow_sound, sText_sound, sHeadText_sound, sHeadD_sound, sBentD_sound])
theorem sDrawReadHead_sound : Sound Try.prog 38 (⟨[pCode], [rS], true⟩) drawReadHeadSpec := vBody_sound sDrawReadHead_E (sumInl_ok drawS_ok) Try.func38 (by kernel_rfl) fun cs outs hk h => by
  unfold drawReadHeadSpec at h
  split at h
  · simp only [Option.some.injEq, Prod.mk.injEq] at h
    obtain ⟨h1, rfl⟩ := h
    rename_i rows
    rw [vBody_L, sDrawReadHead_tree]
    have o1 := hdI_ok rows 0 h1
    have o2 := belowI_ok rows _ 3 o1
    have o3 := textI_ok rows (textN (below rows (hdI rows 0) (hdH (newH rows)) 3)) _ o2
    have h2 := dtT_len rows 3 (hdI rows 0) (hdH (newH rows)) (by omega) (by omega)
    unfold dtT at h2
    have h3 := headText_le (hdV rows 0 (newH rows)) (hdS rows 0 (newH rows)) (hdB rows 0 (newH rows)) (hdL rows 0 (newH rows))
    exact must_go h1 (must_go h1 (must_go o1 (must_go o2 (must_go (decide_eq_true (by omega)) (must_go (by rw [o3, decide_eq_true (by rw [List.length_append]; omega)]; rfl) rfl)))))
  · cases h

theorem dpI_ok (rows : List (List C)) (h : curOk rows 0 = true) : ∀ n, curOk rows (dpI rows n) = true
  | 0 => h
  | n + 1 => belowI_ok _ _ _ (dpI_ok rows h n)
theorem dp_range (rows : List (List C)) (n : Nat) : 0 ≤ dpAt rows n ∧ dpAt rows n < 10000 := below_range rows _ _ 10000 (by omega)
theorem dpL_succ (rows : List (List C)) (n : Nat) : dpL rows (n + 1) = dpL rows n ++ [dpAt rows n] := by simp [dpL, List.range_succ]
theorem dpL_len (rows : List (List C)) (n : Nat) : (dpL rows n).length = n := by simp [dpL]
theorem sDrawPlaces_loop (rows : List (List C)) (ho : curOk rows 0 = true) : ∀ (f n j : Nat), j + f = 12 → f < n →
    (vLoop E_sDrawPlaces (sumInl drawS) (⟨[pCode], [rSl 3], true⟩) Try.f29 [.r, .r, .r, .l, .r, .b] n (H_sDrawPlaces rows (dpI rows j) (dpH rows j) (dpL rows j).length ((dpL rows j).map eInt) j)).eval = some [.sl ((dpL rows 12).map eInt)] := by
  intro f
  induction f with
  | zero =>
    intro n j h1 h2
    obtain ⟨n, rfl⟩ : ∃ q, n = q + 1 := ⟨n - 1, by omega⟩
    have : j = 12 := by omega
    subst this
    rw [vLoop_L _ _ _ _ _ _ _ (by kernel_rfl), sDrawPlaces_round0]
    exact ask_no rfl (must_go (by rw [List.length_map, decide_eq_true rfl]; rfl) rfl)
  | succ f ih =>
    intro n j h1 h2
    obtain ⟨n, rfl⟩ : ∃ q, n = q + 1 := ⟨n - 1, by omega⟩
    rw [vLoop_L _ _ _ _ _ _ _ (by kernel_rfl), sDrawPlaces_round0]
    have ro : roomy (((dpL rows j).map eInt).length + 1) 8 = true := by rw [List.length_map, dpL_len]; simp only [roomy, decide_eq_true_eq]; omega
    have w : IntKind.i64.wrap ((j : Int) + 1) = ((j + 1 : Nat) : Int) := by rw [wrap64] <;> omega
    have e := ih n (j + 1) (by omega) (by omega)
    rw [dpL_succ, List.map_append, List.length_append] at e
    refine ask_yes (decide_eq_true (by omega)) (must_go (dpI_ok rows ho j) (must_go (by rw [ro, List.length_map, decide_eq_true rfl]; rfl) ?_))
    rw [w, List.length_map]
    exact e
theorem sDrawPlaces_E : EnvSound Try.prog E_sDrawPlaces := mkD_sound (by simp [sBelow_sound])
theorem sDrawPlaces_sound : Sound Try.prog 29 (⟨[pCode], [rSl 3], true⟩) drawPlacesSpec := vBody_sound sDrawPlaces_E (sumInl_ok drawS_ok) Try.func29 (by kernel_rfl) fun cs outs hk h => by
  unfold drawPlacesSpec at h
  split at h
  · simp only [Option.some.injEq, Prod.mk.injEq] at h
    obtain ⟨h1, rfl⟩ := h
    rename_i rows
    rw [vBody_L, sDrawPlaces_tree]
    exact must_go h1 (sDrawPlaces_loop rows h1 12 9223372036854775808 0 (by omega) (by omega))
  · cases h

theorem sVersionD_E : EnvSound Try.prog E_sVersionD := mkE_sound (by simp [sPickInt_sound])
theorem sVersionD_sound : Sound Try.prog 64 (⟨[pCur], [rI], true⟩) vsSpec := vBody_sound sVersionD_E noInl_ok Try.func64 (by kernel_rfl) fun cs outs hk h => by
  unfold vsSpec at h
  split at h
  · simp only [Option.some.injEq, Prod.mk.injEq] at h
    obtain ⟨h1, rfl⟩ := h
    rw [vBody_L, sVersionD_tree]
    exact must_go (by rw [h1]; rfl) rfl
  · cases h

theorem rep_set {A : Type} (a b x : A) (k : Nat) : ∀ j, (List.replicate j a ++ List.replicate (k + 1) b).set j x = List.replicate j a ++ x :: List.replicate k b
  | 0 => rfl
  | j + 1 => by
    rw [List.replicate_succ, List.cons_append, List.set_cons_succ, rep_set a b x k j]; rfl
theorem rep_snoc {A : Type} (a : A) (l : List A) : ∀ j, List.replicate j a ++ a :: l = List.replicate (j + 1) a ++ l
  | 0 => rfl
  | j + 1 => by
    rw [List.replicate_succ, List.cons_append, rep_snoc a l j]; rfl
theorem rep_at {A : Type} (a b d : A) (k : Nat) : ∀ j, (List.replicate j a ++ List.replicate (k + 1) b).getD j d = b
  | 0 => rfl
  | j + 1 => by
    rw [List.replicate_succ, List.cons_append, List.getD_cons_succ, rep_at a b d k j]
theorem rows_rep (n : Nat) (c : UInt8) : rowsOfStr (List.replicate n c) = List.replicate n [C.int .u8 (c.toNat : Int)] := by simp [rowsOfStr]
theorem sLong_loop (x : Nat) (hx : x < 256) (n : Nat) (hn : n ≤ 100000) : ∀ (f m j : Nat), j + f = n → f < m →
    (vLoop E_sLong noInl (sg [pI, pU8] [rS]) Try.f97 [.r, .r, .l, .r, .b] m (H_sLong n x n (List.replicate j [C.int .u8 (x : Int)] ++ List.replicate f [C.int .u8 0]) j)).eval = some [.str (List.replicate n (UInt8.ofNat x))] := by
  intro f
  induction f with
  | zero =>
    intro m j h1 h2
    obtain ⟨m, rfl⟩ : ∃ q, m = q + 1 := ⟨m - 1, by omega⟩
    have : j = n := by omega
    subst this
    rw [vLoop_L _ _ _ _ _ _ _ (by kernel_rfl), sLong_round0]
    have c : ¬ ((j : Int) < (j : Int)) := by omega
    have hc : (UInt8.ofNat x).toNat = x := by
      show x % 256 = x
      omega
    have er : List.replicate j [C.int .u8 (x : Int)] ++ List.replicate 0 [C.int .u8 0] = rowsOfStr (List.replicate j (UInt8.ofNat x)) := by rw [rows_rep, hc]; simp
    have tk : List.take j (rowsOfStr (List.replicate j (UInt8.ofNat x))) = rowsOfStr (List.replicate j (UInt8.ofNat x)) := List.take_of_length_le (by rw [rows_length]; simp)
    rw [er, tk]
    refine ask_no (decide_eq_false c) (must_go (rows_bytes _) ?_)
    rw [str_rows]; rfl
  | succ f ih =>
    intro m j h1 h2
    obtain ⟨m, rfl⟩ : ∃ q, m = q + 1 := ⟨m - 1, by omega⟩
    rw [vLoop_L _ _ _ _ _ _ _ (by kernel_rfl), sLong_round0]
    have w : IntKind.i64.wrap ((j : Int) + 1) = ((j + 1 : Nat) : Int) := by rw [wrap64] <;> omega
    have e := ih m (j + 1) (by omega) (by omega)
    refine ask_yes (decide_eq_true (by omega)) (must_go (by rw [decide_eq_true (by omega), decide_eq_true (by omega)]; rfl) (must_go (decide_eq_true (by rw [Int.toNat_natCast, Nat.zero_add, List.length_append, List.length_replicate, List.length_replicate]; omega)) ?_))
    rw [w, Int.toNat_natCast, Nat.zero_add, rep_at]
    show (vLoop E_sLong noInl (sg [pI, pU8] [rS]) Try.f97 [.r, .r, .l, .r, .b] m (H_sLong n x n ((List.replicate j [C.int .u8 (x : Int)] ++ List.replicate (f + 1) [C.int .u8 0]).set j [C.int .u8 (x : Int)]) ((j + 1 : Nat) : Int))).eval = _
    rw [rep_set, rep_snoc]
    exact e
theorem sLong_E : EnvSound Try.prog E_sLong := mkE_sound (by simp [])
theorem sLong_sound : Sound Try.prog 97 (sg [pI, pU8] [rS]) longSpec := vBody_sound sLong_E noInl_ok Try.func97 (by kernel_rfl) fun cs outs hk h => by
  unfold longSpec at h
  split at h
  · simp only [Option.some.injEq, Prod.mk.injEq, Bool.and_eq_true, decide_eq_true_eq, in_iff] at h
    obtain ⟨⟨h1, h2⟩, rfl⟩ := h
    rename_i n x
    obtain ⟨n, rfl⟩ := Int.eq_ofNat_of_zero_le h1.1
    obtain ⟨x, rfl⟩ := Int.eq_ofNat_of_zero_le h2.1
    rw [vBody_L, sLong_tree]
    refine must_go (by rw [decide_eq_true (by omega), decide_eq_true (by omega), decide_eq_true (by omega)]; rfl) ?_
    exact sLong_loop x (by omega) n (by omega) n 9223372036854775808 0 (by omega) (by omega)
  · cases h

theorem r9T_len (rows : List (List C)) (i h : Int) : (r9T rows i h).length ≤ 61 := by
  unfold r9T
  have b := below_range rows (belowI rows i 12) (belowH h 12) 2 (by omega)
  split
  · rw [List.length_replicate]; omega
  · have := rcT_len rows (belowI rows i 12) (belowH h 12)
    omega
theorem sRecord9D_E : EnvSound Try.prog E_sRecord9D := mkE_sound (by simp [sBelow_sound, sOnce_sound, sRecordD_sound, sLong_sound])
theorem sRecord9D_sound : Sound Try.prog 65 (⟨[pCur], [rS], true⟩) r9Spec := vBody_sound sRecord9D_E noInl_ok Try.func65 (by kernel_rfl) fun cs outs hk h => by
  unfold r9Spec at h
  split at h
  · simp only [Option.some.injEq, Prod.mk.injEq] at h
    obtain ⟨h1, rfl⟩ := h
    rename_i rows i hh
    rw [vBody_L, sRecord9D_tree]
    have o1 := belowI_ok rows i 12 h1
    have b := below_range rows (belowI rows i 12) (belowH hh 12) 2 (by omega)
    have w : IntKind.i64.wrap (60 + below rows (belowI rows i 12) (belowH hh 12) 2) = 60 + below rows (belowI rows i 12) (belowH hh 12) 2 := by rw [wrap64] <;> omega
    unfold r9T r9I r9H
    by_cases c : below rows i hh 12 = 0
    · rw [w]
      refine must_go h1 (ask_yes (decide_eq_true c) (must_go o1 (must_go (by rw [decide_eq_true (by omega)]; rfl) ?_)))
      rw [if_pos c, if_pos c, if_pos c]; rfl
    · refine must_go h1 (ask_no (decide_eq_false c) (must_go o1 ?_))
      rw [if_neg c, if_neg c, if_neg c]; rfl
  · cases h

theorem sDrawFrameText_E : EnvSound Try.prog E_sDrawFrameText := mkD_sound (by simp [sPickInt_sound, sVersionD_sound, sRecord9D_sound])
theorem sDrawFrameText_sound : Sound Try.prog 25 (⟨[pCode], [rI, rI, rS], true⟩) drawFrameSpec := vBody_sound sDrawFrameText_E (sumInl_ok drawS_ok) Try.func25 (by kernel_rfl) fun cs outs hk h => by
  unfold drawFrameSpec at h
  split at h
  · simp only [Option.some.injEq, Prod.mk.injEq] at h
    obtain ⟨h1, rfl⟩ := h
    rename_i rows
    rw [vBody_L, sDrawFrameText_tree]
    have o1 := belowI_ok rows 0 8 h1
    exact must_go h1 (must_go h1 (must_go (by rw [o1]; rfl) (must_go (belowI_ok _ _ _ o1) rfl)))
  · cases h

theorem lMany_loop (n : Nat) (hn : n ≤ 100000) : ∀ (f m j : Nat), j + f = n → f < m →
    (vLoop E_lMany noInl (sg [pI] [rS]) Try.f32 [.r, .r, .l, .r, .b] m (H_lMany n j (rowsOfStr (List.replicate j 113)) j)).eval = some [.str (List.replicate n 113)] := by
  intro f
  induction f with
  | zero =>
    intro m j h1 h2
    obtain ⟨m, rfl⟩ : ∃ q, m = q + 1 := ⟨m - 1, by omega⟩
    have : j = n := by omega
    subst this
    rw [vLoop_L _ _ _ _ _ _ _ (by kernel_rfl), lMany_round0]
    have c : ¬ ((j : Int) < (j : Int)) := by omega
    have tk : List.take j (rowsOfStr (List.replicate j 113)) = rowsOfStr (List.replicate j 113) := List.take_of_length_le (by rw [rows_length]; simp)
    rw [tk]
    refine ask_no (decide_eq_false c) (must_go (rows_bytes _) ?_)
    rw [str_rows]; rfl
  | succ f ih =>
    intro m j h1 h2
    obtain ⟨m, rfl⟩ : ∃ q, m = q + 1 := ⟨m - 1, by omega⟩
    rw [vLoop_L _ _ _ _ _ _ _ (by kernel_rfl), lMany_round0]
    have w : IntKind.i64.wrap ((j : Int) + 1) = ((j + 1 : Nat) : Int) := by rw [wrap64] <;> omega
    have e := ih m (j + 1) (by omega) (by omega)
    have rl : (rowsOfStr (List.replicate j 113)).length = j := by rw [rows_length]; simp
    have ro : roomy (j + 1) 1 = true := by simp only [roomy, decide_eq_true_eq]; omega
    have ap : (rowsOfStr (List.replicate j 113)).append [[C.int .u8 (113 : Int)]] = rowsOfStr (List.replicate (j + 1) 113) := by
      rw [List.append_eq, rows_rep, rows_rep]
      have := rep_snoc [C.int .u8 (113 : Int)] [] j
      rw [List.append_nil] at this
      exact this
    refine ask_yes (decide_eq_true (by omega)) (must_go (by rw [rl, ro, decide_eq_true rfl]; rfl) ?_)
    rw [w, rl, ap]
    exact e
theorem lMany_E : EnvSound Try.prog E_lMany := mkE_sound (by simp [])
theorem lMany_sound : Sound Try.prog 32 (sg [pI] [rS]) manySpec := vBody_sound lMany_E noInl_ok Try.func32 (by kernel_rfl) fun cs outs hk h => by
  unfold manySpec at h
  split at h
  · simp only [Option.some.injEq, Prod.mk.injEq, decide_eq_true_eq] at h
    obtain ⟨h1, rfl⟩ := h
    rename_i n
    obtain ⟨n, rfl⟩ := Int.eq_ofNat_of_zero_le h1.1
    rw [vBody_L, lMany_tree]
    exact lMany_loop n (by omega) n 9223372036854775808 0 (by omega) (by omega)
  · cases h

theorem sDrawFirstHit_E : EnvSound Try.prog E_sDrawFirstHit := mkD_sound (by simp [sBelow_sound, sPickInt_sound, sFile_sound])
theorem sDrawFirstHit_sound : Sound Try.prog 48 (⟨[pCode], [rS, rI, rI], true⟩) drawHitSpec := vBody_sound sDrawFirstHit_E (sumInl_ok drawS_ok) Try.func48 (by kernel_rfl) fun cs outs hk h => by
  unfold drawHitSpec at h
  split at h
  · simp only [Option.some.injEq, Prod.mk.injEq] at h
    obtain ⟨h1, rfl⟩ := h
    rename_i rows
    rw [vBody_L, sDrawFirstHit_tree]
    have o1 : curOk rows (fileI rows 0 (newH rows)) = true := fileI_ok rows 0 (newH rows) h1
    have o2 := belowI_ok rows _ (IntKind.i64.wrap (((fileT rows 0 (newH rows)).length : Int) + 1)) o1
    exact must_go h1 (must_go h1 (must_go o1 (must_go (by rw [o2]; rfl) (must_go (by rw [belowI_ok _ _ _ o2]; rfl) rfl))))
  · cases h

theorem sDrawHeadHit_E : EnvSound Try.prog E_sDrawHeadHit := mkE_sound (by simp [sDrawFirstHit_sound])
theorem sDrawHeadHit_sound : Sound Try.prog 41 (⟨[pCode], [rS, rI, rI], true⟩) drawHitSpec := vBody_sound sDrawHeadHit_E noInl_ok Try.func41 (by kernel_rfl) fun cs outs hk h => by
  unfold drawHitSpec at h
  split at h
  · simp only [Option.some.injEq, Prod.mk.injEq] at h
    obtain ⟨h1, rfl⟩ := h
    rw [vBody_L, sDrawHeadHit_tree]
    exact must_go h1 rfl
  · cases h

theorem sDrawSizesHit_E : EnvSound Try.prog E_sDrawSizesHit := mkE_sound (by simp [sDrawFirstHit_sound])
theorem sDrawSizesHit_sound : Sound Try.prog 51 (⟨[pCode], [rS, rI, rI], true⟩) drawHitSpec := vBody_sound sDrawSizesHit_E noInl_ok Try.func51 (by kernel_rfl) fun cs outs hk h => by
  unfold drawHitSpec at h
  split at h
  · simp only [Option.some.injEq, Prod.mk.injEq] at h
    obtain ⟨h1, rfl⟩ := h
    rw [vBody_L, sDrawSizesHit_tree]
    exact must_go h1 rfl
  · cases h

theorem sDrawFrameRange_E : EnvSound Try.prog E_sDrawFrameRange := mkD_sound (by simp [sBelow_sound, sFile_sound])
theorem sDrawFrameRange_sound : Sound Try.prog 45 (⟨[pCode], [rS, rI], true⟩) drawRangeSpec := vBody_sound sDrawFrameRange_E (sumInl_ok drawS_ok) Try.func45 (by kernel_rfl) fun cs outs hk h => by
  unfold drawRangeSpec at h
  split at h
  · simp only [Option.some.injEq, Prod.mk.injEq] at h
    obtain ⟨h1, rfl⟩ := h
    rename_i rows
    rw [vBody_L, sDrawFrameRange_tree]
    have o1 : curOk rows (fileI rows 0 (newH rows)) = true := fileI_ok rows 0 (newH rows) h1
    exact must_go h1 (must_go h1 (must_go o1 rfl))
  · cases h

end Go.Proofs.Ythpcgbnochcbcaa.V
