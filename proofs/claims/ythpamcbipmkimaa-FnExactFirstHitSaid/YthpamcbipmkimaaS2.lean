/- Functions of the given program and of its reference: what each returns, as an equation over data; by the interpreter. -/
import Derived.Test.YthpamcbipmkimaaS
import Derived.Test.YthpamcbipmkimaaProg
import Derived.KernelRfl
set_option linter.unusedVariables false
set_option linter.unusedSimpArgs false
set_option linter.unusedSectionVars false
set_option linter.deprecated false
namespace Go.Proofs.Ythpamcbipmkimaa.V
noncomputable section

def crcStep (x : Nat) : Nat := if x % 2 = 1 then (x / 2) ^^^ 2197175160 else x / 2
def crcIter : Nat → Nat → Nat
  | 0, x => x
  | n + 1, x => crcIter n (crcStep x)
def crcByte (s b : Nat) : Nat := crcIter 8 (s ^^^ b)
def low32 (s : Int) : Nat := (s % 4294967296).toNat
def crcFold (x : Nat) (t : List UInt8) : Nat := t.foldl (fun x c => crcByte x c.toNat) x
def crcMore (s : Nat) (t : List UInt8) : Nat := crcFold (s ^^^ 4294967295) t ^^^ 4294967295
def sumByteSpec : Spec := fun cs => match cs with
  | [.int .i64 s, .int .i64 b] => some (true, [.int .i64 (crcByte (low32 s) (b % 256).toNat : Nat)])
  | _ => none
def sumByte32Spec : Spec := fun cs => match cs with
  | [.int .u32 s, .int .u8 b] => some (decide (0 ≤ s ∧ s ≤ 4294967295) && decide (0 ≤ b ∧ b ≤ 255), [.int .u32 (crcByte s.toNat b.toNat : Nat)])
  | _ => none
def sumMoreSpec : Spec := fun cs => match cs with
  | [.int .i64 s, .str t] => some (decide (t.length ≤ 281474976710656), [.int .i64 (crcMore (low32 s) t : Nat)])
  | _ => none
def sumOfSpec : Spec := fun cs => match cs with
  | [.str t] => some (decide (t.length ≤ 281474976710656), [.int .i64 (crcMore 0 t : Nat)])
  | _ => none
def H_sSumByte (x i : Int) : St := st0 [(5, int64 x), (6, int64 i)]
def H_iSumByte32 (x i : Int) : St := st0 [(0, .l (.i .u32 x)), (10, int64 i)]
def H_sSumMore (t : List UInt8) (x i : Int) : St := st0 [(1, wstr t), (5, int64 x), (6, int64 i)]
def H_iSumMore (t : List UInt8) (x n i : Int) : St := st0 [(1, wstr t), (5, .l (.i .u32 x)), (11, int64 n), (12, int64 i)]
def E_sSumByte : Env := mkE [(3, [5, 6])] []
def E_iSumByte32 : Env := mkE [(3, [0, 10])] []
def E_sSumMore : Env := mkE [(3, [1, 5, 6])] [(175, (sg [pI, pI] [rI]), sumByteSpec)]
def E_iSumMore : Env := mkE [(3, [1, 5, 11, 12])] [(174, (sg [pU32, pU8] [rU32]), sumByte32Spec)]
def E_sSumOf : Env := mkE [] [(156, (sg [pI, pS] [rI]), sumMoreSpec)]
def E_iSumOf : Env := mkE [] [(155, (sg [pI, pS] [rI]), sumMoreSpec)]

end
end Go.Proofs.Ythpamcbipmkimaa.V

namespace Go.Proofs.Ythpamcbipmkimaa.V
set_option maxRecDepth 100000
theorem sSumByte_tree (H : List Pt → Nat → St → T (List C)) (s : Int) (b : Int) : vBodyL E_sSumByte (0 : Nat) (sg [pI, pI] [rI]) Try.f175 H [C.int IntKind.i64 s, C.int IntKind.i64 b] =
 (.must true
 (H [Pt.r, Pt.r, Pt.l, Pt.r, Pt.b] (9223372036854775808 : Nat) (H_sSumByte (ixor IntKind.i64 (iand IntKind.i64 s (4294967295 : Int)) (iand IntKind.i64 b (255 : Int))) ((0 : Int))))) := by kernel_rfl
theorem iSumByte32_tree (H : List Pt → Nat → St → T (List C)) (s : Int) (b : Int) : vBodyL E_iSumByte32 (0 : Nat) (sg [pU32, pU8] [rU32]) Try.f174 H [C.int IntKind.u32 s, C.int IntKind.u8 b] =
 (.must true
 (H [Pt.r, Pt.r, Pt.l, Pt.r, Pt.b] (9223372036854775808 : Nat) (H_iSumByte32 (ixor IntKind.u32 s (IntKind.u32.wrap b)) ((0 : Int))))) := by kernel_rfl
theorem sSumByte_round0 (H : List Pt → Nat → St → T (List C)) (x : Int) (i : Int) (k : Nat) : vRound E_sSumByte (0 : Nat) (sg [pI, pI] [rI]) Try.f175 H [Pt.r, Pt.r, Pt.l, Pt.r, Pt.b] k (H_sSumByte x i) =
 (.ask (decide (i < (8 : Int)))
 (.ask (decide (iand IntKind.i64 x (1 : Int) = (1 : Int)))
  (.must true
   (H [Pt.r, Pt.r, Pt.l, Pt.r, Pt.b] k (H_sSumByte (ixor IntKind.i64 (ishr IntKind.i64 x (1 : Int)) (2197175160 : Int)) (IntKind.i64.wrap (i + (1 : Int))))))
  (.must true
   (H [Pt.r, Pt.r, Pt.l, Pt.r, Pt.b] k (H_sSumByte (ishr IntKind.i64 x (1 : Int)) (IntKind.i64.wrap (i + (1 : Int)))))))
 (.must true
  (.ret [C.int IntKind.i64 x]))) := by kernel_rfl
theorem iSumByte32_round0 (H : List Pt → Nat → St → T (List C)) (x : Int) (i : Int) (k : Nat) : vRound E_iSumByte32 (0 : Nat) (sg [pU32, pU8] [rU32]) Try.f174 H [Pt.r, Pt.r, Pt.l, Pt.r, Pt.b] k (H_iSumByte32 x i) =
 (.ask (decide (i < (8 : Int)))
 (.ask (decide (iand IntKind.u32 x (1 : Int) = (1 : Int)))
  (.must true
   (H [Pt.r, Pt.r, Pt.l, Pt.r, Pt.b] k (H_iSumByte32 (ixor IntKind.u32 (ishr IntKind.u32 x (1 : Int)) (2197175160 : Int)) (IntKind.i64.wrap (i + (1 : Int))))))
  (.must true
   (H [Pt.r, Pt.r, Pt.l, Pt.r, Pt.b] k (H_iSumByte32 (ishr IntKind.u32 x (1 : Int)) (IntKind.i64.wrap (i + (1 : Int)))))))
 (.must true
  (.ret [C.int IntKind.u32 x]))) := by kernel_rfl
theorem sSumMore_round0 (H : List Pt → Nat → St → T (List C)) (t : List UInt8) (x : Int) (i : Int) (k : Nat) : vRound E_sSumMore (0 : Nat) (sg [pI, pS] [rI]) Try.f156 H [Pt.r, Pt.r, Pt.l, Pt.r, Pt.b] k (H_sSumMore t x i) =
 (.ask (decide (i < (↑t.length : Int)))
 (.must (decide ((0 : Int) ≤ i) && decide (i < (↑t.length : Int)))
  (.must true
   (.must true
    (.must true
     (H [Pt.r, Pt.r, Pt.l, Pt.r, Pt.b] k (H_sSumMore (t) (Int.ofNat (crcByte (low32 x) (IntKind.i64.wrap (↑(t.getD i.toNat (0 : UInt8)).toNat : Int) % (256 : Int)).toNat)) (IntKind.i64.wrap (i + (1 : Int)))))))))
 (.must true
  (.ret [C.int IntKind.i64 (ixor IntKind.i64 x (4294967295 : Int))]))) := by kernel_rfl
theorem iSumMore_round0 (H : List Pt → Nat → St → T (List C)) (t : List UInt8) (x : Int) (n : Int) (i : Int) (k : Nat) : vRound E_iSumMore (0 : Nat) (sg [pI, pS] [rI]) Try.f155 H [Pt.r, Pt.r, Pt.l, Pt.r, Pt.b] k (H_iSumMore t x n i) =
 (.ask (decide (i < n))
 (.must (decide ((0 : Int) ≤ i) && decide (i < (↑t.length : Int)))
  (.must true
   (.must (decide ((0 : Int) ≤ x ∧ x ≤ (4294967295 : Int)) &&
  decide
    ((0 : Int) ≤ (↑(t.getD i.toNat (0 : UInt8)).toNat : Int) ∧
      (↑(t.getD i.toNat (0 : UInt8)).toNat : Int) ≤ (255 : Int)))
    (.must true
     (H [Pt.r, Pt.r, Pt.l, Pt.r, Pt.b] k (H_iSumMore (t) (Int.ofNat (crcByte x.toNat (↑(t.getD i.toNat (0 : UInt8)).toNat : Int).toNat)) (n) (IntKind.i64.wrap (i + (1 : Int)))))))))
 (.must true
  (.ret [C.int IntKind.i64 (IntKind.i64.wrap (ixor IntKind.u32 x (4294967295 : Int)))]))) := by kernel_rfl
theorem sSumMore_tree (H : List Pt → Nat → St → T (List C)) (s : Int) (t : List UInt8) : vBodyL E_sSumMore (0 : Nat) (sg [pI, pS] [rI]) Try.f156 H [C.int IntKind.i64 s, C.str t] =
 (.must true
 (H [Pt.r, Pt.r, Pt.l, Pt.r, Pt.b] (9223372036854775808 : Nat) (H_sSumMore (t) (ixor IntKind.i64 (iand IntKind.i64 s (4294967295 : Int)) (4294967295 : Int)) ((0 : Int))))) := by kernel_rfl
theorem iSumMore_tree (H : List Pt → Nat → St → T (List C)) (s : Int) (t : List UInt8) : vBodyL E_iSumMore (0 : Nat) (sg [pI, pS] [rI]) Try.f155 H [C.int IntKind.i64 s, C.str t] =
 (.must true
 (H [Pt.r, Pt.r, Pt.l, Pt.r, Pt.b] (9223372036854775808 : Nat) (H_iSumMore (t) (ixor IntKind.u32 (IntKind.u32.wrap s) (4294967295 : Int)) ((↑t.length : Int)) ((0 : Int))))) := by kernel_rfl
theorem sSumOf_tree (H : List Pt → Nat → St → T (List C)) (t : List UInt8) : vBodyL E_sSumOf (0 : Nat) (sg [pS] [rI]) Try.f124 H [C.str t] =
 (.must true
 (.must true
  (.must (decide (t.length ≤ (281474976710656 : Nat)))
   (.must true
    (.must true
     (.ret [C.int IntKind.i64 (Int.ofNat (crcMore (low32 (0 : Int)) t))])))))) := by kernel_rfl
theorem iSumOf_tree (H : List Pt → Nat → St → T (List C)) (t : List UInt8) : vBodyL E_iSumOf (0 : Nat) (sg [pS] [rI]) Try.f119 H [C.str t] =
 (.must true
 (.must true
  (.must (decide (t.length ≤ (281474976710656 : Nat)))
   (.must true
    (.must true
     (.ret [C.int IntKind.i64 (Int.ofNat (crcMore (low32 (0 : Int)) t))])))))) := by kernel_rfl
end Go.Proofs.Ythpamcbipmkimaa.V

namespace Go.Proofs.Ythpamcbipmkimaa.V

theorem iand32 (s : Int) : iand .i64 s 4294967295 = (low32 s : Int) := by
  show IntKind.i64.wrap (((BitVec.ofInt 64 s &&& BitVec.ofInt 64 4294967295).toNat : Nat) : Int) = _
  rw [BitVec.toNat_and]
  have h1 : (BitVec.ofInt 64 4294967295).toNat = 2 ^ 32 - 1 := by decide
  have h2 : (BitVec.ofInt 64 s).toNat = (s % 18446744073709551616).toNat := by simp [BitVec.toNat_ofInt]
  rw [h1, h2, Nat.and_two_pow_sub_one_eq_mod]
  unfold low32
  rw [wrap64] <;> omega
theorem iand255 (s : Int) : iand .i64 s 255 = s % 256 := by
  show IntKind.i64.wrap (((BitVec.ofInt 64 s &&& BitVec.ofInt 64 255).toNat : Nat) : Int) = _
  rw [BitVec.toNat_and]
  have h1 : (BitVec.ofInt 64 255).toNat = 2 ^ 8 - 1 := by decide
  have h2 : (BitVec.ofInt 64 s).toNat = (s % 18446744073709551616).toNat := by simp [BitVec.toNat_ofInt]
  rw [h1, h2, Nat.and_two_pow_sub_one_eq_mod, wrap64] <;> omega
theorem ixor64_nat (a b : Nat) (ha : a < 4294967296) (hb : b < 4294967296) : ixor .i64 (a : Int) (b : Int) = ((a ^^^ b : Nat) : Int) := by
  show IntKind.i64.wrap (((BitVec.ofInt 64 (a : Int) ^^^ BitVec.ofInt 64 (b : Int)).toNat : Nat) : Int) = _
  rw [BitVec.toNat_xor]
  have h1 : (BitVec.ofInt 64 (a : Int)).toNat = a := by simp [BitVec.toNat_ofInt]; omega
  have h2 : (BitVec.ofInt 64 (b : Int)).toNat = b := by simp [BitVec.toNat_ofInt]; omega
  have h3 : a ^^^ b < 4294967296 := Nat.xor_lt_two_pow (n := 32) ha hb
  rw [h1, h2, wrap64] <;> omega
theorem ixor32_nat (a b : Nat) (ha : a < 4294967296) (hb : b < 4294967296) : ixor .u32 (a : Int) (b : Int) = ((a ^^^ b : Nat) : Int) := by
  show IntKind.u32.wrap (((BitVec.ofInt 32 (a : Int) ^^^ BitVec.ofInt 32 (b : Int)).toNat : Nat) : Int) = _
  rw [BitVec.toNat_xor]
  have h1 : (BitVec.ofInt 32 (a : Int)).toNat = a := by simp [BitVec.toNat_ofInt]; omega
  have h2 : (BitVec.ofInt 32 (b : Int)).toNat = b := by simp [BitVec.toNat_ofInt]; omega
  have h3 : a ^^^ b < 4294967296 := Nat.xor_lt_two_pow (n := 32) ha hb
  rw [h1, h2, wrapU32] <;> omega
theorem iand32_one (x : Int) : iand .u32 x 1 = x % 2 := by
  show IntKind.u32.wrap (((BitVec.ofInt 32 x &&& BitVec.ofInt 32 1).toNat : Nat) : Int) = _
  rw [BitVec.toNat_and]
  have h1 : (BitVec.ofInt 32 1).toNat = 1 := by decide
  have h2 : (BitVec.ofInt 32 x).toNat = (x % 4294967296).toNat := by simp [BitVec.toNat_ofInt]
  rw [h1, h2, Nat.and_one_is_mod, wrapU32] <;> omega
theorem ishr32_one (x : Int) : ishr .u32 x 1 = x / 2 := by
  show x.fdiv (2 ^ (min (Int.toNat 1) 32)) = _
  rw [Int.fdiv_eq_ediv_of_nonneg] <;> simp
theorem wrapU32_low (s : Int) : IntKind.u32.wrap s = (low32 s : Int) := by
  unfold low32
  simp only [IntKind.wrap, IntKind.bits, IntKind.signed]
  simp
  omega
theorem low32_lt (s : Int) : low32 s < 4294967296 := by unfold low32; omega
theorem crcStep_lt (x : Nat) (h : x < 4294967296) : crcStep x < 4294967296 := by
  unfold crcStep
  split
  · exact Nat.xor_lt_two_pow (n := 32) (by omega) (by omega)
  · omega
theorem crcIter_lt : ∀ (n x : Nat), x < 4294967296 → crcIter n x < 4294967296
  | 0, x, h => h
  | n + 1, x, h => crcIter_lt n _ (crcStep_lt x h)
theorem crcByte_lt (s b : Nat) (hs : s < 4294967296) (hb : b < 256) : crcByte s b < 4294967296 :=
  crcIter_lt 8 _ (Nat.xor_lt_two_pow (n := 32) hs (by omega))
theorem crcFold_lt : ∀ (t : List UInt8) (x : Nat), x < 4294967296 → crcFold x t < 4294967296
  | [], x, h => h
  | c :: t, x, h => crcFold_lt t _ (crcByte_lt x c.toNat h c.toNat_lt)
theorem crcMore_lt (s : Nat) (t : List UInt8) (hs : s < 4294967296) : crcMore s t < 4294967296 :=
  Nat.xor_lt_two_pow (n := 32) (crcFold_lt t _ (Nat.xor_lt_two_pow (n := 32) hs (by omega))) (by omega)

theorem sSumByte_loop : ∀ (n i x : Nat), x < 4294967296 → i ≤ 8 → 8 < i + n →
    (vLoop E_sSumByte 0 (sg [pI, pI] [rI]) Try.f175 [.r, .r, .l, .r, .b] n (H_sSumByte x i)).eval = some [.int .i64 (crcIter (8 - i) x : Nat)] := by
  intro n
  induction n with
  | zero => intro i x hx h1 h2; omega
  | succ n ih =>
    intro i x hx h1 h2
    rw [vLoop_L _ _ _ _ _ _ _ (by kernel_rfl), sSumByte_round0]
    by_cases hi : i < 8
    · have e := ih (i + 1) (crcStep x) (crcStep_lt x hx) (by omega) (by omega)
      have hs : 8 - i = (8 - (i + 1)) + 1 := by omega
      have w : IntKind.i64.wrap ((i : Int) + 1) = ((i + 1 : Nat) : Int) := by rw [wrap64] <;> omega
      have hi' : (i : Int) < 8 := by omega
      have d : (x : Int) / 2 = ((x / 2 : Nat) : Int) := by omega
      have m : (x : Int) % 2 = ((x % 2 : Nat) : Int) := by omega
      have hx2 : ixor .i64 ((x / 2 : Nat) : Int) 2197175160 = ((x / 2 ^^^ 2197175160 : Nat) : Int) := ixor64_nat (x / 2) 2197175160 (by omega) (by omega)
      rw [hs]
      simp only [crcIter]
      rw [← e]
      simp only [eval_must', eval_ask', eval_ret', if_true, decide_eq_true_eq, w, hi', iand_one, ishr_one, d, m, hx2]
      unfold crcStep
      by_cases ho : x % 2 = 1
      · simp [ho]
      · simp only [ho, if_false]; rw [if_neg (by omega)]
    · have : i = 8 := by omega
      subst this
      simp [eval_must', eval_ask', eval_ret', crcIter]
theorem sSumByte_E : EnvSound Try.prog E_sSumByte := mkE_sound (by simp [])
theorem sSumByte_sound : Sound Try.prog 175 (sg [pI, pI] [rI]) sumByteSpec := vBody_sound (depth := 0) sSumByte_E Try.func175 (by kernel_rfl) fun cs outs hk h => by
  unfold sumByteSpec at h
  split at h
  · simp only [Option.some.injEq, Prod.mk.injEq, true_and] at h
    rename_i s b
    rw [← h, vBody_L, sSumByte_tree]
    have e : b % 256 = ((b % 256).toNat : Int) := by omega
    have hb : (b % 256).toNat < 256 := by omega
    simp only [eval_must', if_true, iand32, iand255]
    rw [e, ixor64_nat _ _ (low32_lt s) (by omega)]
    exact sSumByte_loop _ 0 _ (Nat.xor_lt_two_pow (n := 32) (low32_lt s) (by omega)) (by omega) (by omega)
  · cases h

theorem iSumByte32_loop : ∀ (n i x : Nat), x < 4294967296 → i ≤ 8 → 8 < i + n →
    (vLoop E_iSumByte32 0 (sg [pU32, pU8] [rU32]) Try.f174 [.r, .r, .l, .r, .b] n (H_iSumByte32 x i)).eval = some [.int .u32 (crcIter (8 - i) x : Nat)] := by
  intro n
  induction n with
  | zero => intro i x hx h1 h2; omega
  | succ n ih =>
    intro i x hx h1 h2
    rw [vLoop_L _ _ _ _ _ _ _ (by kernel_rfl), iSumByte32_round0]
    by_cases hi : i < 8
    · have e := ih (i + 1) (crcStep x) (crcStep_lt x hx) (by omega) (by omega)
      have hs : 8 - i = (8 - (i + 1)) + 1 := by omega
      have w : IntKind.i64.wrap ((i : Int) + 1) = ((i + 1 : Nat) : Int) := by rw [wrap64] <;> omega
      have hi' : (i : Int) < 8 := by omega
      have d : (x : Int) / 2 = ((x / 2 : Nat) : Int) := by omega
      have m : (x : Int) % 2 = ((x % 2 : Nat) : Int) := by omega
      have hx2 : ixor .u32 ((x / 2 : Nat) : Int) 2197175160 = ((x / 2 ^^^ 2197175160 : Nat) : Int) := ixor32_nat (x / 2) 2197175160 (by omega) (by omega)
      rw [hs]
      simp only [crcIter]
      rw [← e]
      simp only [eval_must', eval_ask', eval_ret', if_true, decide_eq_true_eq, w, hi', iand32_one, ishr32_one, d, m, hx2]
      unfold crcStep
      by_cases ho : x % 2 = 1
      · simp [ho]
      · simp only [ho, if_false]; rw [if_neg (by omega)]
    · have : i = 8 := by omega
      subst this
      simp [eval_must', eval_ask', eval_ret', crcIter]
theorem iSumByte32_E : EnvSound Try.prog E_iSumByte32 := mkE_sound (by simp [])
theorem iSumByte32_sound : Sound Try.prog 174 (sg [pU32, pU8] [rU32]) sumByte32Spec := vBody_sound (depth := 0) iSumByte32_E Try.func174 (by kernel_rfl) fun cs outs hk h => by
  unfold sumByte32Spec at h
  split at h
  · simp only [Option.some.injEq, Prod.mk.injEq, Bool.and_eq_true, decide_eq_true_eq] at h
    obtain ⟨⟨⟨h1, h2⟩, h3, h4⟩, rfl⟩ := h
    rename_i s b
    obtain ⟨s, rfl⟩ := Int.eq_ofNat_of_zero_le h1
    obtain ⟨b, rfl⟩ := Int.eq_ofNat_of_zero_le h3
    rw [vBody_L, iSumByte32_tree]
    simp only [eval_must', if_true, Int.toNat_natCast]
    rw [wrapU32 (by omega) (by omega), ixor32_nat _ _ (by omega) (by omega)]
    exact iSumByte32_loop _ 0 _ (Nat.xor_lt_two_pow (n := 32) (by omega) (by omega)) (by omega) (by omega)
  · cases h

theorem drop_step (t : List UInt8) (i : Nat) (h : i < t.length) : t.drop i = t.getD i 0 :: t.drop (i + 1) := by
  rw [List.drop_eq_getElem_cons h]; simp [List.getD_eq_getElem?_getD, h]
theorem sSumMore_loop (t : List UInt8) (ht : t.length ≤ 281474976710656) : ∀ (n i x : Nat), x < 4294967296 → i ≤ t.length → t.length < i + n →
    (vLoop E_sSumMore 0 (sg [pI, pS] [rI]) Try.f156 [.r, .r, .l, .r, .b] n (H_sSumMore t x i)).eval = some [.int .i64 (crcFold x (t.drop i) ^^^ 4294967295 : Nat)] := by
  intro n
  induction n with
  | zero => intro i x hx h1 h2; omega
  | succ n ih =>
    intro i x hx h1 h2
    rw [vLoop_L _ _ _ _ _ _ _ (by kernel_rfl), sSumMore_round0]
    by_cases hi : i < t.length
    · have hb := byte_lt t i
      have e := ih (i + 1) (crcByte x (t.getD i 0).toNat) (crcByte_lt _ _ hx hb) (by omega) (by omega)
      have w : IntKind.i64.wrap ((i : Int) + 1) = ((i + 1 : Nat) : Int) := by rw [wrap64] <;> omega
      have hz : (0 : Int) ≤ i := by omega
      have w2 : IntKind.i64.wrap ((t.getD i 0).toNat : Int) = ((t.getD i 0).toNat : Int) := by rw [wrap64] <;> omega
      have l1 : low32 (x : Int) = x := by unfold low32; omega
      have l2 : (((t.getD i 0).toNat : Int) % 256).toNat = (t.getD i 0).toNat := by omega
      rw [drop_step t i hi]
      simp only [crcFold, List.foldl_cons] at e ⊢
      simp only [eval_must', eval_ask', eval_ret', if_true, decide_eq_true_eq, Bool.and_eq_true, w, hz, Int.toNat_natCast, Int.ofNat_lt, hi, and_self, w2, l1, l2]
      exact e
    · have : i = t.length := by omega
      subst this
      have hx2 : ixor .i64 (x : Int) 4294967295 = ((x ^^^ 4294967295 : Nat) : Int) := ixor64_nat x 4294967295 hx (by omega)
      simp [eval_must', eval_ask', eval_ret', crcFold, hx2]
theorem sSumMore_E : EnvSound Try.prog E_sSumMore := mkE_sound (by simp [sSumByte_sound])
theorem sSumMore_sound : Sound Try.prog 156 (sg [pI, pS] [rI]) sumMoreSpec := vBody_sound (depth := 0) sSumMore_E Try.func156 (by kernel_rfl) fun cs outs hk h => by
  unfold sumMoreSpec at h
  split at h
  · simp only [Option.some.injEq, Prod.mk.injEq, decide_eq_true_eq] at h
    obtain ⟨h1, rfl⟩ := h
    rename_i s t
    rw [vBody_L, sSumMore_tree]
    have hx2 : ixor .i64 (low32 s : Int) 4294967295 = ((low32 s ^^^ 4294967295 : Nat) : Int) := ixor64_nat _ 4294967295 (low32_lt s) (by omega)
    simp only [eval_must', if_true, iand32, hx2]
    exact sSumMore_loop t h1 _ 0 _ (Nat.xor_lt_two_pow (n := 32) (low32_lt s) (by omega)) (by omega) (by omega)
  · cases h
theorem iSumMore_loop (t : List UInt8) (ht : t.length ≤ 281474976710656) : ∀ (n i x : Nat), x < 4294967296 → i ≤ t.length → t.length < i + n →
    (vLoop E_iSumMore 0 (sg [pI, pS] [rI]) Try.f155 [.r, .r, .l, .r, .b] n (H_iSumMore t x t.length i)).eval = some [.int .i64 (crcFold x (t.drop i) ^^^ 4294967295 : Nat)] := by
  intro n
  induction n with
  | zero => intro i x hx h1 h2; omega
  | succ n ih =>
    intro i x hx h1 h2
    rw [vLoop_L _ _ _ _ _ _ _ (by kernel_rfl), iSumMore_round0]
    by_cases hi : i < t.length
    · have hb := byte_lt t i
      have e := ih (i + 1) (crcByte x (t.getD i 0).toNat) (crcByte_lt _ _ hx hb) (by omega) (by omega)
      have w : IntKind.i64.wrap ((i : Int) + 1) = ((i + 1 : Nat) : Int) := by rw [wrap64] <;> omega
      have hz : (0 : Int) ≤ i := by omega
      have hx1 : (0 : Int) ≤ x := by omega
      have hx2 : (x : Int) ≤ 4294967295 := by omega
      have hb1 : (0 : Int) ≤ ((t.getD i 0).toNat : Int) := by omega
      have hb2 : ((t.getD i 0).toNat : Int) ≤ 255 := by omega
      rw [drop_step t i hi]
      simp only [crcFold, List.foldl_cons] at e ⊢
      simp only [eval_must', eval_ask', eval_ret', if_true, decide_eq_true_eq, Bool.and_eq_true, w, hz, Int.toNat_natCast, Int.ofNat_lt, hi, and_self, hx1, hx2, hb1, hb2]
      exact e
    · have : i = t.length := by omega
      subst this
      have hx2 : ixor .u32 (x : Int) 4294967295 = ((x ^^^ 4294967295 : Nat) : Int) := ixor32_nat x 4294967295 hx (by omega)
      have hl : x ^^^ 4294967295 < 4294967296 := Nat.xor_lt_two_pow (n := 32) hx (by omega)
      have w : IntKind.i64.wrap ((x ^^^ 4294967295 : Nat) : Int) = ((x ^^^ 4294967295 : Nat) : Int) := by rw [wrap64] <;> omega
      simp [eval_must', eval_ask', eval_ret', crcFold, hx2, w]
theorem iSumMore_E : EnvSound Try.prog E_iSumMore := mkE_sound (by simp [iSumByte32_sound])
theorem iSumMore_sound : Sound Try.prog 155 (sg [pI, pS] [rI]) sumMoreSpec := vBody_sound (depth := 0) iSumMore_E Try.func155 (by kernel_rfl) fun cs outs hk h => by
  unfold sumMoreSpec at h
  split at h
  · simp only [Option.some.injEq, Prod.mk.injEq, decide_eq_true_eq] at h
    obtain ⟨h1, rfl⟩ := h
    rename_i s t
    rw [vBody_L, iSumMore_tree]
    have hx2 : ixor .u32 (low32 s : Int) 4294967295 = ((low32 s ^^^ 4294967295 : Nat) : Int) := ixor32_nat _ 4294967295 (low32_lt s) (by omega)
    simp only [eval_must', if_true, wrapU32_low, hx2]
    exact iSumMore_loop t h1 _ 0 _ (Nat.xor_lt_two_pow (n := 32) (low32_lt s) (by omega)) (by omega) (by omega)
  · cases h
theorem sSumOf_E : EnvSound Try.prog E_sSumOf := mkE_sound (by simp [sSumMore_sound])
theorem sSumOf_sound : Sound Try.prog 124 (sg [pS] [rI]) sumOfSpec := vBody_sound (depth := 0) sSumOf_E Try.func124 (by kernel_rfl) fun cs outs hk h => by
  unfold sumOfSpec at h
  split at h
  · simp only [Option.some.injEq, Prod.mk.injEq, decide_eq_true_eq] at h
    obtain ⟨h1, rfl⟩ := h
    rw [vBody_L, sSumOf_tree]
    simp [eval_must', eval_ret', h1]
    rfl
  · cases h
theorem iSumOf_E : EnvSound Try.prog E_iSumOf := mkE_sound (by simp [iSumMore_sound])
theorem iSumOf_sound : Sound Try.prog 119 (sg [pS] [rI]) sumOfSpec := vBody_sound (depth := 0) iSumOf_E Try.func119 (by kernel_rfl) fun cs outs hk h => by
  unfold sumOfSpec at h
  split at h
  · simp only [Option.some.injEq, Prod.mk.injEq, decide_eq_true_eq] at h
    obtain ⟨h1, rfl⟩ := h
    rw [vBody_L, iSumOf_tree]
    simp [eval_must', eval_ret', h1]
    rfl
  · cases h

end Go.Proofs.Ythpamcbipmkimaa.V

namespace Go.Proofs.Ythpamcbipmkimaa.V
noncomputable section

def leBytes : Nat → Nat → List UInt8
  | 0, _ => []
  | k + 1, n => UInt8.ofNat (n % 256) :: leBytes k (n / 256)
def fixOf (n w : Int) : List UInt8 := if 0 ≤ n ∧ 1 ≤ w ∧ w ≤ 8 ∧ n.toNat < 256 ^ w.toNat then leBytes w.toNat n.toNat else []
def leVal : List UInt8 → Nat
  | [] => 0
  | c :: t => c.toNat + 256 * leVal t
def fixVal (b : List UInt8) (at' w : Int) : Nat := leVal ((b.drop at'.toNat).take w.toNat)
def fixOk (b : List UInt8) (at' w : Int) : Bool := decide (1 ≤ w ∧ w ≤ 8 ∧ 0 ≤ at' ∧ at' ≤ b.length - w ∧ fixVal b at' w < 9223372036854775808)
def fixRead (b : List UInt8) (at' w : Int) : Int := if fixOk b at' w then (fixVal b at' w : Int) else 0
def isNumberSpec : Spec := fun cs => match cs with
  | [.int .i64 n] => some (true, [.bool (inB n 0 1000000000)])
  | _ => none
def fixSpec : Spec := fun cs => match cs with
  | [.int .i64 n, .int .i64 w] => some (decide (-9223372036854775808 ≤ n) && decide (n ≤ 9223372036854775807), [.str (fixOf n w)])
  | _ => none
def readFixSpec : Spec := fun cs => match cs with
  | [.str b, .int .i64 a, .int .i64 w] => some (decide (b.length ≤ 281474976710656) && (decide (-9223372036854775808 ≤ a) && decide (a ≤ 9223372036854775807)), [.int .i64 (fixRead b a w), .bool (fixOk b a w)])
  | _ => none
def E_iIsNumber : Env := mkE [] [(95, (sg [pI, pI, pI] [rB]), inSpec)]
def E_sFixText : Env := mkE [(5, [0, 1, 5, 6])] [(93, (sg [pI, pI, pI] [rB]), inSpec)]
def E_iFixText : Env := mkE [(5, [0, 5, 28, 29])] [(95, (sg [pI, pI, pI] [rB]), inSpec)]
def E_sReadFix : Env := mkE [(7, [0, 1, 8, 9])] [(93, (sg [pI, pI, pI] [rB]), inSpec)]
def E_iReadFix : Env := mkE [(5, [0, 1, 8, 22, 23])] [(95, (sg [pI, pI, pI] [rB]), inSpec)]
def H_sFixText (n w : Int) (m : Nat) (r : List (List C)) (i : Int) : St := st1 [(0, int64 n), (1, int64 w), (5, .l (.ref 0 0 m)), (6, int64 i)] 1 r
def H_iFixText (n : Int) (m : Nat) (r : List (List C)) (e i : Int) : St := st1 [(0, int64 n), (5, .l (.ref 0 0 m)), (28, int64 e), (29, int64 i)] 1 r
def H_sReadFix (b : List UInt8) (a n i : Int) : St := st0 [(0, wstr b), (1, int64 a), (8, int64 n), (9, int64 i)]
def H_iReadFix (b : List UInt8) (a n e i : Int) : St := st0 [(0, wstr b), (1, int64 a), (8, int64 n), (22, int64 e), (23, int64 i)]

end
end Go.Proofs.Ythpamcbipmkimaa.V

namespace Go.Proofs.Ythpamcbipmkimaa.V
set_option maxRecDepth 100000
theorem iIsNumber_tree (H : List Pt → Nat → St → T (List C)) (n : Int) : vBodyL E_iIsNumber (0 : Nat) (sg [pI] [rB]) Try.f114 H [C.int IntKind.i64 n] =
 (.must true
 (.must true
  (.must true
   (.must true
    (.ask (inB n (0 : Int) (1000000000 : Int))
     (.must true
      (.ret [C.bool true]))
     (.must true
      (.ret [C.bool false]))))))) := by kernel_rfl
theorem sFixText_tree (H : List Pt → Nat → St → T (List C)) (n : Int) (w : Int) : vBodyL E_sFixText (0 : Nat) (sg [pI, pI] [rS]) Try.f123 H [C.int IntKind.i64 n, C.int IntKind.i64 w] =
 (.must true
 (.ask (decide (n < (0 : Int)))
  (.must true
   (.ret [C.str []]))
  (.must true
   (.must true
    (.must true
     (.ask (inB w (1 : Int) (8 : Int))
      (H [Pt.r, Pt.r, Pt.r, Pt.l, Pt.r, Pt.b] (9223372036854775808 : Nat) (H_sFixText (n) (w) ((0 : Nat)) ([]) ((0 : Int))))
      (.must true
       (.ret [C.str []])))))))) := by kernel_rfl
theorem sFixText_round0 (H : List Pt → Nat → St → T (List C)) (n : Int) (w : Int) (q : Nat) (r : List (List C)) (i : Int) (k : Nat) : vRound E_sFixText (0 : Nat) (sg [pI, pI] [rS]) Try.f123 H [Pt.r, Pt.r, Pt.r, Pt.l, Pt.r, Pt.b] k (H_sFixText n w q r i) =
 (.ask (decide (i < w))
 (.must (decide (q = r.length) && roomy (r.length + (1 : Nat)) (1 : Nat) && (decide ((1 : Nat) = (1 : Nat)) && true))
  (.must true
   (H [Pt.r, Pt.r, Pt.r, Pt.l, Pt.r, Pt.b] k (H_sFixText (ishr IntKind.i64 n (8 : Int)) (w) (r.length + (1 : Nat)) (r.append [[C.int IntKind.u8 (IntKind.u8.wrap n)]]) (IntKind.i64.wrap (i + (1 : Int)))))))
 (.ask (decide ((0 : Int) < n))
  (.must true
   (.ret [C.str []]))
  (.must ((List.take q r).all byteRow)
   (.must true
    (.ret [C.str (strOfRows (List.take q r))]))))) := by kernel_rfl
theorem iFixText_tree (H : List Pt → Nat → St → T (List C)) (n : Int) (w : Int) : vBodyL E_iFixText (0 : Nat) (sg [pI, pI] [rS]) Try.f118 H [C.int IntKind.i64 n, C.int IntKind.i64 w] =
 (.must true
 (.ask (decide (n < (0 : Int)))
  (.must true
   (.ret [C.str []]))
  (.must true
   (.must true
    (.must true
     (.ask (inB w (1 : Int) (8 : Int))
      (.ask (decide (w < (8 : Int)))
       (.must (decide ((0 : Int) ≤ IntKind.i64.wrap ((8 : Int) * w)))
        (.ask (ishr IntKind.i64 n (IntKind.i64.wrap ((8 : Int) * w)) != (0 : Int))
         (.must true
          (.ret [C.str []]))
         (.must (decide ((0 : Int) ≤ w) && decide (w ≤ w) && decide ((↑(1 : Nat) : Int) * w ≤ (281474976710656 : Int)))
          (H [Pt.r, Pt.r, Pt.r, Pt.l, Pt.r, Pt.b] (9223372036854775808 : Nat) (H_iFixText (n) (w.toNat) (List.replicate w.toNat [C.int IntKind.u8 (0 : Int)]) ((↑w.toNat : Int)) ((0 : Int)))))))
       (.must (decide ((0 : Int) ≤ w) && decide (w ≤ w) && decide ((↑(1 : Nat) : Int) * w ≤ (281474976710656 : Int)))
        (H [Pt.r, Pt.r, Pt.r, Pt.l, Pt.r, Pt.b] (9223372036854775808 : Nat) (H_iFixText (n) (w.toNat) (List.replicate w.toNat [C.int IntKind.u8 (0 : Int)]) ((↑w.toNat : Int)) ((0 : Int))))))
      (.must true
       (.ret [C.str []])))))))) := by kernel_rfl
theorem iFixText_round0 (H : List Pt → Nat → St → T (List C)) (n : Int) (q : Nat) (r : List (List C)) (e : Int) (i : Int) (k : Nat) : vRound E_iFixText (0 : Nat) (sg [pI, pI] [rS]) Try.f118 H [Pt.r, Pt.r, Pt.r, Pt.l, Pt.r, Pt.b] k (H_iFixText n q r e i) =
 (.ask (decide (i < e))
 (.must (decide ((0 : Int) ≤ IntKind.i64.wrap ((8 : Int) * i)))
  (.must (decide ((0 : Int) ≤ i) && decide (i < (↑q : Int)))
   (.must (decide ((0 : Nat) + i.toNat < r.length))
    (H [Pt.r, Pt.r, Pt.r, Pt.l, Pt.r, Pt.b] k (H_iFixText (n) (q) (r.set ((0 : Nat) + i.toNat)
  (C.int IntKind.u8 (IntKind.u8.wrap (ishr IntKind.i64 n (IntKind.i64.wrap ((8 : Int) * i)))) ::
    List.drop ((0 : Nat) + (1 : Nat)) (r.getD ((0 : Nat) + i.toNat) []))) (e) (IntKind.i64.wrap (i + (1 : Int))))))))
 (.must ((List.take q r).all byteRow)
  (.must true
   (.ret [C.str (strOfRows (List.take q r))])))) := by kernel_rfl
theorem sReadFix_tree (H : List Pt → Nat → St → T (List C)) (b : List UInt8) (a : Int) (w : Int) : vBodyL E_sReadFix (0 : Nat) (sg [pS, pI, pI] [rI, rB]) Try.f127 H [C.str b, C.int IntKind.i64 a, C.int IntKind.i64 w] =
 (.must true
 (.must true
  (.must true
   (.must true
    (.ask (inB w (1 : Int) (8 : Int))
     (.must true
      (.must true
       (.must true
        (.ask (inB a (0 : Int) (IntKind.i64.wrap ((↑b.length : Int) - w)))
         (.ask (decide (w = (8 : Int)))
          (.must (decide ((0 : Int) ≤ IntKind.i64.wrap (a + (7 : Int))) && decide (IntKind.i64.wrap (a + (7 : Int)) < (↑b.length : Int)))
           (.ask (decide ((127 : Int) < (↑(b.getD (IntKind.i64.wrap (a + (7 : Int))).toNat (0 : UInt8)).toNat : Int)))
            (.must true
             (.ret [C.int IntKind.i64 (0 : Int), C.bool false]))
            (H [Pt.r, Pt.r, Pt.r, Pt.r, Pt.l, Pt.r, Pt.b] (9223372036854775808 : Nat) (H_sReadFix (b) (a) ((0 : Int)) (IntKind.i64.wrap (w - (1 : Int)))))))
          (H [Pt.r, Pt.r, Pt.r, Pt.r, Pt.l, Pt.r, Pt.b] (9223372036854775808 : Nat) (H_sReadFix (b) (a) ((0 : Int)) (IntKind.i64.wrap (w - (1 : Int))))))
         (.must true
          (.ret [C.int IntKind.i64 (0 : Int), C.bool false]))))))
     (.must true
      (.ret [C.int IntKind.i64 (0 : Int), C.bool false]))))))) := by kernel_rfl
theorem sReadFix_round0 (H : List Pt → Nat → St → T (List C)) (b : List UInt8) (a : Int) (n : Int) (i : Int) (k : Nat) : vRound E_sReadFix (0 : Nat) (sg [pS, pI, pI] [rI, rB]) Try.f127 H [Pt.r, Pt.r, Pt.r, Pt.r, Pt.l, Pt.r, Pt.b] k
  (H_sReadFix b a n i) =
 (.ask (decide ((0 : Int) ≤ i))
 (.must true
  (.must (decide ((0 : Int) ≤ IntKind.i64.wrap (a + i)) && decide (IntKind.i64.wrap (a + i) < (↑b.length : Int)))
   (H [Pt.r, Pt.r, Pt.r, Pt.r, Pt.l, Pt.r, Pt.b] k (H_sReadFix (b) (a) (ior IntKind.i64 (ishl IntKind.i64 n (8 : Int))
  (IntKind.i64.wrap (↑(b.getD (IntKind.i64.wrap (a + i)).toNat (0 : UInt8)).toNat : Int))) (IntKind.i64.wrap (i - (1 : Int)))))))
 (.must true
  (.ret [C.int IntKind.i64 n, C.bool true]))) := by kernel_rfl
theorem iReadFix_tree (H : List Pt → Nat → St → T (List C)) (b : List UInt8) (a : Int) (w : Int) : vBodyL E_iReadFix (0 : Nat) (sg [pS, pI, pI] [rI, rB]) Try.f120 H [C.str b, C.int IntKind.i64 a, C.int IntKind.i64 w] =
 (.must true
 (.must true
  (.must true
   (.must true
    (.ask (inB w (1 : Int) (8 : Int))
     (.must true
      (.must true
       (.must true
        (.ask (inB a (0 : Int) (IntKind.i64.wrap ((↑b.length : Int) - w)))
         (H [Pt.r, Pt.r, Pt.r, Pt.l, Pt.r, Pt.b] (9223372036854775808 : Nat) (H_iReadFix (b) (a) ((0 : Int)) (w) ((0 : Int))))
         (.must true
          (.ret [C.int IntKind.i64 (0 : Int), C.bool false]))))))
     (.must true
      (.ret [C.int IntKind.i64 (0 : Int), C.bool false]))))))) := by kernel_rfl
theorem iReadFix_round0 (H : List Pt → Nat → St → T (List C)) (b : List UInt8) (a : Int) (n : Int) (e : Int) (i : Int) (k : Nat) : vRound E_iReadFix (0 : Nat) (sg [pS, pI, pI] [rI, rB]) Try.f120 H [Pt.r, Pt.r, Pt.r, Pt.l, Pt.r, Pt.b] k
  (H_iReadFix b a n e i) =
 (.ask (decide (i < e))
 (.must (decide ((0 : Int) ≤ IntKind.i64.wrap (a + i)) && decide (IntKind.i64.wrap (a + i) < (↑b.length : Int)))
  (.must (decide ((0 : Int) ≤ IntKind.i64.wrap ((8 : Int) * i)))
   (H [Pt.r, Pt.r, Pt.r, Pt.l, Pt.r, Pt.b] k (H_iReadFix (b) (a) (ior IntKind.i64 n
  (ishl IntKind.i64 (IntKind.i64.wrap (↑(b.getD (IntKind.i64.wrap (a + i)).toNat (0 : UInt8)).toNat : Int))
    (IntKind.i64.wrap ((8 : Int) * i)))) (e) (IntKind.i64.wrap (i + (1 : Int)))))))
 (.ask (decide (n < (0 : Int)))
  (.must true
   (.ret [C.int IntKind.i64 (0 : Int), C.bool false]))
  (.must true
   (.ret [C.int IntKind.i64 n, C.bool true])))) := by kernel_rfl
end Go.Proofs.Ythpamcbipmkimaa.V

namespace Go.Proofs.Ythpamcbipmkimaa.V

theorem ishr64 (x : Int) (k : Nat) (hk : k < 64) : ishr .i64 x (k : Int) = x / 2 ^ k := by
  show x.fdiv (2 ^ (min ((k : Int).toNat) 64)) = _
  have : min ((k : Int).toNat) 64 = k := by omega
  rw [this, Int.fdiv_eq_ediv_of_nonneg]
  exact Int.pow_nonneg (by omega)
theorem ishr64_nat (x k : Nat) (hk : k < 64) : ishr .i64 (x : Int) (k : Int) = ((x / 2 ^ k : Nat) : Int) := by
  rw [ishr64 _ _ hk]
  simp
theorem wrapU8_mod (x : Int) : IntKind.u8.wrap x = x % 256 := by
  simp only [IntKind.wrap, IntKind.bits, IntKind.signed]
  simp
theorem pow256 (i : Nat) : (2 : Nat) ^ (8 * i) = 256 ^ i := by rw [Nat.pow_mul]
theorem leBytes_length : ∀ (k n : Nat), (leBytes k n).length = k
  | 0, _ => rfl
  | k + 1, n => by simp [leBytes, leBytes_length k]
theorem leBytes_succ : ∀ (k n : Nat), leBytes (k + 1) n = leBytes k n ++ [UInt8.ofNat (n / 256 ^ k % 256)]
  | 0, n => by simp [leBytes]
  | k + 1, n => by
    rw [leBytes, leBytes_succ k (n / 256)]
    simp only [leBytes, List.cons_append]
    rw [Nat.div_div_eq_div_mul, Nat.pow_succ, Nat.mul_comm 256 (256 ^ k)]

theorem sFixText_loop (n0 w : Nat) (hw : w ≤ 8) (hn : n0 ≤ 9223372036854775807) : ∀ (n i : Nat), i ≤ w → w < i + n →
    (vLoop E_sFixText 0 (sg [pI, pI] [rS]) Try.f123 [.r, .r, .r, .l, .r, .b] n (H_sFixText (n0 / 256 ^ i : Nat) w i (rowsOfStr (leBytes i n0)) i)).eval = some [.str (if n0 < 256 ^ w then leBytes w n0 else [])] := by
  intro n
  induction n with
  | zero => intro i h1 h2; omega
  | succ n ih =>
    intro i h1 h2
    rw [vLoop_L _ _ _ _ _ _ _ (by kernel_rfl), sFixText_round0]
    by_cases hi : i < w
    · have e := ih (i + 1) (by omega) (by omega)
      have w1 : IntKind.i64.wrap ((i : Int) + 1) = ((i + 1 : Nat) : Int) := by rw [wrap64] <;> omega
      have hi' : (i : Int) < w := by omega
      have hr : roomy (i + 1) 1 = true := by simp only [roomy, decide_eq_true_eq]; omega
      have d : ishr .i64 ((n0 / 256 ^ i : Nat) : Int) 8 = ((n0 / 256 ^ (i + 1) : Nat) : Int) := by
        have := ishr64_nat (n0 / 256 ^ i) 8 (by omega)
        rw [show ((8 : Nat) : Int) = 8 from rfl] at this
        rw [this, Nat.div_div_eq_div_mul, show (2 : Nat) ^ 8 = 256 from rfl, ← Nat.pow_succ]
      have u : IntKind.u8.wrap ((n0 / 256 ^ i : Nat) : Int) = ((n0 / 256 ^ i % 256 : Nat) : Int) := by rw [wrapU8_mod]; omega
      have ro : [[C.int .u8 ((n0 / 256 ^ i % 256 : Nat) : Int)]] = rowsOfStr [UInt8.ofNat (n0 / 256 ^ i % 256)] := by
        have := rows_one ((n0 / 256 ^ i % 256 : Nat) : Int) (by omega) (by omega)
        rw [Int.toNat_natCast] at this
        exact this
      rw [leBytes_succ, ← rowsStr_append, ← ro] at e
      simp only [eval_must', eval_ask', eval_ret', if_true, decide_eq_true_eq, Bool.and_eq_true, w1, hi', rows_length, leBytes_length, hr, d, u, and_self, List.append_eq]
      exact e
    · have : i = w := by omega
      subst this
      have hlt : ¬ ((i : Int) < i) := by omega
      have z : (0 : Int) < ((n0 / 256 ^ i : Nat) : Int) ↔ ¬ n0 < 256 ^ i := by
        have hp : (256 : Nat) ^ i ≠ 0 := Nat.pos_iff_ne_zero.1 (Nat.pow_pos (by omega))
        have h0 : n0 / 256 ^ i = 0 ↔ n0 < 256 ^ i := by
          rw [Nat.div_eq_zero_iff]
          exact ⟨fun h => h.resolve_left hp, .inr⟩
        rw [← h0]
        generalize n0 / 256 ^ i = y
        omega
      have tk : (rowsOfStr (leBytes i n0)).take i = rowsOfStr (leBytes i n0) := List.take_of_length_le (by rw [rows_length, leBytes_length]; omega)
      simp only [eval_must', eval_ask', eval_ret', if_true, decide_eq_true_eq, hlt, if_false, z, tk, rows_bytes, str_rows]
      by_cases hc : n0 < 256 ^ i <;> simp [hc]
theorem fix_bad (n w : Int) (h : ¬ (0 ≤ n ∧ 1 ≤ w ∧ w ≤ 8)) : fixOf n w = [] := by
  unfold fixOf; rw [if_neg (fun h' => h ⟨h'.1, h'.2.1, h'.2.2.1⟩)]
theorem fix_good (n w : Nat) (h1 : 1 ≤ w) (h2 : w ≤ 8) : fixOf n w = if n < 256 ^ w then leBytes w n else [] := by
  unfold fixOf
  simp only [Int.toNat_natCast]
  by_cases h : n < 256 ^ w
  · rw [if_pos ⟨by omega, by omega, by omega, h⟩, if_pos h]
  · rw [if_neg (fun h' => h h'.2.2.2), if_neg h]
theorem in_iff (n a b : Int) : inB n a b = true ↔ a ≤ n ∧ n ≤ b := by simp [inB]
theorem iIsNumber_E : EnvSound Try.prog E_iIsNumber := mkE_sound (by simp [iIn_sound])
theorem iIsNumber_sound : Sound Try.prog 114 (sg [pI] [rB]) isNumberSpec := vBody_sound (depth := 0) iIsNumber_E Try.func114 (by kernel_rfl) fun cs outs hk h => by
  unfold isNumberSpec at h
  split at h
  · simp only [Option.some.injEq, Prod.mk.injEq, true_and] at h
    rw [← h, vBody_L, iIsNumber_tree]
    rename_i n
    by_cases hb : inB n 0 1000000000 = true <;> simp [eval_must', eval_ask', eval_ret', hb]
  · cases h
theorem sFixText_E : EnvSound Try.prog E_sFixText := mkE_sound (by simp [sIn_sound])
theorem sFixText_sound : Sound Try.prog 123 (sg [pI, pI] [rS]) fixSpec := vBody_sound (depth := 0) sFixText_E Try.func123 (by kernel_rfl) fun cs outs hk h => by
  unfold fixSpec at h
  split at h
  · simp only [Option.some.injEq, Prod.mk.injEq, Bool.and_eq_true, decide_eq_true_eq] at h
    obtain ⟨⟨h1, h2⟩, rfl⟩ := h
    rename_i n w
    rw [vBody_L, sFixText_tree]
    by_cases hn : n < 0
    · simp [eval_must', eval_ask', eval_ret', hn, fix_bad n w (by omega)]
    · by_cases hw : inB w 1 8 = true
      · have hw' := (in_iff _ _ _).1 hw
        obtain ⟨n, rfl⟩ := Int.eq_ofNat_of_zero_le (show 0 ≤ n by omega)
        obtain ⟨w, rfl⟩ := Int.eq_ofNat_of_zero_le (show 0 ≤ w by omega)
        have := sFixText_loop n w (by omega) (by omega) 9223372036854775808 0 (by omega) (by omega)
        rw [← fix_good n w (by omega) (by omega)] at this
        simp only [eval_must', eval_ask', if_true, hn, decide_false, Bool.false_eq_true, if_false, hw, Bool.not_true]
        simpa [leBytes, rowsOfStr] using this
      · have : ¬ (1 ≤ w ∧ w ≤ 8) := fun h => hw ((in_iff _ _ _).2 h)
        simp [eval_must', eval_ask', eval_ret', hn, hw, fix_bad n w (by omega)]
  · cases h

theorem iFixText_loop (n0 w : Nat) (hw : w ≤ 8) (hn : n0 ≤ 9223372036854775807) : ∀ (n i : Nat), i ≤ w → w < i + n →
    (vLoop E_iFixText 0 (sg [pI, pI] [rS]) Try.f118 [.r, .r, .r, .l, .r, .b] n (H_iFixText n0 w (rowsOfStr (leBytes i n0 ++ List.replicate (w - i) 0)) w i)).eval = some [.str (leBytes w n0)] := by
  intro n
  induction n with
  | zero => intro i h1 h2; omega
  | succ n ih =>
    intro i h1 h2
    rw [vLoop_L _ _ _ _ _ _ _ (by kernel_rfl), iFixText_round0]
    by_cases hi : i < w
    · have e := ih (i + 1) (by omega) (by omega)
      have w1 : IntKind.i64.wrap ((i : Int) + 1) = ((i + 1 : Nat) : Int) := by rw [wrap64] <;> omega
      have w2 : IntKind.i64.wrap (8 * (i : Int)) = ((8 * i : Nat) : Int) := by rw [wrap64] <;> omega
      have hi' : (i : Int) < w := by omega
      have hz : (0 : Int) ≤ i := by omega
      have hz8 : (0 : Int) ≤ ((8 * i : Nat) : Int) := by omega
      have d : ishr .i64 (n0 : Int) ((8 * i : Nat) : Int) = ((n0 / 256 ^ i : Nat) : Int) := by rw [ishr64_nat _ _ (by omega), pow256]
      have u : IntKind.u8.wrap ((n0 / 256 ^ i : Nat) : Int) = ((n0 / 256 ^ i % 256 : Nat) : Int) := by rw [wrapU8_mod]; omega
      have hlen : (leBytes i n0 ++ List.replicate (w - i) (0 : UInt8)).length = w := by simp [leBytes_length]; omega
      have g := rows_get (leBytes i n0 ++ List.replicate (w - i) 0) i (by omega)
      have sset := rows_set (leBytes i n0 ++ List.replicate (w - i) 0) i ((n0 / 256 ^ i % 256 : Nat) : Int) (by omega) (by omega)
      have sl : (leBytes i n0 ++ List.replicate (w - i) (0 : UInt8)).set i (UInt8.ofNat (((n0 / 256 ^ i % 256 : Nat) : Int)).toNat) = leBytes (i + 1) n0 ++ List.replicate (w - (i + 1)) 0 := by
        obtain ⟨m, hm⟩ : ∃ m, w - i = m + 1 := ⟨w - i - 1, by omega⟩
        have hm2 : w - (i + 1) = m := by omega
        rw [List.set_append_right _ _ (by rw [leBytes_length]; omega), leBytes_length, Nat.sub_self, hm, hm2, List.replicate_succ, List.set_cons_zero, leBytes_succ, Int.toNat_natCast, List.append_assoc]
        rfl
      rw [sl] at sset
      simp only [eval_must', eval_ask', eval_ret', if_true, decide_eq_true_eq, Bool.and_eq_true, w1, w2, hi', hz, hz8, d, u, rows_length, hlen, Int.toNat_natCast, Nat.zero_add, hi, and_self, g, List.drop_succ_cons, List.drop_zero, sset]
      exact e
    · have : i = w := by omega
      subst this
      have hlt : ¬ ((i : Int) < i) := by omega
      have tk : (rowsOfStr (leBytes i n0)).take i = rowsOfStr (leBytes i n0) := List.take_of_length_le (by rw [rows_length, leBytes_length]; omega)
      simp only [eval_must', eval_ask', eval_ret', if_true, decide_eq_true_eq, hlt, if_false, Nat.sub_self, List.replicate_zero, List.append_nil, tk, rows_bytes, str_rows]
theorem iFixText_E : EnvSound Try.prog E_iFixText := mkE_sound (by simp [iIn_sound])
theorem iFixText_sound : Sound Try.prog 118 (sg [pI, pI] [rS]) fixSpec := vBody_sound (depth := 0) iFixText_E Try.func118 (by kernel_rfl) fun cs outs hk h => by
  unfold fixSpec at h
  split at h
  · simp only [Option.some.injEq, Prod.mk.injEq, Bool.and_eq_true, decide_eq_true_eq] at h
    obtain ⟨⟨h1, h2⟩, rfl⟩ := h
    rename_i n w
    rw [vBody_L, iFixText_tree]
    by_cases hn : n < 0
    · simp [eval_must', eval_ask', eval_ret', hn, fix_bad n w (by omega)]
    · by_cases hw : inB w 1 8 = true
      · have hw' := (in_iff _ _ _).1 hw
        obtain ⟨n, rfl⟩ := Int.eq_ofNat_of_zero_le (show 0 ≤ n by omega)
        obtain ⟨w, rfl⟩ := Int.eq_ofNat_of_zero_le (show 0 ≤ w by omega)
        have lp := iFixText_loop n w (by omega) (by omega) 9223372036854775808 0 (by omega) (by omega)
        have rp : rowsOfStr (leBytes 0 n ++ List.replicate (w - 0) 0) = List.replicate w [C.int .u8 0] := by simp [leBytes, rowsOfStr]
        rw [rp] at lp
        have w2 : IntKind.i64.wrap (8 * (w : Int)) = ((8 * w : Nat) : Int) := by rw [wrap64] <;> omega
        have hz8 : (0 : Int) ≤ ((8 * w : Nat) : Int) := by omega
        have c1 : (0 : Int) ≤ w := by omega
        have c2 : ((1 : Nat) : Int) * (w : Int) ≤ 281474976710656 := by omega
        rw [fix_good n w (by omega) (by omega)]
        simp only [eval_must', eval_ask', eval_ret', if_true, hn, decide_false, Bool.false_eq_true, if_false, hw, Bool.not_true, w2, hz8, decide_true, decide_eq_true_eq, Bool.and_eq_true, c1, c2, Int.le_refl, and_self, Int.toNat_natCast]
        by_cases h8 : (w : Int) < 8
        · have d : ishr .i64 (n : Int) ((8 * w : Nat) : Int) = ((n / 256 ^ w : Nat) : Int) := by rw [ishr64_nat _ _ (by omega), pow256]
          have z : n / 256 ^ w = 0 ↔ n < 256 ^ w := by
            have hp : (256 : Nat) ^ w ≠ 0 := Nat.pos_iff_ne_zero.1 (Nat.pow_pos (by omega))
            rw [Nat.div_eq_zero_iff]
            exact ⟨fun h => h.resolve_left hp, .inr⟩
          simp only [h8, if_true, d, bne_iff_ne, ne_eq, Int.natCast_eq_zero, z]
          by_cases hc : n < 256 ^ w
          · simp only [hc, not_true_eq_false, if_false, if_true]; exact lp
          · simp only [hc, not_false_eq_true, if_true, if_false]
        · have : w = 8 := by omega
          subst this
          have hc : n < 256 ^ 8 := by omega
          simp only [h8, if_false, hc, if_true]
          exact lp
      · have : ¬ (1 ≤ w ∧ w ≤ 8) := fun h => hw ((in_iff _ _ _).2 h)
        simp [eval_must', eval_ask', eval_ret', hn, hw, fix_bad n w (by omega)]
  · cases h
theorem leVal_lt : ∀ l : List UInt8, leVal l < 256 ^ l.length
  | [] => by simp [leVal]
  | c :: t => by
    have := leVal_lt t
    have hc := c.toNat_lt
    simp only [leVal, List.length_cons, Nat.pow_succ]
    omega
theorem leVal_append : ∀ (l : List UInt8) (c : UInt8), leVal (l ++ [c]) = leVal l + c.toNat * 256 ^ l.length
  | [], c => by simp [leVal]
  | x :: t, c => by
    simp only [List.cons_append, leVal, leVal_append t c, List.length_cons, Nat.pow_succ]
    rw [Nat.mul_add, ← Nat.add_assoc, Nat.mul_left_comm, Nat.mul_comm 256 (256 ^ t.length)]
theorem leVal_drop_le : ∀ (j : Nat) (l : List UInt8), leVal (l.drop j) ≤ leVal l
  | 0, l => by simp
  | j + 1, [] => by simp
  | j + 1, c :: t => by
    have := leVal_drop_le j t
    simp only [List.drop_succ_cons, leVal]
    omega
theorem ior_shift (n c k : Nat) (hk : n < 2 ^ k) (h : n + c * 2 ^ k < 18446744073709551616) (x y : Int) (hx : (x % 18446744073709551616).toNat = n) (hy : (y % 18446744073709551616).toNat = c * 2 ^ k) :
    ior .i64 x y = IntKind.i64.wrap ((n + c * 2 ^ k : Nat) : Int) := by
  show IntKind.i64.wrap (((BitVec.ofInt 64 x ||| BitVec.ofInt 64 y).toNat : Nat) : Int) = _
  rw [BitVec.toNat_or]
  have h1 : (BitVec.ofInt 64 x).toNat = n := by rw [← hx]; simp [BitVec.toNat_ofInt]
  have h2 : (BitVec.ofInt 64 y).toNat = c * 2 ^ k := by rw [← hy]; simp [BitVec.toNat_ofInt]
  rw [h1, h2, ← Nat.shiftLeft_eq, Nat.or_comm, ← Nat.shiftLeft_add_eq_or_of_lt hk, Nat.add_comm]
theorem wrap64_mod (x : Int) : IntKind.i64.wrap x % 18446744073709551616 = x % 18446744073709551616 := by
  simp only [IntKind.wrap, IntKind.bits, IntKind.signed]
  first
    | (split <;> omega)
    | (simp; split <;> omega)
theorem ishl64_mod (x : Int) (k : Nat) (hk : k < 64) : ishl .i64 x (k : Int) % 18446744073709551616 = x * 2 ^ k % 18446744073709551616 := by
  show IntKind.i64.wrap (x * 2 ^ (min ((k : Int).toNat) 64)) % 18446744073709551616 = _
  have : min ((k : Int).toNat) 64 = k := by omega
  rw [this, wrap64_mod]

theorem sReadFix_loop (b : List UInt8) (a w : Nat) (hb : a + w ≤ b.length) (hbl : b.length ≤ 281474976710656) (hw : w ≤ 8) (hv : fixVal b a w < 9223372036854775808) : ∀ (n j : Nat), j ≤ w → j < n →
    (vLoop E_sReadFix 0 (sg [pS, pI, pI] [rI, rB]) Try.f127 [.r, .r, .r, .r, .l, .r, .b] n (H_sReadFix b a (leVal (((b.drop a).take w).drop j) : Nat) ((j : Int) - 1))).eval = some [.int .i64 (fixVal b a w : Nat), .bool true] := by
  intro n
  induction n with
  | zero => intro j h1 h2; omega
  | succ n ih =>
    intro j h1 h2
    rw [vLoop_L _ _ _ _ _ _ _ (by kernel_rfl), sReadFix_round0]
    cases j with
    | zero =>
      have : ¬ ((0 : Int) ≤ ((0 : Nat) : Int) - 1) := by omega
      simp only [eval_must', eval_ask', eval_ret', decide_eq_true_eq, this, if_false, if_true]
      simp [fixVal]
    | succ i =>
      have e := ih i (by omega) (by omega)
      have hl : ((b.drop a).take w).length = w := by simp; omega
      have hg : ((b.drop a).take w).getD i 0 = b.getD (a + i) 0 := by
        simp [List.getD_eq_getElem?_getD, List.getElem?_take, List.getElem?_drop, show i < w by omega]
      rw [drop_step _ i (by omega), hg] at e
      have hle : leVal (((b.drop a).take w).drop i) ≤ fixVal b a w := by
        have := leVal_drop_le i ((b.drop a).take w)
        simpa [fixVal] using this
      rw [drop_step _ i (by omega), hg] at hle
      simp only [leVal] at e hle
      generalize leVal (((b.drop a).take w).drop (i + 1)) = y at e hle
      have hc := byte_lt b (a + i)
      have w1 : IntKind.i64.wrap ((((i + 1 : Nat) : Int) - 1) - 1) = (i : Int) - 1 := by rw [wrap64] <;> omega
      have w2 : IntKind.i64.wrap ((a : Int) + (((i + 1 : Nat) : Int) - 1)) = ((a + i : Nat) : Int) := by rw [wrap64] <;> omega
      have w3 : IntKind.i64.wrap ((b.getD (a + i) 0).toNat : Int) = ((b.getD (a + i) 0).toNat : Int) := by rw [wrap64] <;> omega
      have z1 : (0 : Int) ≤ ((i + 1 : Nat) : Int) - 1 := by omega
      have z2 : (0 : Int) ≤ ((a + i : Nat) : Int) := by omega
      have z3 : a + i < b.length := by omega
      have hm := ishl64_mod (y : Int) 8 (by omega)
      rw [show ((8 : Nat) : Int) = 8 from rfl] at hm
      have ho : ior .i64 (ishl .i64 (y : Int) 8) ((b.getD (a + i) 0).toNat : Int) = (((b.getD (a + i) 0).toNat + 256 * y : Nat) : Int) := by
        have := ior_shift (b.getD (a + i) 0).toNat y 8 (by omega) (by omega) ((b.getD (a + i) 0).toNat : Int) (ishl .i64 (y : Int) 8) (by omega) (by rw [hm]; omega)
        rw [wrap64 (by omega) (by omega)] at this
        have hcomm : ior .i64 (ishl .i64 (y : Int) 8) ((b.getD (a + i) 0).toNat : Int) = ior .i64 ((b.getD (a + i) 0).toNat : Int) (ishl .i64 (y : Int) 8) := by
          unfold ior; rw [BitVec.or_comm]
        rw [hcomm, this]
        omega
      simp only [eval_must', eval_ask', eval_ret', decide_eq_true_eq, Bool.and_eq_true, if_true, w1, w2, z1, z2, Int.toNat_natCast, Int.ofNat_lt, z3, w3, ho, and_self]
      exact e
theorem fixVal_top (b : List UInt8) (a : Nat) (hb : a + 8 ≤ b.length) : fixVal b a (8 : Int) = leVal ((b.drop a).take 7) + (b.getD (a + 7) 0).toNat * 72057594037927936 ∧ leVal ((b.drop a).take 7) < 72057594037927936 := by
  have hl : ((b.drop a).take 7).length = 7 := by simp; omega
  have e : (b.drop a).take 8 = (b.drop a).take 7 ++ [b.getD (a + 7) 0] := by
    rw [List.take_add_one]
    simp [List.getElem?_drop, List.getD_eq_getElem?_getD, show a + 7 < b.length by omega]
  have h1 := leVal_append ((b.drop a).take 7) (b.getD (a + 7) 0)
  have h2 := leVal_lt ((b.drop a).take 7)
  rw [hl] at h1 h2
  refine ⟨?_, h2⟩
  show leVal ((b.drop (a : Int).toNat).take (8 : Int).toNat) = _
  rw [Int.toNat_natCast, show (8 : Int).toNat = 8 from rfl, e, h1]
theorem fixVal_small (b : List UInt8) (a w : Nat) (hw : w ≤ 7) : fixVal b a w < 72057594037927936 := by
  have h := leVal_lt ((b.drop a).take w)
  have hl : ((b.drop a).take w).length ≤ w := by simp; omega
  have : 256 ^ ((b.drop a).take w).length ≤ 256 ^ 7 := Nat.pow_le_pow_right (by omega) (by omega)
  show leVal ((b.drop (a : Int).toNat).take (w : Int).toNat) < _
  simp only [Int.toNat_natCast]
  omega
theorem fixOk_iff (b : List UInt8) (a w : Int) : fixOk b a w = true ↔ (1 ≤ w ∧ w ≤ 8 ∧ 0 ≤ a ∧ a ≤ b.length - w ∧ fixVal b a w < 9223372036854775808) := by simp [fixOk]
theorem sReadFix_E : EnvSound Try.prog E_sReadFix := mkE_sound (by simp [sIn_sound])
theorem sReadFix_sound : Sound Try.prog 127 (sg [pS, pI, pI] [rI, rB]) readFixSpec := vBody_sound (depth := 0) sReadFix_E Try.func127 (by kernel_rfl) fun cs outs hk h => by
  unfold readFixSpec at h
  split at h
  · simp only [Option.some.injEq, Prod.mk.injEq, Bool.and_eq_true, decide_eq_true_eq] at h
    obtain ⟨⟨h1, h2, h3⟩, rfl⟩ := h
    rename_i b a w
    rw [vBody_L, sReadFix_tree]
    have bad : ¬ (1 ≤ w ∧ w ≤ 8 ∧ 0 ≤ a ∧ a ≤ b.length - w ∧ fixVal b a w < 9223372036854775808) → fixRead b a w = 0 ∧ fixOk b a w = false := fun h => by
      have : fixOk b a w = false := by
        cases hh : fixOk b a w with
        | true => exact absurd ((fixOk_iff b a w).1 hh) h
        | false => rfl
      exact ⟨by unfold fixRead; rw [this]; rfl, this⟩
    by_cases hw : inB w 1 8 = true
    · have hw' := (in_iff _ _ _).1 hw
      have wr : IntKind.i64.wrap ((b.length : Int) - w) = b.length - w := by rw [wrap64] <;> omega
      by_cases ha : inB a 0 ((b.length : Int) - w) = true
      · have ha' := (in_iff _ _ _).1 ha
        obtain ⟨a, rfl⟩ := Int.eq_ofNat_of_zero_le ha'.1
        obtain ⟨w, rfl⟩ := Int.eq_ofNat_of_zero_le (show 0 ≤ w by omega)
        have lp := fun hv => sReadFix_loop b a w (by omega) h1 (by omega) hv 9223372036854775808 w (by omega) (by omega)
        have w1 : IntKind.i64.wrap ((w : Int) - 1) = (w : Int) - 1 := by rw [wrap64] <;> omega
        have dr : ((b.drop a).take w).drop w = [] := by
          apply List.drop_eq_nil_of_le; simp; omega
        rw [dr] at lp
        have good : fixVal b a w < 9223372036854775808 → fixRead b a w = (fixVal b a w : Nat) ∧ fixOk b a w = true := fun h => by
          have : fixOk b a w = true := (fixOk_iff _ _ _).2 ⟨hw'.1, hw'.2, ha'.1, ha'.2, h⟩
          exact ⟨by unfold fixRead; rw [this]; rfl, this⟩
        by_cases h8 : (w : Int) = 8
        · have h8t : ((w : Int) = 8) = True := eq_true h8
          obtain ⟨t1, t2⟩ := fixVal_top b a (by omega)
          rw [← h8] at t1
          have w7 : IntKind.i64.wrap ((a : Int) + 7) = ((a + 7 : Nat) : Int) := by rw [wrap64] <;> omega
          have z1 : (0 : Int) ≤ ((a + 7 : Nat) : Int) := by omega
          have z2 : a + 7 < b.length := by omega
          by_cases hc : (127 : Int) < ((b.getD (a + 7) 0).toNat : Int)
          · obtain ⟨b1, b2⟩ := bad (fun h => by
              have := h.2.2.2.2
              rw [t1] at this
              omega)
            simp only [eval_must', eval_ask', eval_ret', if_true, hw, wr, ha, Bool.not_true, Bool.false_eq_true, if_false, h8t, w7, z1, z2, Bool.and_eq_true, decide_eq_true_eq, Int.toNat_natCast, Int.ofNat_lt, and_self, hc, b1, b2]
          · have hv : fixVal b a w < 9223372036854775808 := by rw [t1]; omega
            obtain ⟨b1, b2⟩ := good hv
            simp only [eval_must', eval_ask', eval_ret', if_true, hw, wr, ha, Bool.not_true, Bool.false_eq_true, if_false, h8t, w7, z1, z2, Bool.and_eq_true, decide_eq_true_eq, Int.toNat_natCast, Int.ofNat_lt, and_self, hc, w1, b1, b2]
            exact lp hv
        · have hv : fixVal b a w < 9223372036854775808 := by have := fixVal_small b a w (by omega); omega
          obtain ⟨b1, b2⟩ := good hv
          simp only [eval_must', eval_ask', eval_ret', if_true, hw, wr, ha, Bool.not_true, Bool.false_eq_true, if_false, h8, decide_false, w1, b1, b2]
          exact lp hv
      · obtain ⟨b1, b2⟩ := bad (fun h => ha ((in_iff _ _ _).2 ⟨h.2.2.1, h.2.2.2.1⟩))
        simp [eval_must', eval_ask', eval_ret', hw, wr, ha, b1, b2]
    · obtain ⟨b1, b2⟩ := bad (fun h => hw ((in_iff _ _ _).2 ⟨h.1, h.2.1⟩))
      simp [eval_must', eval_ask', eval_ret', hw, b1, b2]
  · cases h

theorem iReadFix_loop (b : List UInt8) (a w : Nat) (hb : a + w ≤ b.length) (hbl : b.length ≤ 281474976710656) (hw1 : 1 ≤ w) (hw : w ≤ 8) : ∀ (n i : Nat), i ≤ w → w < i + n →
    (vLoop E_iReadFix 0 (sg [pS, pI, pI] [rI, rB]) Try.f120 [.r, .r, .r, .l, .r, .b] n (H_iReadFix b a (IntKind.i64.wrap (leVal ((b.drop a).take i) : Nat)) w i)).eval = some [.int .i64 (fixRead b a w), .bool (fixOk b a w)] := by
  intro n
  induction n with
  | zero => intro i h1 h2; omega
  | succ n ih =>
    intro i h1 h2
    rw [vLoop_L _ _ _ _ _ _ _ (by kernel_rfl), iReadFix_round0]
    by_cases hi : i < w
    · have e := ih (i + 1) (by omega) (by omega)
      have hl : ((b.drop a).take i).length = i := by simp; omega
      have ee : (b.drop a).take (i + 1) = (b.drop a).take i ++ [b.getD (a + i) 0] := by
        rw [List.take_add_one]
        simp [List.getElem?_drop, List.getD_eq_getElem?_getD, show a + i < b.length by omega]
      rw [ee, leVal_append, hl] at e
      have hlt := leVal_lt ((b.drop a).take i)
      rw [hl] at hlt
      have h7 : 256 ^ i ≤ 256 ^ 7 := Nat.pow_le_pow_right (by omega) (by omega)
      generalize leVal ((b.drop a).take i) = y at e hlt
      have hc := byte_lt b (a + i)
      have w1 : IntKind.i64.wrap ((i : Int) + 1) = ((i + 1 : Nat) : Int) := by rw [wrap64] <;> omega
      have w2 : IntKind.i64.wrap ((a : Int) + i) = ((a + i : Nat) : Int) := by rw [wrap64] <;> omega
      have w3 : IntKind.i64.wrap ((b.getD (a + i) 0).toNat : Int) = ((b.getD (a + i) 0).toNat : Int) := by rw [wrap64] <;> omega
      have w4 : IntKind.i64.wrap (8 * (i : Int)) = ((8 * i : Nat) : Int) := by rw [wrap64] <;> omega
      have w5 : IntKind.i64.wrap (y : Int) = y := by rw [wrap64] <;> omega
      have z1 : (i : Int) < w := by omega
      have z2 : (0 : Int) ≤ ((a + i : Nat) : Int) := by omega
      have z3 : a + i < b.length := by omega
      have z4 : (0 : Int) ≤ ((8 * i : Nat) : Int) := by omega
      have hm := ishl64_mod ((b.getD (a + i) 0).toNat : Int) (8 * i) (by omega)
      have hpow : (b.getD (a + i) 0).toNat * 256 ^ i ≤ 255 * 256 ^ i := Nat.mul_le_mul_right _ (by omega)
      have hp2 : ((b.getD (a + i) 0).toNat : Int) * 2 ^ (8 * i) = (((b.getD (a + i) 0).toNat * 256 ^ i : Nat) : Int) := by
        rw [← pow256]; simp
      rw [hp2] at hm
      have ho := ior_shift y (b.getD (a + i) 0).toNat (8 * i) (by rw [pow256]; exact hlt) (by rw [pow256]; omega) (y : Int) (ishl .i64 ((b.getD (a + i) 0).toNat : Int) ((8 * i : Nat) : Int)) (by omega) (by rw [hm, pow256]; omega)
      rw [pow256] at ho
      simp only [eval_must', eval_ask', eval_ret', decide_eq_true_eq, Bool.and_eq_true, if_true, w1, w2, w3, w4, w5, z1, z2, Int.toNat_natCast, Int.ofNat_lt, z3, z4, ho, and_self, hi]
      exact e
    · have hiw : i = w := by omega
      subst hiw
      have hlt : ¬ ((i : Int) < i) := by omega
      have hfv : fixVal b a i = leVal ((b.drop a).take i) := by simp [fixVal]
      have hl : ((b.drop a).take i).length = i := by simp; omega
      have hb8 := leVal_lt ((b.drop a).take i)
      rw [hl] at hb8
      have h8 : 256 ^ i ≤ 256 ^ 8 := Nat.pow_le_pow_right (by omega) (by omega)
      rw [← hfv] at hb8 ⊢
      simp only [eval_must', eval_ask', eval_ret', decide_eq_true_eq, if_true, hlt, if_false]
      by_cases hv : fixVal b a i < 9223372036854775808
      · have hok : fixOk b a i = true := (fixOk_iff _ _ _).2 ⟨by omega, by omega, by omega, by omega, hv⟩
        have w5 : IntKind.i64.wrap ((fixVal b a i : Nat) : Int) = (fixVal b a i : Nat) := by rw [wrap64] <;> omega
        have hn : ¬ (((fixVal b a i : Nat) : Int) < 0) := by omega
        simp only [w5, hn, if_false, fixRead, hok, if_true]
      · have hok : fixOk b a i = false := by
          cases hh : fixOk b a i with
          | true => exact absurd ((fixOk_iff _ _ _).1 hh).2.2.2.2 hv
          | false => rfl
        have hr := wrap64_range ((fixVal b a i : Nat) : Int)
        have hm := wrap64_mod ((fixVal b a i : Nat) : Int)
        have hn : IntKind.i64.wrap ((fixVal b a i : Nat) : Int) < 0 := by omega
        simp only [hn, if_true, fixRead, hok, Bool.false_eq_true, if_false]
theorem iReadFix_E : EnvSound Try.prog E_iReadFix := mkE_sound (by simp [iIn_sound])
theorem iReadFix_sound : Sound Try.prog 120 (sg [pS, pI, pI] [rI, rB]) readFixSpec := vBody_sound (depth := 0) iReadFix_E Try.func120 (by kernel_rfl) fun cs outs hk h => by
  unfold readFixSpec at h
  split at h
  · simp only [Option.some.injEq, Prod.mk.injEq, Bool.and_eq_true, decide_eq_true_eq] at h
    obtain ⟨⟨h1, h2, h3⟩, rfl⟩ := h
    rename_i b a w
    rw [vBody_L, iReadFix_tree]
    have bad : ¬ (1 ≤ w ∧ w ≤ 8 ∧ 0 ≤ a ∧ a ≤ b.length - w ∧ fixVal b a w < 9223372036854775808) → fixRead b a w = 0 ∧ fixOk b a w = false := fun h => by
      have : fixOk b a w = false := by
        cases hh : fixOk b a w with
        | true => exact absurd ((fixOk_iff b a w).1 hh) h
        | false => rfl
      exact ⟨by unfold fixRead; rw [this]; rfl, this⟩
    by_cases hw : inB w 1 8 = true
    · have hw' := (in_iff _ _ _).1 hw
      have wr : IntKind.i64.wrap ((b.length : Int) - w) = b.length - w := by rw [wrap64] <;> omega
      by_cases ha : inB a 0 ((b.length : Int) - w) = true
      · have ha' := (in_iff _ _ _).1 ha
        obtain ⟨a, rfl⟩ := Int.eq_ofNat_of_zero_le ha'.1
        obtain ⟨w, rfl⟩ := Int.eq_ofNat_of_zero_le (show 0 ≤ w by omega)
        have lp := iReadFix_loop b a w (by omega) h1 (by omega) (by omega) 9223372036854775808 0 (by omega) (by omega)
        simp only [eval_must', eval_ask', eval_ret', if_true, hw, wr, ha, Bool.not_true, Bool.false_eq_true, if_false]
        exact lp
      · obtain ⟨b1, b2⟩ := bad (fun h => ha ((in_iff _ _ _).2 ⟨h.2.2.1, h.2.2.2.1⟩))
        simp [eval_must', eval_ask', eval_ret', hw, wr, ha, b1, b2]
    · obtain ⟨b1, b2⟩ := bad (fun h => hw ((in_iff _ _ _).2 ⟨h.1, h.2.1⟩))
      simp [eval_must', eval_ask', eval_ret', hw, b1, b2]
  · cases h

end Go.Proofs.Ythpamcbipmkimaa.V

namespace Go.Proofs.Ythpamcbipmkimaa.V
noncomputable section

def headOk (v s b l : Int) : Bool := inB v 1 2 && inB s 1 20 && inB b 0 1000000000 && inB l 0 4294967295
def pHead : PTy := .val true [.int .i64, .int .i64, .int .i64, .int .i64]
def rHead : RTy := ⟨true, [(.int .i64, false), (.int .i64, false), (.int .i64, false), (.int .i64, false)]⟩
def headOkSpec : Spec := fun cs => match cs with
  | [.int .i64 v, .int .i64 s, .int .i64 b, .int .i64 l] => some (true, [.bool (headOk v s b l)])
  | _ => none
/-- a head's bytes ahead of the sum -/
def headPre (v s b l : Int) : List UInt8 := [83, 69, 71, 77] ++ fixOf v 1 ++ fixOf s 1 ++ [0, 0] ++ fixOf b 8 ++ fixOf l 4
def headText (v s b l : Int) : List UInt8 := if headOk v s b l then headPre v s b l ++ fixOf (crcMore 0 (headPre v s b l) : Nat) 4 else []
def headTextSpec : Spec := fun cs => match cs with
  | [.int .i64 v, .int .i64 s, .int .i64 b, .int .i64 l] => some (true, [.str (headText v s b l)])
  | _ => none
def E_sHeadOk : Env := mkE [] [(93, (sg [pI, pI, pI] [rB]), inSpec)]
def E_iHeadOk : Env := mkE [] [(95, (sg [pI, pI, pI] [rB]), inSpec), (113, (sg [pI] [rB]), isVersionSpec), (114, (sg [pI] [rB]), isNumberSpec)]
def E_sHeadText : Env := mkE [] [(124, (sg [pS] [rI]), sumOfSpec), (123, (sg [pI, pI] [rS]), fixSpec), (68, (sg [pHead] [rB]), headOkSpec)]
def E_iHeadText : Env := mkE [] [(119, (sg [pS] [rI]), sumOfSpec), (118, (sg [pI, pI] [rS]), fixSpec), (67, (sg [pHead] [rB]), headOkSpec)]

/-- what a text's first bytes say of a head -/
def rhV (b : List UInt8) : Int := (b.getD 4 0).toNat
def rhS (b : List UInt8) : Int := (b.getD 5 0).toNat
def rhB (b : List UInt8) : Int := fixRead b 8 8
def rhL (b : List UInt8) : Int := fixRead b 16 4
def readHeadOk (b : List UInt8) : Bool := decide (24 ≤ b.length) && fixOk b 8 8 && decide (headText (rhV b) (rhS b) (rhB b) (rhL b) = b.take 24)
def ifI (c : Bool) (x : Int) : Int := if c then x else 0
def readHeadSpec : Spec := fun cs => match cs with
  | [.str b] => some (decide (b.length ≤ 281474976710656), [.int .i64 (ifI (readHeadOk b) (rhV b)), .int .i64 (ifI (readHeadOk b) (rhS b)), .int .i64 (ifI (readHeadOk b) (rhB b)), .int .i64 (ifI (readHeadOk b) (rhL b)), .bool (readHeadOk b)])
  | _ => none
def E_sReadHead : Env := mkE [] [(127, (sg [pS, pI, pI] [rI, rB]), readFixSpec), (66, (sg [pHead] [rS]), headTextSpec)]
def E_iReadHead : Env := mkE [] [(120, (sg [pS, pI, pI] [rI, rB]), readFixSpec), (65, (sg [pHead] [rS]), headTextSpec)]

def meets (a b x y : Int) : Bool := decide (imax a x < imin b y)
def meetsSpec : Spec := fun cs => match cs with
  | [.int .i64 a, .int .i64 b, .int .i64 x, .int .i64 y] => some (true, [.bool (meets a b x y)])
  | _ => none
def headHit (b : List UInt8) (x y : Int) : Bool := readHeadOk b && meets 0 24 x y
def headHitSpec : Spec := fun cs => match cs with
  | [.str b, .int .i64 x, .int .i64 y] => some (decide (b.length ≤ 281474976710656), [.bool (headHit b x y)])
  | _ => none
def E_iMeets : Env := mkE [] []
def E_sHeadHit : Env := mkE [] [(71, (sg [pS] [rHead, rB]), readHeadSpec)]
def E_iHeadHit : Env := mkE [] [(70, (sg [pS] [rHead, rB]), readHeadSpec), (108, (sg [pI, pI, pI, pI] [rB]), meetsSpec)]

def siiFree : Spec := fun cs => match cs with
  | [.str _, .int .i64 _, .int .i64 _] => some (true, [.bool true])
  | _ => none
def E_lHeadHit : Env := mkE [] [(46, (sg [pS, pI, pI] [rB]), headHitSpec), (47, (sg [pS, pI, pI] [rB]), headHitSpec)]

end
end Go.Proofs.Ythpamcbipmkimaa.V

namespace Go.Proofs.Ythpamcbipmkimaa.V
set_option maxRecDepth 100000
theorem sHeadOk_tree (H : List Pt → Nat → St → T (List C)) (v : Int) (s : Int) (b : Int) (l : Int) : vBodyL E_sHeadOk (0 : Nat) (sg [pHead] [rB]) Try.f68 H
  [C.int IntKind.i64 v, C.int IntKind.i64 s, C.int IntKind.i64 b, C.int IntKind.i64 l] =
 (.must true
 (.must true
  (.must true
   (.must true
    (.ask (inB v (1 : Int) (2 : Int))
     (.must true
      (.must true
       (.must true
        (.ask (inB s (1 : Int) (20 : Int))
         (.must true
          (.must true
           (.must true
            (.ask (inB b (0 : Int) (1000000000 : Int))
             (.must true
              (.must true
               (.must true
                (.ask (inB l (0 : Int) (4294967295 : Int))
                 (.must true
                  (.ret [C.bool true]))
                 (.must true
                  (.ret [C.bool false]))))))
             (.must true
              (.ret [C.bool false]))))))
         (.must true
          (.ret [C.bool false]))))))
     (.must true
      (.ret [C.bool false]))))))) := by kernel_rfl
theorem iHeadOk_tree (H : List Pt → Nat → St → T (List C)) (v : Int) (s : Int) (b : Int) (l : Int) : vBodyL E_iHeadOk (0 : Nat) (sg [pHead] [rB]) Try.f67 H
  [C.int IntKind.i64 v, C.int IntKind.i64 s, C.int IntKind.i64 b, C.int IntKind.i64 l] =
 (.must true
 (.must true
  (.must true
   (.must true
    (.ask (inB v (1 : Int) (2 : Int))
     (.must true
      (.must true
       (.must true
        (.ask (inB s (1 : Int) (20 : Int))
         (.must true
          (.must true
           (.must true
            (.ask (inB b (0 : Int) (1000000000 : Int))
             (.must true
              (.must true
               (.must true
                (.ask (inB l (0 : Int) (4294967295 : Int))
                 (.must true
                  (.ret [C.bool true]))
                 (.must true
                  (.ret [C.bool false]))))))
             (.must true
              (.ret [C.bool false]))))))
         (.must true
          (.ret [C.bool false]))))))
     (.must true
      (.ret [C.bool false]))))))) := by kernel_rfl
theorem sHeadText_tree (H : List Pt → Nat → St → T (List C)) (v : Int) (s : Int) (b : Int) (l : Int) : vBodyL E_sHeadText (0 : Nat) (sg [pHead] [rS]) Try.f66 H
  [C.int IntKind.i64 v, C.int IntKind.i64 s, C.int IntKind.i64 b, C.int IntKind.i64 l] =
 (.must true
 (.must true
  (.must true
   (.must true
    (.ask (headOk v s b l)
     (.must true
      (.must (decide ((-9223372036854775808 : Int) ≤ v) && decide (v ≤ (9223372036854775807 : Int)))
       (.must true
        (.must (decide ((4 : Nat) + (fixOf v (1 : Int)).length ≤ (9223372036854775807 : Nat)))
         (.must true
          (.must (decide ((-9223372036854775808 : Int) ≤ s) && decide (s ≤ (9223372036854775807 : Int)))
           (.must true
            (.must (decide
  (([(83 : UInt8), (69 : UInt8), (71 : UInt8), (77 : UInt8)] ++ fixOf v (1 : Int)).length + (fixOf s (1 : Int)).length ≤
    (9223372036854775807 : Nat)))
             (.must (decide
  (([(83 : UInt8), (69 : UInt8), (71 : UInt8), (77 : UInt8)] ++ fixOf v (1 : Int) ++ fixOf s (1 : Int)).length +
      (2 : Nat) ≤
    (9223372036854775807 : Nat)))
              (.must true
               (.must (decide ((-9223372036854775808 : Int) ≤ b) && decide (b ≤ (9223372036854775807 : Int)))
                (.must true
                 (.must (decide
  (([(83 : UInt8), (69 : UInt8), (71 : UInt8), (77 : UInt8)] ++ fixOf v (1 : Int) ++ fixOf s (1 : Int) ++
          [(0 : UInt8), (0 : UInt8)]).length +
      (fixOf b (8 : Int)).length ≤
    (9223372036854775807 : Nat)))
                  (.must true
                   (.must (decide ((-9223372036854775808 : Int) ≤ l) && decide (l ≤ (9223372036854775807 : Int)))
                    (.must true
                     (.must (decide
  (([(83 : UInt8), (69 : UInt8), (71 : UInt8), (77 : UInt8)] ++ fixOf v (1 : Int) ++ fixOf s (1 : Int) ++
            [(0 : UInt8), (0 : UInt8)] ++
          fixOf b (8 : Int)).length +
      (fixOf l (4 : Int)).length ≤
    (9223372036854775807 : Nat)))
                      (.must true
                       (.must (decide
  (([(83 : UInt8), (69 : UInt8), (71 : UInt8), (77 : UInt8)] ++ fixOf v (1 : Int) ++ fixOf s (1 : Int) ++
            [(0 : UInt8), (0 : UInt8)] ++
          fixOf b (8 : Int) ++
        fixOf l (4 : Int)).length ≤
    (281474976710656 : Nat)))
                        (.must true
                         (.must true
                          (.must (decide
    ((-9223372036854775808 : Int) ≤
      Int.ofNat
        (crcMore (0 : Nat)
          ([(83 : UInt8), (69 : UInt8), (71 : UInt8), (77 : UInt8)] ++ fixOf v (1 : Int) ++ fixOf s (1 : Int) ++
                [(0 : UInt8), (0 : UInt8)] ++
              fixOf b (8 : Int) ++
            fixOf l (4 : Int)))) &&
  decide
    (Int.ofNat
        (crcMore (0 : Nat)
          ([(83 : UInt8), (69 : UInt8), (71 : UInt8), (77 : UInt8)] ++ fixOf v (1 : Int) ++ fixOf s (1 : Int) ++
                [(0 : UInt8), (0 : UInt8)] ++
              fixOf b (8 : Int) ++
            fixOf l (4 : Int))) ≤
      (9223372036854775807 : Int)))
                           (.must true
                            (.must (decide
  (([(83 : UInt8), (69 : UInt8), (71 : UInt8), (77 : UInt8)] ++ fixOf v (1 : Int) ++ fixOf s (1 : Int) ++
              [(0 : UInt8), (0 : UInt8)] ++
            fixOf b (8 : Int) ++
          fixOf l (4 : Int)).length +
      (fixOf
          (Int.ofNat
            (crcMore (0 : Nat)
              ([(83 : UInt8), (69 : UInt8), (71 : UInt8), (77 : UInt8)] ++ fixOf v (1 : Int) ++ fixOf s (1 : Int) ++
                    [(0 : UInt8), (0 : UInt8)] ++
                  fixOf b (8 : Int) ++
                fixOf l (4 : Int))))
          (4 : Int)).length ≤
    (9223372036854775807 : Nat)))
                             (.must true
                              (.ret [C.str
    ([(83 : UInt8), (69 : UInt8), (71 : UInt8), (77 : UInt8)] ++ fixOf v (1 : Int) ++ fixOf s (1 : Int) ++
            [(0 : UInt8), (0 : UInt8)] ++
          fixOf b (8 : Int) ++
        fixOf l (4 : Int) ++
      fixOf
        (Int.ofNat
          (crcMore (0 : Nat)
            ([(83 : UInt8), (69 : UInt8), (71 : UInt8), (77 : UInt8)] ++ fixOf v (1 : Int) ++ fixOf s (1 : Int) ++
                  [(0 : UInt8), (0 : UInt8)] ++
                fixOf b (8 : Int) ++
              fixOf l (4 : Int))))
        (4 : Int))]))))))))))))))))))))))))))
     (.must true
      (.ret [C.str []]))))))) := by kernel_rfl
theorem iHeadText_tree (H : List Pt → Nat → St → T (List C)) (v : Int) (s : Int) (b : Int) (l : Int) : vBodyL E_iHeadText (0 : Nat) (sg [pHead] [rS]) Try.f65 H
  [C.int IntKind.i64 v, C.int IntKind.i64 s, C.int IntKind.i64 b, C.int IntKind.i64 l] =
 (.must true
 (.must true
  (.must true
   (.must true
    (.ask (headOk v s b l)
     (.must true
      (.must (decide ((-9223372036854775808 : Int) ≤ v) && decide (v ≤ (9223372036854775807 : Int)))
       (.must true
        (.must (decide ((4 : Nat) + (fixOf v (1 : Int)).length ≤ (9223372036854775807 : Nat)))
         (.must true
          (.must (decide ((-9223372036854775808 : Int) ≤ s) && decide (s ≤ (9223372036854775807 : Int)))
           (.must true
            (.must (decide
  (([(83 : UInt8), (69 : UInt8), (71 : UInt8), (77 : UInt8)] ++ fixOf v (1 : Int)).length + (fixOf s (1 : Int)).length ≤
    (9223372036854775807 : Nat)))
             (.must true
              (.must true
               (.must true
                (.must (decide
  (([(83 : UInt8), (69 : UInt8), (71 : UInt8), (77 : UInt8)] ++ fixOf v (1 : Int) ++ fixOf s (1 : Int)).length +
      ((1 : Nat) + (1 : Nat)) ≤
    (9223372036854775807 : Nat)))
                 (.must true
                  (.must (decide ((-9223372036854775808 : Int) ≤ b) && decide (b ≤ (9223372036854775807 : Int)))
                   (.must true
                    (.must (decide
  (([(83 : UInt8), (69 : UInt8), (71 : UInt8), (77 : UInt8)] ++ fixOf v (1 : Int) ++ fixOf s (1 : Int) ++
          fixOf (0 : Int) (2 : Int)).length +
      (fixOf b (8 : Int)).length ≤
    (9223372036854775807 : Nat)))
                     (.must true
                      (.must (decide ((-9223372036854775808 : Int) ≤ l) && decide (l ≤ (9223372036854775807 : Int)))
                       (.must true
                        (.must (decide
  (([(83 : UInt8), (69 : UInt8), (71 : UInt8), (77 : UInt8)] ++ fixOf v (1 : Int) ++ fixOf s (1 : Int) ++
            fixOf (0 : Int) (2 : Int) ++
          fixOf b (8 : Int)).length +
      (fixOf l (4 : Int)).length ≤
    (9223372036854775807 : Nat)))
                         (.must true
                          (.must (decide
  (([(83 : UInt8), (69 : UInt8), (71 : UInt8), (77 : UInt8)] ++ fixOf v (1 : Int) ++ fixOf s (1 : Int) ++
            fixOf (0 : Int) (2 : Int) ++
          fixOf b (8 : Int) ++
        fixOf l (4 : Int)).length ≤
    (281474976710656 : Nat)))
                           (.must true
                            (.must true
                             (.must (decide
    ((-9223372036854775808 : Int) ≤
      Int.ofNat
        (crcMore (0 : Nat)
          ([(83 : UInt8), (69 : UInt8), (71 : UInt8), (77 : UInt8)] ++ fixOf v (1 : Int) ++ fixOf s (1 : Int) ++
                fixOf (0 : Int) (2 : Int) ++
              fixOf b (8 : Int) ++
            fixOf l (4 : Int)))) &&
  decide
    (Int.ofNat
        (crcMore (0 : Nat)
          ([(83 : UInt8), (69 : UInt8), (71 : UInt8), (77 : UInt8)] ++ fixOf v (1 : Int) ++ fixOf s (1 : Int) ++
                fixOf (0 : Int) (2 : Int) ++
              fixOf b (8 : Int) ++
            fixOf l (4 : Int))) ≤
      (9223372036854775807 : Int)))
                              (.must true
                               (.must (decide
  (([(83 : UInt8), (69 : UInt8), (71 : UInt8), (77 : UInt8)] ++ fixOf v (1 : Int) ++ fixOf s (1 : Int) ++
              fixOf (0 : Int) (2 : Int) ++
            fixOf b (8 : Int) ++
          fixOf l (4 : Int)).length +
      (fixOf
          (Int.ofNat
            (crcMore (0 : Nat)
              ([(83 : UInt8), (69 : UInt8), (71 : UInt8), (77 : UInt8)] ++ fixOf v (1 : Int) ++ fixOf s (1 : Int) ++
                    fixOf (0 : Int) (2 : Int) ++
                  fixOf b (8 : Int) ++
                fixOf l (4 : Int))))
          (4 : Int)).length ≤
    (9223372036854775807 : Nat)))
                                (.must true
                                 (.ret [C.str
    ([(83 : UInt8), (69 : UInt8), (71 : UInt8), (77 : UInt8)] ++ fixOf v (1 : Int) ++ fixOf s (1 : Int) ++
            fixOf (0 : Int) (2 : Int) ++
          fixOf b (8 : Int) ++
        fixOf l (4 : Int) ++
      fixOf
        (Int.ofNat
          (crcMore (0 : Nat)
            ([(83 : UInt8), (69 : UInt8), (71 : UInt8), (77 : UInt8)] ++ fixOf v (1 : Int) ++ fixOf s (1 : Int) ++
                  fixOf (0 : Int) (2 : Int) ++
                fixOf b (8 : Int) ++
              fixOf l (4 : Int))))
        (4 : Int))])))))))))))))))))))))))))))))
     (.must true
      (.ret [C.str []]))))))) := by kernel_rfl
theorem sReadHead_tree (H : List Pt → Nat → St → T (List C)) (b : List UInt8) : vBodyL E_sReadHead (0 : Nat) (sg [pS] [rHead, rB]) Try.f71 H [C.str b] =
 (.must true
 (.ask (decide ((↑b.length : Int) < (24 : Int)))
  (.must true
   (.ret [C.int IntKind.i64 (0 : Int), C.int IntKind.i64 (0 : Int), C.int IntKind.i64 (0 : Int), C.int IntKind.i64 (0 : Int),
  C.bool false]))
  (.must true
   (.must (decide (b.length ≤ (281474976710656 : Nat)) &&
  (decide ((-9223372036854775808 : Int) ≤ (8 : Int)) && decide ((8 : Int) ≤ (9223372036854775807 : Int))))
    (.must true
     (.ask (fixOk b (8 : Int) (8 : Int))
      (.must true
       (.must (decide (b.length ≤ (281474976710656 : Nat)) &&
  (decide ((-9223372036854775808 : Int) ≤ (16 : Int)) && decide ((16 : Int) ≤ (9223372036854775807 : Int))))
        (.must true
         (.ask (fixOk b (16 : Int) (4 : Int))
          (.must (decide ((0 : Int) ≤ (4 : Int)) && decide ((4 : Int) < (↑b.length : Int)))
           (.must (decide ((0 : Int) ≤ (5 : Int)) && decide ((5 : Int) < (↑b.length : Int)))
            (.must true
             (.must true
              (.must true
               (.must (decide ((0 : Int) ≤ (24 : Int)) && decide ((24 : Int) ≤ (↑b.length : Int)))
                (.ask (!headText (IntKind.i64.wrap (↑(b.getD (Int.toNat (4 : Int)) (0 : UInt8)).toNat : Int))
      (IntKind.i64.wrap (↑(b.getD (Int.toNat (5 : Int)) (0 : UInt8)).toNat : Int)) (fixRead b (8 : Int) (8 : Int))
      (fixRead b (16 : Int) (4 : Int)) ==
    List.drop (0 : Nat) (List.take (Int.toNat (24 : Int)) b))
                 (.must true
                  (.ret [C.int IntKind.i64 (0 : Int), C.int IntKind.i64 (0 : Int), C.int IntKind.i64 (0 : Int), C.int IntKind.i64 (0 : Int),
  C.bool false]))
                 (.must true
                  (.ret [C.int IntKind.i64 (IntKind.i64.wrap (↑(b.getD (Int.toNat (4 : Int)) (0 : UInt8)).toNat : Int)),
  C.int IntKind.i64 (IntKind.i64.wrap (↑(b.getD (Int.toNat (5 : Int)) (0 : UInt8)).toNat : Int)),
  C.int IntKind.i64 (fixRead b (8 : Int) (8 : Int)), C.int IntKind.i64 (fixRead b (16 : Int) (4 : Int)), C.bool true])))))))))
          (.must (decide ((0 : Int) ≤ (4 : Int)) && decide ((4 : Int) < (↑b.length : Int)))
           (.must (decide ((0 : Int) ≤ (5 : Int)) && decide ((5 : Int) < (↑b.length : Int)))
            (.must true
             (.must true
              (.must true
               (.must (decide ((0 : Int) ≤ (24 : Int)) && decide ((24 : Int) ≤ (↑b.length : Int)))
                (.ask (!headText (IntKind.i64.wrap (↑(b.getD (Int.toNat (4 : Int)) (0 : UInt8)).toNat : Int))
      (IntKind.i64.wrap (↑(b.getD (Int.toNat (5 : Int)) (0 : UInt8)).toNat : Int)) (fixRead b (8 : Int) (8 : Int))
      (fixRead b (16 : Int) (4 : Int)) ==
    List.drop (0 : Nat) (List.take (Int.toNat (24 : Int)) b))
                 (.must true
                  (.ret [C.int IntKind.i64 (0 : Int), C.int IntKind.i64 (0 : Int), C.int IntKind.i64 (0 : Int), C.int IntKind.i64 (0 : Int),
  C.bool false]))
                 (.must true
                  (.ret [C.int IntKind.i64 (IntKind.i64.wrap (↑(b.getD (Int.toNat (4 : Int)) (0 : UInt8)).toNat : Int)),
  C.int IntKind.i64 (IntKind.i64.wrap (↑(b.getD (Int.toNat (5 : Int)) (0 : UInt8)).toNat : Int)),
  C.int IntKind.i64 (fixRead b (8 : Int) (8 : Int)), C.int IntKind.i64 (fixRead b (16 : Int) (4 : Int)), C.bool true])))))))))))))
      (.must true
       (.must (decide (b.length ≤ (281474976710656 : Nat)) &&
  (decide ((-9223372036854775808 : Int) ≤ (16 : Int)) && decide ((16 : Int) ≤ (9223372036854775807 : Int))))
        (.must true
         (.ask (fixOk b (16 : Int) (4 : Int))
          (.must (decide ((0 : Int) ≤ (4 : Int)) && decide ((4 : Int) < (↑b.length : Int)))
           (.must (decide ((0 : Int) ≤ (5 : Int)) && decide ((5 : Int) < (↑b.length : Int)))
            (.must true
             (.ret [C.int IntKind.i64 (0 : Int), C.int IntKind.i64 (0 : Int), C.int IntKind.i64 (0 : Int), C.int IntKind.i64 (0 : Int),
  C.bool false]))))
          (.must (decide ((0 : Int) ≤ (4 : Int)) && decide ((4 : Int) < (↑b.length : Int)))
           (.must (decide ((0 : Int) ≤ (5 : Int)) && decide ((5 : Int) < (↑b.length : Int)))
            (.must true
             (.ret [C.int IntKind.i64 (0 : Int), C.int IntKind.i64 (0 : Int), C.int IntKind.i64 (0 : Int), C.int IntKind.i64 (0 : Int),
  C.bool false])))))))))))))) := by kernel_rfl
theorem iReadHead_tree (H : List Pt → Nat → St → T (List C)) (b : List UInt8) : vBodyL E_iReadHead (0 : Nat) (sg [pS] [rHead, rB]) Try.f70 H [C.str b] =
 (.must true
 (.ask (decide ((↑b.length : Int) < (24 : Int)))
  (.must true
   (.ret [C.int IntKind.i64 (0 : Int), C.int IntKind.i64 (0 : Int), C.int IntKind.i64 (0 : Int), C.int IntKind.i64 (0 : Int),
  C.bool false]))
  (.must true
   (.must (decide (b.length ≤ (281474976710656 : Nat)) &&
  (decide ((-9223372036854775808 : Int) ≤ (8 : Int)) && decide ((8 : Int) ≤ (9223372036854775807 : Int))))
    (.must true
     (.ask (fixOk b (8 : Int) (8 : Int))
      (.must true
       (.must (decide (b.length ≤ (281474976710656 : Nat)) &&
  (decide ((-9223372036854775808 : Int) ≤ (16 : Int)) && decide ((16 : Int) ≤ (9223372036854775807 : Int))))
        (.must true
         (.ask (fixOk b (16 : Int) (4 : Int))
          (.must (decide ((0 : Int) ≤ (4 : Int)) && decide ((4 : Int) < (↑b.length : Int)))
           (.must (decide ((0 : Int) ≤ (5 : Int)) && decide ((5 : Int) < (↑b.length : Int)))
            (.must true
             (.must true
              (.must true
               (.must (decide ((0 : Int) ≤ (24 : Int)) && decide ((24 : Int) ≤ (↑b.length : Int)))
                (.ask (!headText (IntKind.i64.wrap (↑(b.getD (Int.toNat (4 : Int)) (0 : UInt8)).toNat : Int))
      (IntKind.i64.wrap (↑(b.getD (Int.toNat (5 : Int)) (0 : UInt8)).toNat : Int)) (fixRead b (8 : Int) (8 : Int))
      (fixRead b (16 : Int) (4 : Int)) ==
    List.drop (0 : Nat) (List.take (Int.toNat (24 : Int)) b))
                 (.must true
                  (.ret [C.int IntKind.i64 (0 : Int), C.int IntKind.i64 (0 : Int), C.int IntKind.i64 (0 : Int), C.int IntKind.i64 (0 : Int),
  C.bool false]))
                 (.must true
                  (.ret [C.int IntKind.i64 (IntKind.i64.wrap (↑(b.getD (Int.toNat (4 : Int)) (0 : UInt8)).toNat : Int)),
  C.int IntKind.i64 (IntKind.i64.wrap (↑(b.getD (Int.toNat (5 : Int)) (0 : UInt8)).toNat : Int)),
  C.int IntKind.i64 (fixRead b (8 : Int) (8 : Int)), C.int IntKind.i64 (fixRead b (16 : Int) (4 : Int)), C.bool true])))))))))
          (.must (decide ((0 : Int) ≤ (4 : Int)) && decide ((4 : Int) < (↑b.length : Int)))
           (.must (decide ((0 : Int) ≤ (5 : Int)) && decide ((5 : Int) < (↑b.length : Int)))
            (.must true
             (.must true
              (.must true
               (.must (decide ((0 : Int) ≤ (24 : Int)) && decide ((24 : Int) ≤ (↑b.length : Int)))
                (.ask (!headText (IntKind.i64.wrap (↑(b.getD (Int.toNat (4 : Int)) (0 : UInt8)).toNat : Int))
      (IntKind.i64.wrap (↑(b.getD (Int.toNat (5 : Int)) (0 : UInt8)).toNat : Int)) (fixRead b (8 : Int) (8 : Int))
      (fixRead b (16 : Int) (4 : Int)) ==
    List.drop (0 : Nat) (List.take (Int.toNat (24 : Int)) b))
                 (.must true
                  (.ret [C.int IntKind.i64 (0 : Int), C.int IntKind.i64 (0 : Int), C.int IntKind.i64 (0 : Int), C.int IntKind.i64 (0 : Int),
  C.bool false]))
                 (.must true
                  (.ret [C.int IntKind.i64 (IntKind.i64.wrap (↑(b.getD (Int.toNat (4 : Int)) (0 : UInt8)).toNat : Int)),
  C.int IntKind.i64 (IntKind.i64.wrap (↑(b.getD (Int.toNat (5 : Int)) (0 : UInt8)).toNat : Int)),
  C.int IntKind.i64 (fixRead b (8 : Int) (8 : Int)), C.int IntKind.i64 (fixRead b (16 : Int) (4 : Int)), C.bool true])))))))))))))
      (.must true
       (.must (decide (b.length ≤ (281474976710656 : Nat)) &&
  (decide ((-9223372036854775808 : Int) ≤ (16 : Int)) && decide ((16 : Int) ≤ (9223372036854775807 : Int))))
        (.must true
         (.ask (fixOk b (16 : Int) (4 : Int))
          (.must (decide ((0 : Int) ≤ (4 : Int)) && decide ((4 : Int) < (↑b.length : Int)))
           (.must (decide ((0 : Int) ≤ (5 : Int)) && decide ((5 : Int) < (↑b.length : Int)))
            (.must true
             (.ret [C.int IntKind.i64 (0 : Int), C.int IntKind.i64 (0 : Int), C.int IntKind.i64 (0 : Int), C.int IntKind.i64 (0 : Int),
  C.bool false]))))
          (.must (decide ((0 : Int) ≤ (4 : Int)) && decide ((4 : Int) < (↑b.length : Int)))
           (.must (decide ((0 : Int) ≤ (5 : Int)) && decide ((5 : Int) < (↑b.length : Int)))
            (.must true
             (.ret [C.int IntKind.i64 (0 : Int), C.int IntKind.i64 (0 : Int), C.int IntKind.i64 (0 : Int), C.int IntKind.i64 (0 : Int),
  C.bool false])))))))))))))) := by kernel_rfl
theorem iMeets_tree (H : List Pt → Nat → St → T (List C)) (a : Int) (b : Int) (x : Int) (y : Int) : vBodyL E_iMeets (0 : Nat) (sg [pI, pI, pI, pI] [rB]) Try.f108 H
  [C.int IntKind.i64 a, C.int IntKind.i64 b, C.int IntKind.i64 x, C.int IntKind.i64 y] =
 (.must true
 (.ask (decide (imax a x < imin b y))
  (.must true
   (.ret [C.bool true]))
  (.must true
   (.ret [C.bool false])))) := by kernel_rfl
theorem sHeadHit_tree (H : List Pt → Nat → St → T (List C)) (b : List UInt8) (x : Int) (y : Int) : vBodyL E_sHeadHit (0 : Nat) (sg [pS, pI, pI] [rB]) Try.f46 H [C.str b, C.int IntKind.i64 x, C.int IntKind.i64 y] =
 (.must true
 (.must true
  (.must (decide (b.length ≤ (281474976710656 : Nat)))
   (.must true
    (.ask (readHeadOk b)
     (.ask (decide (x < (24 : Int)))
      (.ask (decide ((0 : Int) < y))
       (.ask (decide (x < y))
        (.must true
         (.ret [C.bool true]))
        (.must true
         (.ret [C.bool false])))
       (.must true
        (.ret [C.bool false])))
      (.must true
       (.ret [C.bool false])))
     (.must true
      (.ret [C.bool false]))))))) := by kernel_rfl
theorem iHeadHit_tree (H : List Pt → Nat → St → T (List C)) (b : List UInt8) (x : Int) (y : Int) : vBodyL E_iHeadHit (0 : Nat) (sg [pS, pI, pI] [rB]) Try.f47 H [C.str b, C.int IntKind.i64 x, C.int IntKind.i64 y] =
 (.must true
 (.must true
  (.must (decide (b.length ≤ (281474976710656 : Nat)))
   (.must true
    (.ask (readHeadOk b)
     (.must true
      (.must true
       (.must true
        (.ask (meets (0 : Int) (24 : Int) x y)
         (.must true
          (.ret [C.bool true]))
         (.must true
          (.ret [C.bool false]))))))
     (.must true
      (.ret [C.bool false]))))))) := by kernel_rfl
theorem lHeadHit_tree (H : List Pt → Nat → St → T (List C)) (b : List UInt8) (x : Int) (y : Int) : vBodyL E_lHeadHit (0 : Nat) (sg [pS, pI, pI] [rB]) Try.f8 H [C.str b, C.int IntKind.i64 x, C.int IntKind.i64 y] =
 (.must true
 (.ask (decide ((1048576 : Int) < (↑b.length : Int)))
  (.must true
   (.ret [C.bool true]))
  (.must true
   (.must (decide (b.length ≤ (281474976710656 : Nat)))
    (.must true
     (.ask (headHit b x y)
      (.must true
       (.must (decide (b.length ≤ (281474976710656 : Nat)))
        (.must true
         (.ask (headHit b x y)
          (.ask (!true)
           (.must true
            (.ret [C.bool false]))
           (.must true
            (.ret [C.bool true])))
          (.ask true
           (.must true
            (.ret [C.bool false]))
           (.must true
            (.ret [C.bool true])))))))
      (.must true
       (.must (decide (b.length ≤ (281474976710656 : Nat)))
        (.must true
         (.ask (headHit b x y)
          (.ask true
           (.must true
            (.ret [C.bool false]))
           (.must true
            (.ret [C.bool true])))
          (.ask (!true)
           (.must true
            (.ret [C.bool false]))
           (.must true
            (.ret [C.bool true]))))))))))))) := by kernel_rfl
end Go.Proofs.Ythpamcbipmkimaa.V

namespace Go.Proofs.Ythpamcbipmkimaa.V

theorem fixOf_len (n w : Int) : (fixOf n w).length ≤ 8 := by
  unfold fixOf; split
  · rw [leBytes_length]; omega
  · simp
theorem sHeadOk_E : EnvSound Try.prog E_sHeadOk := mkE_sound (by simp [sIn_sound])
theorem sHeadOk_sound : Sound Try.prog 68 (sg [pHead] [rB]) headOkSpec := vBody_sound (depth := 0) sHeadOk_E Try.func68 (by kernel_rfl) fun cs outs hk h => by
  unfold headOkSpec at h
  split at h
  · simp only [Option.some.injEq, Prod.mk.injEq, true_and] at h
    rw [← h, vBody_L, sHeadOk_tree]
    simp only [eval_must', eval_ask', eval_ret', if_true, headOk]
    repeat' split
    all_goals first | rfl | (simp_all; done)
  · cases h
theorem iHeadOk_E : EnvSound Try.prog E_iHeadOk := mkE_sound (by simp [iIn_sound, iIsVersion_sound, iIsNumber_sound])
theorem iHeadOk_sound : Sound Try.prog 67 (sg [pHead] [rB]) headOkSpec := vBody_sound (depth := 0) iHeadOk_E Try.func67 (by kernel_rfl) fun cs outs hk h => by
  unfold headOkSpec at h
  split at h
  · simp only [Option.some.injEq, Prod.mk.injEq, true_and] at h
    rw [← h, vBody_L, iHeadOk_tree]
    simp only [eval_must', eval_ask', eval_ret', if_true, headOk]
    repeat' split
    all_goals first | rfl | (simp_all; done)
  · cases h
theorem headOk_iff (v s b l : Int) : headOk v s b l = true ↔ (1 ≤ v ∧ v ≤ 2) ∧ (1 ≤ s ∧ s ≤ 20) ∧ (0 ≤ b ∧ b ≤ 1000000000) ∧ (0 ≤ l ∧ l ≤ 4294967295) := by
  simp [headOk, inB, and_assoc]
theorem sHeadText_E : EnvSound Try.prog E_sHeadText := mkE_sound (by simp [sSumOf_sound, sFixText_sound, sHeadOk_sound])
theorem sHeadText_sound : Sound Try.prog 66 (sg [pHead] [rS]) headTextSpec := vBody_sound (depth := 0) sHeadText_E Try.func66 (by kernel_rfl) fun cs outs hk h => by
  unfold headTextSpec at h
  split at h
  · simp only [Option.some.injEq, Prod.mk.injEq, true_and] at h
    rename_i v s b l
    rw [← h, vBody_L, sHeadText_tree]
    by_cases hok : headOk v s b l = true
    · obtain ⟨⟨a1, a2⟩, ⟨a3, a4⟩, ⟨a5, a6⟩, a7, a8⟩ := (headOk_iff v s b l).1 hok
      have l1 := fixOf_len v 1
      have l2 := fixOf_len s 1
      have l3 := fixOf_len b 8
      have l4 := fixOf_len l 4
      have l5 := fixOf_len (crcMore 0 (headPre v s b l) : Nat) 4
      have c1 := crcMore_lt 0 (headPre v s b l) (by omega)
      have e : headText v s b l = headPre v s b l ++ fixOf (crcMore 0 (headPre v s b l) : Nat) 4 := by simp [headText, hok]
      rw [e]
      unfold headPre at *
      simp only [eval_must', eval_ask', eval_ret', if_true, hok, decide_eq_true_eq, Bool.and_eq_true, List.length_append, List.length_cons, List.length_nil, Int.ofNat_eq_natCast]
      repeat rw [if_pos (by omega)]
    · simp [eval_must', eval_ask', eval_ret', hok, headText]
  · cases h
theorem iHeadText_E : EnvSound Try.prog E_iHeadText := mkE_sound (by simp [iSumOf_sound, iFixText_sound, iHeadOk_sound])
theorem iHeadText_sound : Sound Try.prog 65 (sg [pHead] [rS]) headTextSpec := vBody_sound (depth := 0) iHeadText_E Try.func65 (by kernel_rfl) fun cs outs hk h => by
  unfold headTextSpec at h
  split at h
  · simp only [Option.some.injEq, Prod.mk.injEq, true_and] at h
    rename_i v s b l
    rw [← h, vBody_L, iHeadText_tree]
    by_cases hok : headOk v s b l = true
    · obtain ⟨⟨a1, a2⟩, ⟨a3, a4⟩, ⟨a5, a6⟩, a7, a8⟩ := (headOk_iff v s b l).1 hok
      have l1 := fixOf_len v 1
      have l2 := fixOf_len s 1
      have l3 := fixOf_len b 8
      have l4 := fixOf_len l 4
      have l5 := fixOf_len (crcMore 0 (headPre v s b l) : Nat) 4
      have c1 := crcMore_lt 0 (headPre v s b l) (by omega)
      have f0 : fixOf 0 2 = [0, 0] := by decide
      have e : headText v s b l = headPre v s b l ++ fixOf (crcMore 0 (headPre v s b l) : Nat) 4 := by simp [headText, hok]
      rw [e]
      unfold headPre at *
      simp only [eval_must', eval_ask', eval_ret', if_true, hok, decide_eq_true_eq, Bool.and_eq_true, List.length_append, List.length_cons, List.length_nil, Int.ofNat_eq_natCast, f0]
      repeat rw [if_pos (by omega)]
    · simp [eval_must', eval_ask', eval_ret', hok, headText]
  · cases h

theorem sReadHead_E : EnvSound Try.prog E_sReadHead := mkE_sound (by simp [sReadFix_sound, sHeadText_sound])
theorem sReadHead_sound : Sound Try.prog 71 (sg [pS] [rHead, rB]) readHeadSpec := vBody_sound (depth := 0) sReadHead_E Try.func71 (by kernel_rfl) fun cs outs hk h => by
  unfold readHeadSpec at h
  split at h
  · simp only [Option.some.injEq, Prod.mk.injEq, decide_eq_true_eq] at h
    obtain ⟨h1, rfl⟩ := h
    rename_i b
    rw [vBody_L, sReadHead_tree]
    have c4 := byte_lt b 4
    have c5 := byte_lt b 5
    have w4 : IntKind.i64.wrap ((b.getD 4 0).toNat : Int) = rhV b := by rw [wrap64] <;> first | rfl | omega
    have w5 : IntKind.i64.wrap ((b.getD 5 0).toNat : Int) = rhS b := by rw [wrap64] <;> first | rfl | omega
    have t4 : Int.toNat (4 : Int) = 4 := rfl
    have t5 : Int.toNat (5 : Int) = 5 := rfl
    have t24 : Int.toNat (24 : Int) = 24 := rfl
    have eB : fixRead b 8 8 = rhB b := rfl
    have eL : fixRead b 16 4 = rhL b := rfl
    simp only [t4, t5, t24, w4, w5, eB, eL, List.drop_zero]
    by_cases h24 : (b.length : Int) < 24
    · have ho : readHeadOk b = false := by unfold readHeadOk; rw [decide_eq_false (by omega)]; rfl
      simp [eval_must', eval_ask', eval_ret', h24, ho, ifI]
    · have g1 : (4 : Int) < b.length := by omega
      have g2 : (5 : Int) < b.length := by omega
      have g3 : (24 : Int) ≤ b.length := by omega
      have g4 : 24 ≤ b.length := by omega
      by_cases h8 : fixOk b 8 8 = true
      · by_cases ht : headText (rhV b) (rhS b) (rhB b) (rhL b) = b.take 24
        · have ho : readHeadOk b = true := by unfold readHeadOk; rw [decide_eq_true g4, h8, decide_eq_true ht]; rfl
          have hb : (headText (rhV b) (rhS b) (rhB b) (rhL b) == b.take 24) = true := by rw [ht]; simp
          by_cases h16 : fixOk b 16 4 = true <;> simp [eval_must', eval_ask', eval_ret', h24, h8, h16, h1, g1, g2, g3, t4, t5, t24, w4, w5, eB, eL, ht, ho, ifI]
        · have ho : readHeadOk b = false := by unfold readHeadOk; rw [decide_eq_true g4, h8, decide_eq_false ht]; rfl
          by_cases h16 : fixOk b 16 4 = true <;> simp [eval_must', eval_ask', eval_ret', h24, h8, h16, h1, g1, g2, g3, t4, t5, t24, w4, w5, eB, eL, ht, ho, ifI]
      · have ho : readHeadOk b = false := by unfold readHeadOk; rw [Bool.eq_false_iff.2 h8]; simp
        by_cases h16 : fixOk b 16 4 = true <;> simp [eval_must', eval_ask', eval_ret', h24, h8, h16, h1, g1, g2, g3, t4, t5, t24, ho, ifI] <;> (intros; simp_all)
  · cases h
theorem iReadHead_E : EnvSound Try.prog E_iReadHead := mkE_sound (by simp [iReadFix_sound, iHeadText_sound])
theorem iReadHead_sound : Sound Try.prog 70 (sg [pS] [rHead, rB]) readHeadSpec := vBody_sound (depth := 0) iReadHead_E Try.func70 (by kernel_rfl) fun cs outs hk h => by
  unfold readHeadSpec at h
  split at h
  · simp only [Option.some.injEq, Prod.mk.injEq, decide_eq_true_eq] at h
    obtain ⟨h1, rfl⟩ := h
    rename_i b
    rw [vBody_L, iReadHead_tree]
    have c4 := byte_lt b 4
    have c5 := byte_lt b 5
    have w4 : IntKind.i64.wrap ((b.getD 4 0).toNat : Int) = rhV b := by rw [wrap64] <;> first | rfl | omega
    have w5 : IntKind.i64.wrap ((b.getD 5 0).toNat : Int) = rhS b := by rw [wrap64] <;> first | rfl | omega
    have t4 : Int.toNat (4 : Int) = 4 := rfl
    have t5 : Int.toNat (5 : Int) = 5 := rfl
    have t24 : Int.toNat (24 : Int) = 24 := rfl
    have eB : fixRead b 8 8 = rhB b := rfl
    have eL : fixRead b 16 4 = rhL b := rfl
    simp only [t4, t5, t24, w4, w5, eB, eL, List.drop_zero]
    by_cases h24 : (b.length : Int) < 24
    · have ho : readHeadOk b = false := by unfold readHeadOk; rw [decide_eq_false (by omega)]; rfl
      simp [eval_must', eval_ask', eval_ret', h24, ho, ifI]
    · have g1 : (4 : Int) < b.length := by omega
      have g2 : (5 : Int) < b.length := by omega
      have g3 : (24 : Int) ≤ b.length := by omega
      have g4 : 24 ≤ b.length := by omega
      by_cases h8 : fixOk b 8 8 = true
      · by_cases ht : headText (rhV b) (rhS b) (rhB b) (rhL b) = b.take 24
        · have ho : readHeadOk b = true := by unfold readHeadOk; rw [decide_eq_true g4, h8, decide_eq_true ht]; rfl
          have hb : (headText (rhV b) (rhS b) (rhB b) (rhL b) == b.take 24) = true := by rw [ht]; simp
          by_cases h16 : fixOk b 16 4 = true <;> simp [eval_must', eval_ask', eval_ret', h24, h8, h16, h1, g1, g2, g3, t4, t5, t24, w4, w5, eB, eL, ht, ho, ifI]
        · have ho : readHeadOk b = false := by unfold readHeadOk; rw [decide_eq_true g4, h8, decide_eq_false ht]; rfl
          by_cases h16 : fixOk b 16 4 = true <;> simp [eval_must', eval_ask', eval_ret', h24, h8, h16, h1, g1, g2, g3, t4, t5, t24, w4, w5, eB, eL, ht, ho, ifI]
      · have ho : readHeadOk b = false := by unfold readHeadOk; rw [Bool.eq_false_iff.2 h8]; simp
        by_cases h16 : fixOk b 16 4 = true <;> simp [eval_must', eval_ask', eval_ret', h24, h8, h16, h1, g1, g2, g3, t4, t5, t24, ho, ifI] <;> (intros; simp_all)
  · cases h

theorem iMeets_E : EnvSound Try.prog E_iMeets := mkE_sound (by simp [])
theorem iMeets_sound : Sound Try.prog 108 (sg [pI, pI, pI, pI] [rB]) meetsSpec := vBody_sound (depth := 0) iMeets_E Try.func108 (by kernel_rfl) fun cs outs hk h => by
  unfold meetsSpec at h
  split at h
  · simp only [Option.some.injEq, Prod.mk.injEq, true_and] at h
    rw [← h, vBody_L, iMeets_tree]
    simp only [eval_must', eval_ask', eval_ret', if_true, meets, decide_eq_true_eq]
    repeat' split
    all_goals first | rfl | (simp_all; done)
  · cases h
theorem sHeadHit_E : EnvSound Try.prog E_sHeadHit := mkE_sound (by simp [sReadHead_sound])
theorem sHeadHit_sound : Sound Try.prog 46 (sg [pS, pI, pI] [rB]) headHitSpec := vBody_sound (depth := 0) sHeadHit_E Try.func46 (by kernel_rfl) fun cs outs hk h => by
  unfold headHitSpec at h
  split at h
  · simp only [Option.some.injEq, Prod.mk.injEq, decide_eq_true_eq] at h
    obtain ⟨h1, rfl⟩ := h
    rename_i b x y
    rw [vBody_L, sHeadHit_tree]
    have em : meets 0 24 x y = decide (x < 24 ∧ 0 < y ∧ x < y) := by
      unfold meets imax imin
      congr 1
      repeat' split
      all_goals (apply propext; omega)
    simp only [eval_must', eval_ask', eval_ret', if_true, h1, headHit, em, decide_eq_true_eq]
    by_cases hr : readHeadOk b = true
    · by_cases p1 : x < 24 <;> by_cases p2 : 0 < y <;> by_cases p3 : x < y <;> simp [hr, p1, p2, p3]
    · simp [hr]
  · cases h
theorem iHeadHit_E : EnvSound Try.prog E_iHeadHit := mkE_sound (by simp [iReadHead_sound, iMeets_sound])
theorem iHeadHit_sound : Sound Try.prog 47 (sg [pS, pI, pI] [rB]) headHitSpec := vBody_sound (depth := 0) iHeadHit_E Try.func47 (by kernel_rfl) fun cs outs hk h => by
  unfold headHitSpec at h
  split at h
  · simp only [Option.some.injEq, Prod.mk.injEq, decide_eq_true_eq] at h
    obtain ⟨h1, rfl⟩ := h
    rename_i b x y
    rw [vBody_L, iHeadHit_tree]
    simp only [eval_must', eval_ask', eval_ret', if_true, h1, headHit, decide_eq_true_eq]
    by_cases hr : readHeadOk b = true <;> by_cases hm : meets 0 24 x y = true <;> simp [hr, hm]
  · cases h

theorem lHeadHit_E : EnvSound Try.prog E_lHeadHit := mkE_sound (by simp [sHeadHit_sound, iHeadHit_sound])
theorem lHeadHit_sound : Sound Try.prog 8 (sg [pS, pI, pI] [rB]) siiFree := vBody_sound (depth := 0) lHeadHit_E Try.func8 (by kernel_rfl) fun cs outs hk h => by
  unfold siiFree at h
  split at h
  · simp only [Option.some.injEq, Prod.mk.injEq, true_and] at h
    rename_i b x y
    rw [← h, vBody_L, lHeadHit_tree]
    by_cases hb : (1048576 : Int) < b.length
    · simp [eval_must', eval_ask', eval_ret', hb]
    · have h1 : b.length ≤ 281474976710656 := by omega
      by_cases hh : headHit b x y = true <;> simp [eval_must', eval_ask', eval_ret', hb, h1, hh]
  · cases h

end Go.Proofs.Ythpamcbipmkimaa.V
