/- Functions of the given program and of its reference: what each returns, as an equation over data; by the interpreter. -/
import Derived.Test.YthpamcbipmkimaaS2
import Derived.Test.YthpamcbipmkimaaProg
import Derived.KernelRfl
set_option linter.unusedVariables false
set_option linter.unusedSimpArgs false
set_option linter.unusedSectionVars false
set_option linter.deprecated false
namespace Go.Proofs.Ythpamcbipmkimaa.V
noncomputable section

/-- a number, seven bits a byte, at most so many bytes -/
def varBytes : Nat → Nat → List UInt8
  | 0, _ => []
  | k + 1, n => if n < 128 then [UInt8.ofNat n] else UInt8.ofNat (n % 128 + 128) :: varBytes k (n / 128)
def varText (n : Int) : List UInt8 := if inB n 0 1000000000 then varBytes 5 n.toNat else []
def varTextSpec : Spec := fun cs => match cs with
  | [.int .i64 n] => some (true, [.str (varText n)])
  | _ => none
def varSizeSpec : Spec := fun cs => match cs with
  | [.int .i64 n] => some (true, [.int .i64 (varText n).length])
  | _ => none
def H_sVarText (n : Int) (m : Nat) (r : List (List C)) : St := st1 [(0, int64 n), (3, .l (.ref 0 0 m))] 1 r
def H_iVarText (n : Int) (m : Nat) (r : List (List C)) : St := st1 [(0, int64 n), (3, .l (.ref 0 0 m))] 1 r
def E_sVarText : Env := mkE [(4, [0, 3])] [(93, (sg [pI, pI, pI] [rB]), inSpec)]
def E_iVarText : Env := mkE [(4, [0, 3])] [(114, (sg [pI] [rB]), isNumberSpec)]

def E_sVarSize : Env := mkE [] [(167, (sg [pI] [rS]), varTextSpec)]
def E_iVarSize : Env := mkE [] [(117, (sg [pI] [rS]), varTextSpec)]

/-- a number that is read, byte by byte: k bytes so far, their value -/
def rvGo (b : List UInt8) (at' : Nat) : Nat → Nat → Nat → Option (Nat × Nat)
  | 0, _, _ => none
  | f + 1, k, n => if at' + k < b.length then
      if (b.getD (at' + k) 0).toNat < 128 then
        if (k > 0 ∧ (b.getD (at' + k) 0).toNat = 0) ∨ 1000000000 < n + (b.getD (at' + k) 0).toNat * 128 ^ k then none else some (n + (b.getD (at' + k) 0).toNat * 128 ^ k, at' + k + 1)
      else rvGo b at' f (k + 1) (n + ((b.getD (at' + k) 0).toNat - 128) * 128 ^ k)
    else none
def readVar (b : List UInt8) (at' : Int) : Option (Nat × Nat) := if 0 ≤ at' then rvGo b at'.toNat 5 0 0 else none
def rvOk (b : List UInt8) (at' : Int) : Bool := (readVar b at').isSome
def rvN (b : List UInt8) (at' : Int) : Int := match readVar b at' with | some p => p.1 | none => 0
def rvEnd (b : List UInt8) (at' : Int) : Int := match readVar b at' with | some p => p.2 | none => 0
def readVarSpec : Spec := fun cs => match cs with
  | [.str b, .int .i64 a] => some (decide (b.length ≤ 281474976710656) && (decide (-9223372036854775808 ≤ a) && decide (a ≤ 9223372036854775807)), [.int .i64 (rvN b a), .int .i64 (rvEnd b a), .bool (rvOk b a)])
  | _ => none
def H_sReadVar (b : List UInt8) (a n i : Int) : St := st0 [(0, wstr b), (1, int64 a), (7, int64 n), (8, int64 i)]
def H_iReadVar (b : List UInt8) (a n i : Int) : St := st0 [(0, wstr b), (1, int64 a), (7, int64 n), (10, int64 i)]
def E_sReadVar : Env := mkE [(5, [0, 1, 7, 8])] [(93, (sg [pI, pI, pI] [rB]), inSpec), (167, (sg [pI] [rS]), varTextSpec)]
def E_iReadVar : Env := mkE [(3, [0, 1, 7, 10])] [(95, (sg [pI, pI, pI] [rB]), inSpec), (114, (sg [pI] [rB]), isNumberSpec)]

end
end Go.Proofs.Ythpamcbipmkimaa.V

namespace Go.Proofs.Ythpamcbipmkimaa.V
set_option maxRecDepth 100000
theorem sVarText_tree (H : List Pt → Nat → St → T (List C)) (n : Int) : vBodyL E_sVarText (0 : Nat) (sg [pI] [rS]) Try.f167 H [C.int IntKind.i64 n] =
 (.must true
 (.must true
  (.must true
   (.must true
    (.ask (inB n (0 : Int) (1000000000 : Int))
     (H [Pt.r, Pt.r, Pt.r, Pt.l, Pt.b] (9223372036854775808 : Nat) (H_sVarText (n) ((0 : Nat)) ([])))
     (.must true
      (.ret [C.str []]))))))) := by kernel_rfl
theorem iVarText_tree (H : List Pt → Nat → St → T (List C)) (n : Int) : vBodyL E_iVarText (0 : Nat) (sg [pI] [rS]) Try.f117 H [C.int IntKind.i64 n] =
 (.must true
 (.must true
  (.must true
   (.must true
    (.ask (inB n (0 : Int) (1000000000 : Int))
     (H [Pt.r, Pt.r, Pt.r, Pt.l, Pt.b] (9223372036854775808 : Nat) (H_iVarText (n) ((0 : Nat)) ([])))
     (.must true
      (.ret [C.str []]))))))) := by kernel_rfl
theorem sVarText_round0 (H : List Pt → Nat → St → T (List C)) (n : Int) (q : Nat) (r : List (List C)) (k : Nat) : vRound E_sVarText (0 : Nat) (sg [pI] [rS]) Try.f167 H [Pt.r, Pt.r, Pt.r, Pt.l, Pt.b] k (H_sVarText n q r) =
 (.ask (decide ((127 : Int) < n))
 (.must (decide (q = r.length) && roomy (r.length + (1 : Nat)) (1 : Nat) && (decide ((1 : Nat) = (1 : Nat)) && true))
  (.must true
   (H [Pt.r, Pt.r, Pt.r, Pt.l, Pt.b] k (H_sVarText (ishr IntKind.i64 n (7 : Int)) (r.length + (1 : Nat)) (r.append [[C.int IntKind.u8 (IntKind.u8.wrap (ior IntKind.i64 (iand IntKind.i64 n (127 : Int)) (128 : Int)))]])))))
 (.must (decide (q = r.length) && roomy (r.length + (1 : Nat)) (1 : Nat) && (decide ((1 : Nat) = (1 : Nat)) && true))
  (.must ((List.take (r.length + (1 : Nat)) (r.append [[C.int IntKind.u8 (IntKind.u8.wrap n)]])).all byteRow)
   (.must true
    (.ret [C.str (strOfRows (List.take (r.length + (1 : Nat)) (r.append [[C.int IntKind.u8 (IntKind.u8.wrap n)]])))]))))) := by kernel_rfl
theorem iVarText_round0 (H : List Pt → Nat → St → T (List C)) (n : Int) (q : Nat) (r : List (List C)) (k : Nat) : vRound E_iVarText (0 : Nat) (sg [pI] [rS]) Try.f117 H [Pt.r, Pt.r, Pt.r, Pt.l, Pt.b] k (H_iVarText n q r) =
 (.ask (decide ((128 : Int) ≤ n))
 (.must (decide (q = r.length) && roomy (r.length + (1 : Nat)) (1 : Nat) && (decide ((1 : Nat) = (1 : Nat)) && true))
  (.must true
   (H [Pt.r, Pt.r, Pt.r, Pt.l, Pt.b] k (H_iVarText (ishr IntKind.i64 n (7 : Int)) (r.length + (1 : Nat)) (r.append [[C.int IntKind.u8 (ior IntKind.u8 (IntKind.u8.wrap n) (128 : Int))]])))))
 (.must (decide (q = r.length) && roomy (r.length + (1 : Nat)) (1 : Nat) && (decide ((1 : Nat) = (1 : Nat)) && true))
  (.must ((List.take (r.length + (1 : Nat)) (r.append [[C.int IntKind.u8 (IntKind.u8.wrap n)]])).all byteRow)
   (.must true
    (.ret [C.str (strOfRows (List.take (r.length + (1 : Nat)) (r.append [[C.int IntKind.u8 (IntKind.u8.wrap n)]])))]))))) := by kernel_rfl
theorem sVarSize_tree (H : List Pt → Nat → St → T (List C)) (n : Int) : vBodyL E_sVarSize (0 : Nat) (sg [pI] [rI]) Try.f144 H [C.int IntKind.i64 n] =
 (.must true
 (.must true
  (.must true
   (.must true
    (.must true
     (.ret [C.int IntKind.i64 (↑(varText n).length : Int)])))))) := by kernel_rfl
theorem iVarSize_tree (H : List Pt → Nat → St → T (List C)) (n : Int) : vBodyL E_iVarSize (0 : Nat) (sg [pI] [rI]) Try.f145 H [C.int IntKind.i64 n] =
 (.must true
 (.must true
  (.must true
   (.must true
    (.must true
     (.ret [C.int IntKind.i64 (↑(varText n).length : Int)])))))) := by kernel_rfl
theorem sReadVar_tree (H : List Pt → Nat → St → T (List C)) (b : List UInt8) (a : Int) : vBodyL E_sReadVar (0 : Nat) (sg [pS, pI] [rI, rI, rB]) Try.f178 H [C.str b, C.int IntKind.i64 a] =
 (.must true
 (.must true
  (.must true
   (.must true
    (.ask (inB a (0 : Int) (↑b.length : Int))
     (H [Pt.r, Pt.r, Pt.r, Pt.l, Pt.r, Pt.b] (9223372036854775808 : Nat) (H_sReadVar (b) (a) ((0 : Int)) ((0 : Int))))
     (.must true
      (.ret [C.int IntKind.i64 (0 : Int), C.int IntKind.i64 (0 : Int), C.bool false]))))))) := by kernel_rfl
theorem iReadVar_tree (H : List Pt → Nat → St → T (List C)) (b : List UInt8) (a : Int) : vBodyL E_iReadVar (0 : Nat) (sg [pS, pI] [rI, rI, rB]) Try.f121 H [C.str b, C.int IntKind.i64 a] =
 (.must true
 (H [Pt.r, Pt.r, Pt.l, Pt.r, Pt.b] (9223372036854775808 : Nat) (H_iReadVar (b) (a) ((0 : Int)) ((0 : Int))))) := by kernel_rfl
theorem sReadVar_round0 (H : List Pt → Nat → St → T (List C)) (b : List UInt8) (a : Int) (n : Int) (i : Int) (k : Nat) : vRound E_sReadVar (0 : Nat) (sg [pS, pI] [rI, rI, rB]) Try.f178 H [Pt.r, Pt.r, Pt.r, Pt.l, Pt.r, Pt.b] k
  (H_sReadVar b a n i) =
 (.ask (decide (i < (5 : Int)))
 (.ask (decide (IntKind.i64.wrap (a + i) < (↑b.length : Int)))
  (.must (decide ((0 : Int) ≤ IntKind.i64.wrap (a + i)) && decide (IntKind.i64.wrap (a + i) < (↑b.length : Int)))
   (.must (decide ((0 : Int) ≤ IntKind.u64.wrap (IntKind.i64.wrap ((7 : Int) * i))))
    (.ask (decide (IntKind.i64.wrap (↑(b.getD (IntKind.i64.wrap (a + i)).toNat (0 : UInt8)).toNat : Int) < (128 : Int)))
     (.must true
      (.must true
       (.must true
        (.ask (varText
    (ior IntKind.i64 n
      (ishl IntKind.i64
        (iand IntKind.i64 (IntKind.i64.wrap (↑(b.getD (IntKind.i64.wrap (a + i)).toNat (0 : UInt8)).toNat : Int))
          (127 : Int))
        (IntKind.u64.wrap (IntKind.i64.wrap ((7 : Int) * i))))) ==
  [])
         (.must true
          (.ret [C.int IntKind.i64 (0 : Int), C.int IntKind.i64 (0 : Int), C.bool false]))
         (.must (decide ((0 : Int) ≤ IntKind.i64.wrap (IntKind.i64.wrap (a + i) + (1 : Int))) &&
    decide (IntKind.i64.wrap (IntKind.i64.wrap (a + i) + (1 : Int)) ≤ (↑b.length : Int)) &&
  (decide ((0 : Int) ≤ a) && decide (a ≤ IntKind.i64.wrap (IntKind.i64.wrap (a + i) + (1 : Int)))))
          (.ask (!varText
      (ior IntKind.i64 n
        (ishl IntKind.i64
          (iand IntKind.i64 (IntKind.i64.wrap (↑(b.getD (IntKind.i64.wrap (a + i)).toNat (0 : UInt8)).toNat : Int))
            (127 : Int))
          (IntKind.u64.wrap (IntKind.i64.wrap ((7 : Int) * i))))) ==
    List.drop a.toNat (List.take (IntKind.i64.wrap (IntKind.i64.wrap (a + i) + (1 : Int))).toNat b))
           (.must true
            (.ret [C.int IntKind.i64 (0 : Int), C.int IntKind.i64 (0 : Int), C.bool false]))
           (.must true
            (.ret [C.int IntKind.i64
    (ior IntKind.i64 n
      (ishl IntKind.i64
        (iand IntKind.i64 (IntKind.i64.wrap (↑(b.getD (IntKind.i64.wrap (a + i)).toNat (0 : UInt8)).toNat : Int))
          (127 : Int))
        (IntKind.u64.wrap (IntKind.i64.wrap ((7 : Int) * i))))),
  C.int IntKind.i64 (IntKind.i64.wrap (IntKind.i64.wrap (a + i) + (1 : Int))), C.bool true]))))))))
     (H [Pt.r, Pt.r, Pt.r, Pt.l, Pt.r, Pt.b] k (H_sReadVar (b) (a) (ior IntKind.i64 n
  (ishl IntKind.i64
    (iand IntKind.i64 (IntKind.i64.wrap (↑(b.getD (IntKind.i64.wrap (a + i)).toNat (0 : UInt8)).toNat : Int))
      (127 : Int))
    (IntKind.u64.wrap (IntKind.i64.wrap ((7 : Int) * i))))) (IntKind.i64.wrap (i + (1 : Int))))))))
  (.must true
   (.ret [C.int IntKind.i64 (0 : Int), C.int IntKind.i64 (0 : Int), C.bool false])))
 (.must true
  (.ret [C.int IntKind.i64 (0 : Int), C.int IntKind.i64 (0 : Int), C.bool false]))) := by kernel_rfl
theorem iReadVar_round0 (H : List Pt → Nat → St → T (List C)) (b : List UInt8) (a : Int) (n : Int) (i : Int) (k : Nat) : vRound E_iReadVar (0 : Nat) (sg [pS, pI] [rI, rI, rB]) Try.f121 H [Pt.r, Pt.r, Pt.l, Pt.r, Pt.b] k (H_iReadVar b a n i) =
 (.ask (decide (i < (5 : Int)))
 (.must true
  (.must true
   (.must true
    (.ask (inB a (0 : Int) (IntKind.i64.wrap (IntKind.i64.wrap ((↑b.length : Int) - (1 : Int)) - i)))
     (.must (decide ((0 : Int) ≤ IntKind.i64.wrap (a + i)) && decide (IntKind.i64.wrap (a + i) < (↑b.length : Int)))
      (.must (decide ((0 : Int) ≤ IntKind.i64.wrap ((7 : Int) * i)))
       (.ask (decide ((128 : Int) ≤ IntKind.i64.wrap (↑(b.getD (IntKind.i64.wrap (a + i)).toNat (0 : UInt8)).toNat : Int)))
        (H [Pt.r, Pt.r, Pt.l, Pt.r, Pt.b] k (H_iReadVar (b) (a) (ior IntKind.i64 n
  (ishl IntKind.i64
    (iand IntKind.i64 (IntKind.i64.wrap (↑(b.getD (IntKind.i64.wrap (a + i)).toNat (0 : UInt8)).toNat : Int))
      (127 : Int))
    (IntKind.i64.wrap ((7 : Int) * i)))) (IntKind.i64.wrap (i + (1 : Int)))))
        (.ask (decide ((0 : Int) < i))
         (.ask (decide (IntKind.i64.wrap (↑(b.getD (IntKind.i64.wrap (a + i)).toNat (0 : UInt8)).toNat : Int) = (0 : Int)))
          (.must true
           (.ret [C.int IntKind.i64 (0 : Int), C.int IntKind.i64 (0 : Int), C.bool false]))
          (.must true
           (.must true
            (.must true
             (.ask (inB
  (ior IntKind.i64 n
    (ishl IntKind.i64
      (iand IntKind.i64 (IntKind.i64.wrap (↑(b.getD (IntKind.i64.wrap (a + i)).toNat (0 : UInt8)).toNat : Int))
        (127 : Int))
      (IntKind.i64.wrap ((7 : Int) * i))))
  (0 : Int) (1000000000 : Int))
              (.must true
               (.ret [C.int IntKind.i64
    (ior IntKind.i64 n
      (ishl IntKind.i64
        (iand IntKind.i64 (IntKind.i64.wrap (↑(b.getD (IntKind.i64.wrap (a + i)).toNat (0 : UInt8)).toNat : Int))
          (127 : Int))
        (IntKind.i64.wrap ((7 : Int) * i)))),
  C.int IntKind.i64 (IntKind.i64.wrap (IntKind.i64.wrap (a + i) + (1 : Int))), C.bool true]))
              (.must true
               (.ret [C.int IntKind.i64 (0 : Int), C.int IntKind.i64 (0 : Int), C.bool false])))))))
         (.must true
          (.must true
           (.must true
            (.ask (inB
  (ior IntKind.i64 n
    (ishl IntKind.i64
      (iand IntKind.i64 (IntKind.i64.wrap (↑(b.getD (IntKind.i64.wrap (a + i)).toNat (0 : UInt8)).toNat : Int))
        (127 : Int))
      (IntKind.i64.wrap ((7 : Int) * i))))
  (0 : Int) (1000000000 : Int))
             (.must true
              (.ret [C.int IntKind.i64
    (ior IntKind.i64 n
      (ishl IntKind.i64
        (iand IntKind.i64 (IntKind.i64.wrap (↑(b.getD (IntKind.i64.wrap (a + i)).toNat (0 : UInt8)).toNat : Int))
          (127 : Int))
        (IntKind.i64.wrap ((7 : Int) * i)))),
  C.int IntKind.i64 (IntKind.i64.wrap (IntKind.i64.wrap (a + i) + (1 : Int))), C.bool true]))
             (.must true
              (.ret [C.int IntKind.i64 (0 : Int), C.int IntKind.i64 (0 : Int), C.bool false]))))))))))
     (.must true
      (.ret [C.int IntKind.i64 (0 : Int), C.int IntKind.i64 (0 : Int), C.bool false]))))))
 (.must true
  (.ret [C.int IntKind.i64 (0 : Int), C.int IntKind.i64 (0 : Int), C.bool false]))) := by kernel_rfl
end Go.Proofs.Ythpamcbipmkimaa.V

namespace Go.Proofs.Ythpamcbipmkimaa.V

theorem iand127 (s : Int) : iand .i64 s 127 = s % 128 := by
  show IntKind.i64.wrap (((BitVec.ofInt 64 s &&& BitVec.ofInt 64 127).toNat : Nat) : Int) = _
  rw [BitVec.toNat_and]
  have h1 : (BitVec.ofInt 64 127).toNat = 2 ^ 7 - 1 := by decide
  have h2 : (BitVec.ofInt 64 s).toNat = (s % 18446744073709551616).toNat := by simp [BitVec.toNat_ofInt]
  rw [h1, h2, Nat.and_two_pow_sub_one_eq_mod, wrap64] <;> omega
theorem or128_fin : ∀ x : Fin 256, x.val ||| 128 = x.val % 128 + 128 := by decide +kernel
theorem ior8_128 (n : Nat) : ior .u8 (IntKind.u8.wrap (n : Int)) 128 = ((n % 128 + 128 : Nat) : Int) := by
  rw [wrapU8_mod]
  show IntKind.u8.wrap (((BitVec.ofInt 8 ((n : Int) % 256) ||| BitVec.ofInt 8 128).toNat : Nat) : Int) = _
  rw [BitVec.toNat_or]
  have h1 : (BitVec.ofInt 8 128).toNat = 128 := by decide
  have h2 : (BitVec.ofInt 8 ((n : Int) % 256)).toNat = n % 256 := by simp [BitVec.toNat_ofInt]; omega
  have h3 := or128_fin ⟨n % 256, by omega⟩
  simp only [] at h3
  rw [h1, h2, h3, wrapU8] <;> omega
theorem ior64_128 (n : Nat) : IntKind.u8.wrap (ior .i64 ((n % 128 : Nat) : Int) 128) = ((n % 128 + 128 : Nat) : Int) := by
  have := ior_shift (n % 128) 1 7 (by omega) (by omega) ((n % 128 : Nat) : Int) 128 (by omega) (by omega)
  rw [this, wrap64 (by omega) (by omega), wrapU8] <;> omega
theorem row_append (l : List UInt8) (v : Nat) (h : v < 256) : (rowsOfStr l).append [[C.int .u8 (v : Int)]] = rowsOfStr (l ++ [UInt8.ofNat v]) := by
  have := rows_one (v : Int) (by omega) (by omega)
  rw [Int.toNat_natCast] at this
  rw [this, List.append_eq, rowsStr_append]
theorem varBytes_one (f n : Nat) (h : n < 128) : varBytes (f + 1) n = [UInt8.ofNat n] := by simp [varBytes, h]
theorem varBytes_more (f n : Nat) (h : ¬ n < 128) : varBytes (f + 1) n = UInt8.ofNat (n % 128 + 128) :: varBytes f (n / 128) := by simp [varBytes, h]
theorem sVarText_loop : ∀ (f n m : Nat) (l : List UInt8), n < 128 ^ (f + 1) → n ≤ 1000000000 → l.length ≤ 100 - f → f ≤ 100 → f < m →
    (vLoop E_sVarText 0 (sg [pI] [rS]) Try.f167 [.r, .r, .r, .l, .b] m (H_sVarText n l.length (rowsOfStr l))).eval = some [.str (l ++ varBytes (f + 1) n)] := by
  intro f
  induction f with
  | zero =>
    intro n m l h1 hn h2 h3 h4
    cases m with
    | zero => omega
    | succ m =>
      rw [vLoop_L _ _ _ _ _ _ _ (by kernel_rfl), sVarText_round0]
      have c : ¬ ((127 : Int) < (n : Int)) := by omega
      have hr : roomy (l.length + 1) 1 = true := by simp only [roomy, decide_eq_true_eq]; omega
      have u : IntKind.u8.wrap (n : Int) = (n : Nat) := by rw [wrapU8] <;> omega
      have tk : (rowsOfStr (l ++ [UInt8.ofNat n])).take (l.length + 1) = rowsOfStr (l ++ [UInt8.ofNat n]) := List.take_of_length_le (by rw [rows_length]; simp)
      simp only [eval_must', eval_ask', eval_ret', if_true, decide_eq_true_eq, Bool.and_eq_true, c, if_false, rows_length, hr, and_self, u, row_append l n (by omega), tk, rows_bytes, str_rows, varBytes_one 0 n (by omega)]
  | succ f ih =>
    intro n m l h1 hn h2 h3 h4
    cases m with
    | zero => omega
    | succ m =>
      rw [vLoop_L _ _ _ _ _ _ _ (by kernel_rfl), sVarText_round0]
      have hr : roomy (l.length + 1) 1 = true := by simp only [roomy, decide_eq_true_eq]; omega
      by_cases hc : n < 128
      · have c : ¬ ((127 : Int) < (n : Int)) := by omega
        have u : IntKind.u8.wrap (n : Int) = (n : Nat) := by rw [wrapU8] <;> omega
        have tk : (rowsOfStr (l ++ [UInt8.ofNat n])).take (l.length + 1) = rowsOfStr (l ++ [UInt8.ofNat n]) := List.take_of_length_le (by rw [rows_length]; simp)
        simp only [eval_must', eval_ask', eval_ret', if_true, decide_eq_true_eq, Bool.and_eq_true, c, if_false, rows_length, hr, and_self, u, row_append l n (by omega), tk, rows_bytes, str_rows, varBytes_one _ n hc]
      · have c : (127 : Int) < (n : Int) := by omega
        have d : ishr .i64 (n : Int) 7 = ((n / 128 : Nat) : Int) := ishr64_nat n 7 (by omega)
        have i1 : iand .i64 (n : Int) 127 = ((n % 128 : Nat) : Int) := by rw [iand127]; omega
        have e := ih (n / 128) m (l ++ [UInt8.ofNat (n % 128 + 128)]) (by rw [Nat.pow_succ] at h1; exact Nat.div_lt_of_lt_mul (by omega)) (by omega) (by simp; omega) (by omega) (by omega)
        rw [varBytes_more _ n hc]
        simp only [eval_must', eval_ask', eval_ret', if_true, decide_eq_true_eq, Bool.and_eq_true, c, rows_length, hr, and_self, d, i1, ior64_128, ior8_128, row_append l (n % 128 + 128) (by omega)]
        rw [List.length_append, List.append_assoc] at e
        exact e
theorem sVarText_E : EnvSound Try.prog E_sVarText := mkE_sound (by simp [sIn_sound])
theorem sVarText_sound : Sound Try.prog 167 (sg [pI] [rS]) varTextSpec := vBody_sound (depth := 0) sVarText_E Try.func167 (by kernel_rfl) fun cs outs hk h => by
  unfold varTextSpec at h
  split at h
  · simp only [Option.some.injEq, Prod.mk.injEq, true_and] at h
    rename_i n
    rw [← h, vBody_L, sVarText_tree]
    by_cases hn : inB n 0 1000000000 = true
    · have hn' := (in_iff _ _ _).1 hn
      obtain ⟨n, rfl⟩ := Int.eq_ofNat_of_zero_le hn'.1
      have lp := sVarText_loop 4 n 9223372036854775808 [] (by omega) (by omega) (by simp) (by omega) (by omega)
      simp only [eval_must', eval_ask', if_true, hn, varText, Int.toNat_natCast]
      exact lp
    · simp [eval_must', eval_ask', eval_ret', hn, varText]
  · cases h
theorem iVarText_loop : ∀ (f n m : Nat) (l : List UInt8), n < 128 ^ (f + 1) → n ≤ 1000000000 → l.length ≤ 100 - f → f ≤ 100 → f < m →
    (vLoop E_iVarText 0 (sg [pI] [rS]) Try.f117 [.r, .r, .r, .l, .b] m (H_iVarText n l.length (rowsOfStr l))).eval = some [.str (l ++ varBytes (f + 1) n)] := by
  intro f
  induction f with
  | zero =>
    intro n m l h1 hn h2 h3 h4
    cases m with
    | zero => omega
    | succ m =>
      rw [vLoop_L _ _ _ _ _ _ _ (by kernel_rfl), iVarText_round0]
      have c : ¬ ((128 : Int) ≤ (n : Int)) := by omega
      have hr : roomy (l.length + 1) 1 = true := by simp only [roomy, decide_eq_true_eq]; omega
      have u : IntKind.u8.wrap (n : Int) = (n : Nat) := by rw [wrapU8] <;> omega
      have tk : (rowsOfStr (l ++ [UInt8.ofNat n])).take (l.length + 1) = rowsOfStr (l ++ [UInt8.ofNat n]) := List.take_of_length_le (by rw [rows_length]; simp)
      simp only [eval_must', eval_ask', eval_ret', if_true, decide_eq_true_eq, Bool.and_eq_true, c, if_false, rows_length, hr, and_self, u, row_append l n (by omega), tk, rows_bytes, str_rows, varBytes_one 0 n (by omega)]
  | succ f ih =>
    intro n m l h1 hn h2 h3 h4
    cases m with
    | zero => omega
    | succ m =>
      rw [vLoop_L _ _ _ _ _ _ _ (by kernel_rfl), iVarText_round0]
      have hr : roomy (l.length + 1) 1 = true := by simp only [roomy, decide_eq_true_eq]; omega
      by_cases hc : n < 128
      · have c : ¬ ((128 : Int) ≤ (n : Int)) := by omega
        have u : IntKind.u8.wrap (n : Int) = (n : Nat) := by rw [wrapU8] <;> omega
        have tk : (rowsOfStr (l ++ [UInt8.ofNat n])).take (l.length + 1) = rowsOfStr (l ++ [UInt8.ofNat n]) := List.take_of_length_le (by rw [rows_length]; simp)
        simp only [eval_must', eval_ask', eval_ret', if_true, decide_eq_true_eq, Bool.and_eq_true, c, if_false, rows_length, hr, and_self, u, row_append l n (by omega), tk, rows_bytes, str_rows, varBytes_one _ n hc]
      · have c : (128 : Int) ≤ (n : Int) := by omega
        have d : ishr .i64 (n : Int) 7 = ((n / 128 : Nat) : Int) := ishr64_nat n 7 (by omega)
        have i1 : iand .i64 (n : Int) 127 = ((n % 128 : Nat) : Int) := by rw [iand127]; omega
        have e := ih (n / 128) m (l ++ [UInt8.ofNat (n % 128 + 128)]) (by rw [Nat.pow_succ] at h1; exact Nat.div_lt_of_lt_mul (by omega)) (by omega) (by simp; omega) (by omega) (by omega)
        rw [varBytes_more _ n hc]
        simp only [eval_must', eval_ask', eval_ret', if_true, decide_eq_true_eq, Bool.and_eq_true, c, rows_length, hr, and_self, d, i1, ior64_128, ior8_128, row_append l (n % 128 + 128) (by omega)]
        rw [List.length_append, List.append_assoc] at e
        exact e
theorem iVarText_E : EnvSound Try.prog E_iVarText := mkE_sound (by simp [iIsNumber_sound])
theorem iVarText_sound : Sound Try.prog 117 (sg [pI] [rS]) varTextSpec := vBody_sound (depth := 0) iVarText_E Try.func117 (by kernel_rfl) fun cs outs hk h => by
  unfold varTextSpec at h
  split at h
  · simp only [Option.some.injEq, Prod.mk.injEq, true_and] at h
    rename_i n
    rw [← h, vBody_L, iVarText_tree]
    by_cases hn : inB n 0 1000000000 = true
    · have hn' := (in_iff _ _ _).1 hn
      obtain ⟨n, rfl⟩ := Int.eq_ofNat_of_zero_le hn'.1
      have lp := iVarText_loop 4 n 9223372036854775808 [] (by omega) (by omega) (by simp) (by omega) (by omega)
      simp only [eval_must', eval_ask', if_true, hn, varText, Int.toNat_natCast]
      exact lp
    · simp [eval_must', eval_ask', eval_ret', hn, varText]
  · cases h

theorem sVarSize_E : EnvSound Try.prog E_sVarSize := mkE_sound (by simp [sVarText_sound])
theorem sVarSize_sound : Sound Try.prog 144 (sg [pI] [rI]) varSizeSpec := vBody_sound (depth := 0) sVarSize_E Try.func144 (by kernel_rfl) fun cs outs hk h => by
  unfold varSizeSpec at h
  split at h
  · simp only [Option.some.injEq, Prod.mk.injEq, true_and] at h
    rw [← h, vBody_L, sVarSize_tree]
    simp [eval_must', eval_ret']
  · cases h
theorem iVarSize_E : EnvSound Try.prog E_iVarSize := mkE_sound (by simp [iVarText_sound])
theorem iVarSize_sound : Sound Try.prog 145 (sg [pI] [rI]) varSizeSpec := vBody_sound (depth := 0) iVarSize_E Try.func145 (by kernel_rfl) fun cs outs hk h => by
  unfold varSizeSpec at h
  split at h
  · simp only [Option.some.injEq, Prod.mk.injEq, true_and] at h
    rw [← h, vBody_L, iVarSize_tree]
    simp [eval_must', eval_ret']
  · cases h

/-- the value of bytes that go on, and of what is behind them -/
def valC : List UInt8 → Nat → Nat
  | [], x => x
  | c :: cs, x => (c.toNat - 128) + 128 * valC cs x
def rvOut : Option (Nat × Nat) → List C
  | some p => [.int .i64 p.1, .int .i64 p.2, .bool true]
  | none => [.int .i64 0, .int .i64 0, .bool false]
theorem valC_lin : ∀ (cs : List UInt8) (x : Nat), valC cs x = valC cs 0 + x * 128 ^ cs.length
  | [], x => by simp [valC]
  | c :: cs, x => by
    have := valC_lin cs x
    simp only [valC, List.length_cons, Nat.pow_succ, this]
    rw [Nat.mul_add, ← Nat.add_assoc, Nat.mul_left_comm, Nat.mul_comm 128 (128 ^ cs.length)]
theorem valC_snoc : ∀ (cs : List UInt8) (c : UInt8) (x : Nat), valC (cs ++ [c]) x = valC cs (c.toNat - 128 + 128 * x)
  | [], c, x => by simp [valC]
  | d :: cs, c, x => by simp only [List.cons_append, valC, valC_snoc cs c x]
theorem valC_lt : ∀ (cs : List UInt8), valC cs 0 < 128 ^ cs.length
  | [] => by simp [valC]
  | c :: cs => by
    have := valC_lt cs
    have hc := c.toNat_lt
    simp only [valC, List.length_cons, Nat.pow_succ]
    omega
theorem varBytes_valC : ∀ (cs : List UInt8) (x f : Nat), (∀ c, c ∈ cs → 128 ≤ c.toNat) → x < 128 → (cs = [] ∨ 0 < x) → cs.length < f → varBytes f (valC cs x) = cs ++ [UInt8.ofNat x]
  | [], x, f, _, hx, _, hf => by
    obtain ⟨g, rfl⟩ : ∃ g, f = g + 1 := ⟨f - 1, by simp at hf; omega⟩
    exact varBytes_one g x hx
  | c :: cs, x, f, hc, hx, h0, hf => by
    obtain ⟨g, rfl⟩ : ∃ g, f = g + 1 := ⟨f - 1, by simp at hf; omega⟩
    have hx0 : 0 < x := by rcases h0 with h | h; cases h; exact h
    have c1 := hc c List.mem_cons_self
    have c2 := c.toNat_lt
    have hv : 0 < valC cs x := by
      rw [valC_lin]
      have : 0 < 128 ^ cs.length := Nat.pow_pos (by omega)
      have : 0 < x * 128 ^ cs.length := Nat.mul_pos hx0 this
      omega
    have e1 : ((c.toNat - 128) + 128 * valC cs x) % 128 + 128 = c.toNat := by omega
    have e2 : ((c.toNat - 128) + 128 * valC cs x) / 128 = valC cs x := by omega
    simp only [valC]
    rw [varBytes_more g _ (by omega), e1, e2, varBytes_valC cs x g (fun d hd => hc d (List.mem_cons_of_mem _ hd)) hx (.inr hx0) (by simp at hf; omega)]
    simp
theorem varBytes_ne0 : ∀ (f n : Nat) (l : List UInt8), 1 ≤ n → varBytes f n ≠ l ++ [0]
  | 0, n, l, _ => by simp [varBytes]
  | f + 1, n, l, hn => by
    by_cases h : n < 128
    · rw [varBytes_one f n h]
      intro e
      cases l with
      | nil =>
        simp at e
        have := congrArg UInt8.toNat e
        rw [UInt8.toNat_ofNat_of_lt' (by show n < 256; omega)] at this
        have h0 : (0 : UInt8).toNat = 0 := rfl
        omega
      | cons a l => simp at e
    · rw [varBytes_more f n h]
      intro e
      cases l with
      | nil =>
        rw [List.nil_append, List.cons.injEq] at e
        have h1 := congrArg UInt8.toNat e.1
        rw [UInt8.toNat_ofNat_of_lt' (by show n % 128 + 128 < 256; omega)] at h1
        have h0 : (0 : UInt8).toNat = 0 := rfl
        omega
      | cons a l =>
        simp at e
        exact varBytes_ne0 f (n / 128) l (by omega) e.2
theorem rv_outs (b : List UInt8) (a : Int) : [C.int .i64 (rvN b a), C.int .i64 (rvEnd b a), C.bool (rvOk b a)] = rvOut (readVar b a) := by
  unfold rvN rvEnd rvOk
  cases readVar b a with
  | none => rfl
  | some p => rfl
theorem ior_var (n x i : Nat) (hn : n < 128 ^ i) (hx : x < 256) (hi : i < 5) : ior .i64 (n : Int) (ishl .i64 (iand .i64 (x : Int) 127) ((7 * i : Nat) : Int)) = ((n + x % 128 * 128 ^ i : Nat) : Int) := by
  have hp : (2 : Nat) ^ (7 * i) = 128 ^ i := by rw [Nat.pow_mul]
  have hq : 128 ^ i ≤ 128 ^ 4 := Nat.pow_le_pow_right (by omega) (by omega)
  have hm := ishl64_mod (iand .i64 (x : Int) 127) (7 * i) (by omega)
  have i1 : iand .i64 (x : Int) 127 = ((x % 128 : Nat) : Int) := by rw [iand127]; omega
  have hmul : x % 128 * 128 ^ i ≤ 127 * 128 ^ i := Nat.mul_le_mul_right _ (by omega)
  rw [i1] at hm ⊢
  have hp2 : ((x % 128 : Nat) : Int) * 2 ^ (7 * i) = ((x % 128 * 128 ^ i : Nat) : Int) := by rw [← hp]; simp
  rw [hp2] at hm
  have := ior_shift n (x % 128) (7 * i) (by rw [hp]; exact hn) (by rw [hp]; omega) (n : Int) (ishl .i64 ((x % 128 : Nat) : Int) ((7 * i : Nat) : Int)) (by omega) (by rw [hm, hp]; omega)
  rw [this, hp, wrap64 (by omega) (by omega)]
theorem iReadVar_loop (b : List UInt8) (a : Nat) (hb : b.length ≤ 281474976710656) (ha : a ≤ 9223372036854775807) : ∀ (m i n : Nat), i ≤ 5 → 5 < i + m → n < 128 ^ i →
    (vLoop E_iReadVar 0 (sg [pS, pI] [rI, rI, rB]) Try.f121 [.r, .r, .l, .r, .b] m (H_iReadVar b a n i)).eval = some (rvOut (rvGo b a (5 - i) i n)) := by
  intro m
  induction m with
  | zero => intro i n h1 h2 h3; omega
  | succ m ih =>
    intro i n h1 h2 h3
    rw [vLoop_L _ _ _ _ _ _ _ (by kernel_rfl), iReadVar_round0]
    by_cases hi : i < 5
    · have hs : 5 - i = (5 - (i + 1)) + 1 := by omega
      have w1 : IntKind.i64.wrap (IntKind.i64.wrap ((b.length : Int) - 1) - i) = (b.length : Int) - 1 - i := by
        rw [wrap64 (x := (b.length : Int) - 1) (by omega) (by omega), wrap64 (by omega) (by omega)]
      have w2 : IntKind.i64.wrap ((i : Int) + 1) = ((i + 1 : Nat) : Int) := by rw [wrap64] <;> omega
      have hi' : (i : Int) < 5 := by omega
      rw [hs]
      simp only [rvGo]
      by_cases hl : a + i < b.length
      · have hin : inB (a : Int) 0 ((b.length : Int) - 1 - i) = true := (in_iff _ _ _).2 ⟨by omega, by omega⟩
        have w3 : IntKind.i64.wrap ((a : Int) + i) = ((a + i : Nat) : Int) := by rw [wrap64] <;> omega
        have w4 : IntKind.i64.wrap (7 * (i : Int)) = ((7 * i : Nat) : Int) := by rw [wrap64] <;> omega
        have z1 : (0 : Int) ≤ ((a + i : Nat) : Int) := by omega
        have z2 : (0 : Int) ≤ ((7 * i : Nat) : Int) := by omega
        have hx := byte_lt b (a + i)
        have w5 : IntKind.i64.wrap ((b.getD (a + i) 0).toNat : Int) = ((b.getD (a + i) 0).toNat : Int) := by rw [wrap64] <;> omega
        have w6 : IntKind.i64.wrap (((a + i : Nat) : Int) + 1) = ((a + i + 1 : Nat) : Int) := by rw [wrap64] <;> omega
        have ho := ior_var n _ i h3 hx hi
        simp only [eval_must', eval_ask', eval_ret', if_true, decide_eq_true_eq, Bool.and_eq_true, hi', w1, w2, w3, w4, w5, w6, hin, z1, z2, hl, Int.toNat_natCast, Int.ofNat_lt, and_self, ho]
        generalize (b.getD (a + i) 0).toNat = x at *
        have hpow : (0 : Nat) < 128 ^ i := Nat.pow_pos (by omega)
        by_cases hc : 128 ≤ x
        · have hm : x % 128 = x - 128 := by omega
          have e := ih (i + 1) (n + (x - 128) * 128 ^ i) (by omega) (by omega) (by
            have : (x - 128) * 128 ^ i ≤ 127 * 128 ^ i := Nat.mul_le_mul_right _ (by omega)
            rw [Nat.pow_succ]; omega)
          rw [if_pos (show (128 : Int) ≤ (x : Int) by omega), if_neg (show ¬ x < 128 by omega), hm]
          exact e
        · have hm : x % 128 = x := by omega
          rw [if_neg (show ¬ (128 : Int) ≤ (x : Int) by omega), if_pos (show x < 128 by omega), hm]
          by_cases h0 : 0 < i ∧ x = 0
          · have hip : ((0 : Int) < i) = True := eq_true (by omega)
            have hx0 : ((x : Int) = 0) = True := eq_true (by omega)
            simp only [hip, hx0, if_true]
            rw [if_pos (c := (i > 0 ∧ x = 0 ∨ _)) (.inl ⟨h0.1, h0.2⟩)]
            rfl
          · have hinn : inB ((n + x * 128 ^ i : Nat) : Int) 0 1000000000 = true ↔ ¬ 1000000000 < n + x * 128 ^ i := by rw [in_iff]; omega
            have fin : (if inB ((n + x * 128 ^ i : Nat) : Int) 0 1000000000 = true then some [C.int .i64 ((n + x * 128 ^ i : Nat) : Int), C.int .i64 ((a + i + 1 : Nat) : Int), C.bool true] else some [C.int .i64 0, C.int .i64 0, C.bool false]) = some (rvOut (if i > 0 ∧ x = 0 ∨ 1000000000 < n + x * 128 ^ i then none else some (n + x * 128 ^ i, a + i + 1))) := by
              by_cases hg : 1000000000 < n + x * 128 ^ i
              · rw [if_neg (fun h => (hinn.1 h) hg), if_pos (.inr hg)]; rfl
              · rw [if_pos (hinn.2 hg), if_neg (by omega)]; rfl
            by_cases hip : (0 : Int) < i
            · have hx0 : ¬ ((x : Int) = 0) := by omega
              rw [if_pos hip, if_neg hx0]
              exact fin
            · rw [if_neg hip]
              exact fin
      · have hin : ¬ (inB (a : Int) 0 ((b.length : Int) - 1 - i) = true) := fun h => by have := (in_iff _ _ _).1 h; omega
        simp only [eval_must', eval_ask', eval_ret', if_true, decide_eq_true_eq, hi', w1, hin, hl, if_false]
        rfl
    · have : i = 5 := by omega
      subst this
      simp [eval_must', eval_ask', eval_ret', rvGo, rvOut]
theorem iReadVar_E : EnvSound Try.prog E_iReadVar := mkE_sound (by simp [iIn_sound, iIsNumber_sound])
theorem iReadVar_sound : Sound Try.prog 121 (sg [pS, pI] [rI, rI, rB]) readVarSpec := vBody_sound (depth := 0) iReadVar_E Try.func121 (by kernel_rfl) fun cs outs hk h => by
  unfold readVarSpec at h
  split at h
  · simp only [Option.some.injEq, Prod.mk.injEq, Bool.and_eq_true, decide_eq_true_eq] at h
    obtain ⟨⟨h1, h2, h3⟩, rfl⟩ := h
    rename_i b a
    rw [vBody_L, iReadVar_tree, rv_outs]
    simp only [eval_must', if_true]
    by_cases ha : 0 ≤ a
    · obtain ⟨a, rfl⟩ := Int.eq_ofNat_of_zero_le ha
      have := iReadVar_loop b a h1 (by omega) 9223372036854775808 0 0 (by omega) (by omega) (by omega)
      simp only [readVar, ha, if_true, Int.toNat_natCast]
      exact this
    · rw [vLoop_L _ _ _ _ _ 9223372036854775807 _ (by kernel_rfl), iReadVar_round0]
      have hin : ¬ (inB a 0 (IntKind.i64.wrap (IntKind.i64.wrap ((b.length : Int) - 1) - 0)) = true) := fun h => by have := (in_iff _ _ _).1 h; omega
      simp only [eval_must', eval_ask', eval_ret', if_true, hin, readVar, ha, if_false, decide_eq_true_eq]
      rfl
  · cases h
theorem sReadVar_loop (b : List UInt8) (a : Nat) (hb : b.length ≤ 281474976710656) (ha : a ≤ b.length) : ∀ (m i : Nat), i ≤ 5 → 5 < i + m → a + i ≤ b.length → (∀ c, c ∈ (b.drop a).take i → 128 ≤ c.toNat) →
    (vLoop E_sReadVar 0 (sg [pS, pI] [rI, rI, rB]) Try.f178 [.r, .r, .r, .l, .r, .b] m (H_sReadVar b a (valC ((b.drop a).take i) 0 : Nat) i)).eval = some (rvOut (rvGo b a (5 - i) i (valC ((b.drop a).take i) 0))) := by
  intro m
  induction m with
  | zero => intro i h1 h2 h3 h4; omega
  | succ m ih =>
    intro i h1 h2 h3 h4
    rw [vLoop_L _ _ _ _ _ _ _ (by kernel_rfl), sReadVar_round0]
    by_cases hi : i < 5
    · have hs : 5 - i = (5 - (i + 1)) + 1 := by omega
      have w2 : IntKind.i64.wrap ((i : Int) + 1) = ((i + 1 : Nat) : Int) := by rw [wrap64] <;> omega
      have w3 : IntKind.i64.wrap ((a : Int) + i) = ((a + i : Nat) : Int) := by rw [wrap64] <;> omega
      have hi' : (i : Int) < 5 := by omega
      have hlen : ((b.drop a).take i).length = i := by simp; omega
      rw [hs]
      simp only [rvGo]
      by_cases hl : a + i < b.length
      · have w4 : IntKind.i64.wrap (7 * (i : Int)) = ((7 * i : Nat) : Int) := by rw [wrap64] <;> omega
        have w4u : IntKind.u64.wrap ((7 * i : Nat) : Int) = ((7 * i : Nat) : Int) := by rw [wrapU64] <;> omega
        have z1 : (0 : Int) ≤ ((a + i : Nat) : Int) := by omega
        have z2 : (0 : Int) ≤ ((7 * i : Nat) : Int) := by omega
        have hx := byte_lt b (a + i)
        have w5 : IntKind.i64.wrap ((b.getD (a + i) 0).toNat : Int) = ((b.getD (a + i) 0).toNat : Int) := by rw [wrap64] <;> omega
        have w6 : IntKind.i64.wrap (((a + i : Nat) : Int) + 1) = ((a + i + 1 : Nat) : Int) := by rw [wrap64] <;> omega
        have hlt := valC_lt ((b.drop a).take i)
        rw [hlen] at hlt
        have ho := ior_var _ _ i hlt hx hi
        have ee : (b.drop a).take (i + 1) = (b.drop a).take i ++ [b.getD (a + i) 0] := by
          rw [List.take_add_one]
          simp [List.getElem?_drop, List.getD_eq_getElem?_getD, hl]
        have ed : (b.take (a + i + 1)).drop a = (b.drop a).take i ++ [b.getD (a + i) 0] := by
          rw [← ee, List.take_drop]
          first | rfl | (congr 2; omega)
        have z3 : ((a + i + 1 : Nat) : Int) ≤ (b.length : Int) := by omega
        have z4 : (0 : Int) ≤ ((a + i + 1 : Nat) : Int) := by omega
        have z5 : (a : Int) ≤ ((a + i + 1 : Nat) : Int) := by omega
        have z6 : (0 : Int) ≤ (a : Int) := by omega
        have hl' : ((a + i : Nat) : Int) < (b.length : Int) := by omega
        simp only [eval_must', eval_ask', eval_ret', if_true, decide_eq_true_eq, Bool.and_eq_true, hi', w2, w3, w4, w4u, w5, w6, z1, z2, z3, z4, z5, z6, hl, hl', Int.toNat_natCast, and_self, ho, ed]
        by_cases hc : (b.getD (a + i) 0).toNat < 128
        · have hm : (b.getD (a + i) 0).toNat % 128 = (b.getD (a + i) 0).toNat := by omega
          have hlin := valC_lin ((b.drop a).take i) (b.getD (a + i) 0).toNat
          rw [hlen] at hlin
          rw [if_pos (by omega), if_pos hc, hm, ← hlin]
          have hvb := varBytes_valC ((b.drop a).take i) (b.getD (a + i) 0).toNat 5 h4 hc
          have hof : UInt8.ofNat (b.getD (a + i) 0).toNat = b.getD (a + i) 0 := by simp
          rw [hof, hlen] at hvb
          by_cases hg : 1000000000 < valC ((b.drop a).take i) (b.getD (a + i) 0).toNat
          · have hvt : varText ((valC ((b.drop a).take i) (b.getD (a + i) 0).toNat : Nat) : Int) = [] := by
              unfold varText; rw [if_neg]; intro h; have := (in_iff _ _ _).1 h; omega
            rw [hvt, if_pos (by rfl), if_pos (.inr hg)]
            rfl
          · have hvt : varText ((valC ((b.drop a).take i) (b.getD (a + i) 0).toNat : Nat) : Int) = varBytes 5 (valC ((b.drop a).take i) (b.getD (a + i) 0).toNat) := by
              unfold varText; rw [if_pos ((in_iff _ _ _).2 ⟨by omega, by omega⟩), Int.toNat_natCast]
            rw [hvt]
            by_cases h0 : 0 < i ∧ (b.getD (a + i) 0).toNat = 0
            · rw [if_pos (c := (i > 0 ∧ (b.getD (a + i) 0).toNat = 0 ∨ _)) (.inl ⟨h0.1, h0.2⟩)]
              have hb0 : b.getD (a + i) 0 = 0 := by have := h0.2; exact UInt8.toNat_inj.1 (by simpa using this)
              have hne : varBytes 5 (valC ((b.drop a).take i) (b.getD (a + i) 0).toNat) ≠ (b.drop a).take i ++ [b.getD (a + i) 0] := by
                rw [hb0]
                by_cases hv : 1 ≤ valC ((b.drop a).take i) (0 : UInt8).toNat
                · exact varBytes_ne0 5 _ _ hv
                · have : valC ((b.drop a).take i) (0 : UInt8).toNat = 0 := by omega
                  rw [this]
                  intro e
                  have := congrArg List.length e
                  rw [varBytes_one 4 0 (by omega)] at this
                  simp at this
                  omega
              have hb1 : (varBytes 5 (valC ((b.drop a).take i) (b.getD (a + i) 0).toNat) == (b.drop a).take i ++ [b.getD (a + i) 0]) = false := by simpa using hne
              rw [hb1]
              split <;> rfl
            · have hvb2 := hvb (by
                by_cases h : i = 0
                · left; exact List.length_eq_zero_iff.1 (by rw [hlen]; exact h)
                · right; omega) (by omega)
              rw [hvb2]
              have hnil : ((b.drop a).take i ++ [b.getD (a + i) 0] == ([] : List UInt8)) = false := by
                rw [beq_eq_false_iff_ne]; simp
              have hcond : ¬ (i > 0 ∧ (b.getD (a + i) 0).toNat = 0 ∨ 1000000000 < valC ((b.drop a).take i) (b.getD (a + i) 0).toNat) := by omega
              rw [hnil, if_neg hcond]
              simp [rvOut]
        · have hm : (b.getD (a + i) 0).toNat % 128 = (b.getD (a + i) 0).toNat - 128 := by omega
          have hsn := valC_snoc ((b.drop a).take i) (b.getD (a + i) 0) 0
          rw [Nat.mul_zero, Nat.add_zero, valC_lin ((b.drop a).take i) ((b.getD (a + i) 0).toNat - 128), hlen] at hsn
          have e := ih (i + 1) (by omega) (by omega) (by omega) (by
            rw [ee]
            intro c hcm
            rcases List.mem_append.1 hcm with h | h
            · exact h4 c h
            · have : c = b.getD (a + i) 0 := by simpa using h
              rw [this]; omega)
          rw [ee, hsn] at e
          rw [if_neg (by omega), if_neg hc, hm]
          exact e
      · have hl' : ¬ (((a + i : Nat) : Int) < (b.length : Int)) := by omega
        simp only [eval_must', eval_ask', eval_ret', if_true, decide_eq_true_eq, hi', w3, hl', hl, if_false]
        rfl
    · have : i = 5 := by omega
      subst this
      simp [eval_must', eval_ask', eval_ret', rvGo, rvOut]
theorem sReadVar_E : EnvSound Try.prog E_sReadVar := mkE_sound (by simp [sIn_sound, sVarText_sound])
theorem sReadVar_sound : Sound Try.prog 178 (sg [pS, pI] [rI, rI, rB]) readVarSpec := vBody_sound (depth := 0) sReadVar_E Try.func178 (by kernel_rfl) fun cs outs hk h => by
  unfold readVarSpec at h
  split at h
  · simp only [Option.some.injEq, Prod.mk.injEq, Bool.and_eq_true, decide_eq_true_eq] at h
    obtain ⟨⟨h1, h2, h3⟩, rfl⟩ := h
    rename_i b a
    rw [vBody_L, sReadVar_tree, rv_outs]
    by_cases hin : inB a 0 (b.length : Int) = true
    · have ha := (in_iff _ _ _).1 hin
      obtain ⟨a, rfl⟩ := Int.eq_ofNat_of_zero_le ha.1
      have := sReadVar_loop b a h1 (by omega) 9223372036854775808 0 (by omega) (by omega) (by omega) (by simp)
      simp only [eval_must', eval_ask', if_true, hin, readVar, ha.1, Int.toNat_natCast]
      exact this
    · simp only [eval_must', eval_ask', eval_ret', if_true, hin, readVar]
      by_cases ha : 0 ≤ a
      · have : ¬ (a.toNat + 0 < b.length) := fun h => hin ((in_iff _ _ _).2 ⟨ha, by omega⟩)
        simp only [ha, if_true, rvGo, this, if_false]
        rfl
      · simp only [ha, if_false]
        rfl
  · cases h

end Go.Proofs.Ythpamcbipmkimaa.V

namespace Go.Proofs.Ythpamcbipmkimaa.V
noncomputable section

/-- does a text stand there? -/
def hasAt (b : List UInt8) (at' : Int) (t : List UInt8) : Bool := decide (0 ≤ at' ∧ at' ≤ b.length ∧ (b.drop at'.toNat).take t.length = t)
def prefixOf (b t : List UInt8) : Bool := decide (b.take t.length = t)
def prefixSpec : Spec := fun cs => match cs with
  | [.str b, .str t] => some (true, [.bool (prefixOf b t)])
  | _ => none
def hasAtSpec : Spec := fun cs => match cs with
  | [.str b, .int .i64 a, .str t] => some (true, [.bool (hasAt b a t)])
  | _ => none
def E_slHasPrefix : Env := mkE [] []
def E_sHasPrefix : Env := mkE [] [(173, (sg [pS, pS] [rB]), prefixSpec)]
def E_iHasAt : Env := mkE [] [(95, (sg [pI, pI, pI] [rB]), inSpec), (154, (sg [pS, pS] [rB]), prefixSpec)]

def sizedOf (place n : Int) : List UInt8 := fixOf n 4 ++ fixOf (crcMore 0 (fixOf place 8 ++ fixOf n 4) : Nat) 4
def frameText (v place : Int) (r : List UInt8) : List UInt8 :=
  if inB v 1 2 && inB place 0 1000000000 && decide (r.length ≤ 60) then (if v = 2 then sizedOf place r.length else varText r.length) ++ r ++ fixOf (crcMore 0 r : Nat) 4 else []
def endMark (v place : Int) : List UInt8 :=
  if inB v 1 2 && inB place 0 1000000000 then (if v = 1 then [255, 255, 255, 255, 15] else sizedOf place 4294967295) else []
def markAt (v place : Int) (b : List UInt8) (a : Int) : Bool := decide (endMark v place ≠ []) && hasAt b a (endMark v place)
def sizedSpec : Spec := fun cs => match cs with
  | [.int .i64 p, .int .i64 n] => some (decide (-9223372036854775808 ≤ p) && decide (p ≤ 9223372036854775807) && (decide (-9223372036854775808 ≤ n) && decide (n ≤ 9223372036854775807)), [.str (sizedOf p n)])
  | _ => none
def frameSpec : Spec := fun cs => match cs with
  | [.int .i64 v, .int .i64 p, .str r] => some (decide (r.length ≤ 281474976710656), [.str (frameText v p r)])
  | _ => none
def endMarkSpec : Spec := fun cs => match cs with
  | [.int .i64 v, .int .i64 p] => some (true, [.str (endMark v p)])
  | _ => none
def markAtSpec : Spec := fun cs => match cs with
  | [.int .i64 v, .int .i64 p, .str b, .int .i64 a] => some (decide (b.length ≤ 281474976710656), [.bool (markAt v p b a)])
  | _ => none
def E_iSized : Env := mkE [] [(119, (sg [pS] [rI]), sumOfSpec), (118, (sg [pI, pI] [rS]), fixSpec)]
def E_sFrameText : Env := mkE [] [(93, (sg [pI, pI, pI] [rB]), inSpec), (124, (sg [pS] [rI]), sumOfSpec), (123, (sg [pI, pI] [rS]), fixSpec), (167, (sg [pI] [rS]), varTextSpec)]
def E_iFrameText : Env := mkE [] [(113, (sg [pI] [rB]), isVersionSpec), (119, (sg [pS] [rI]), sumOfSpec), (114, (sg [pI] [rB]), isNumberSpec), (118, (sg [pI, pI] [rS]), fixSpec), (117, (sg [pI] [rS]), varTextSpec), (115, (sg [pI, pI] [rS]), sizedSpec)]
def E_sEndMark : Env := mkE [] [(93, (sg [pI, pI, pI] [rB]), inSpec), (124, (sg [pS] [rI]), sumOfSpec), (123, (sg [pI, pI] [rS]), fixSpec)]
def E_iEndMark : Env := mkE [] [(113, (sg [pI] [rB]), isVersionSpec), (114, (sg [pI] [rB]), isNumberSpec), (115, (sg [pI, pI] [rS]), sizedSpec)]
def E_sMarkAt : Env := mkE [] [(93, (sg [pI, pI, pI] [rB]), inSpec), (169, (sg [pI, pI] [rS]), endMarkSpec)]
def E_iMarkAt : Env := mkE [] [(116, (sg [pS, pI, pS] [rB]), hasAtSpec), (58, (sg [pI, pI] [rS]), endMarkSpec)]

end
end Go.Proofs.Ythpamcbipmkimaa.V

namespace Go.Proofs.Ythpamcbipmkimaa.V
set_option maxRecDepth 100000
theorem slHasPrefix_tree (H : List Pt → Nat → St → T (List C)) (b : List UInt8) (t : List UInt8) : vBodyL E_slHasPrefix (0 : Nat) (sg [pS, pS] [rB]) Try.f173 H [C.str b, C.str t] =
 (.must true
 (.ask (decide ((↑t.length : Int) ≤ (↑b.length : Int)))
  (.must (decide ((0 : Int) ≤ (↑t.length : Int)) && decide ((↑t.length : Int) ≤ (↑b.length : Int)))
   (.ask (List.drop (0 : Nat) (List.take (↑t.length : Int).toNat b) == t)
    (.must true
     (.ret [C.bool true]))
    (.must true
     (.ret [C.bool false]))))
  (.must true
   (.ret [C.bool false])))) := by kernel_rfl
theorem sHasPrefix_tree (H : List Pt → Nat → St → T (List C)) (b : List UInt8) (t : List UInt8) : vBodyL E_sHasPrefix (0 : Nat) (sg [pS, pS] [rB]) Try.f154 H [C.str b, C.str t] =
 (.must true
 (.must true
  (.must true
   (.must true
    (.ask (prefixOf b t)
     (.must true
      (.ret [C.bool true]))
     (.must true
      (.ret [C.bool false]))))))) := by kernel_rfl
theorem iHasAt_tree (H : List Pt → Nat → St → T (List C)) (b : List UInt8) (a : Int) (t : List UInt8) : vBodyL E_iHasAt (0 : Nat) (sg [pS, pI, pS] [rB]) Try.f116 H [C.str b, C.int IntKind.i64 a, C.str t] =
 (.must true
 (.must true
  (.must true
   (.must true
    (.ask (inB a (0 : Int) (↑b.length : Int))
     (.must (decide ((0 : Int) ≤ a) && decide (a ≤ (↑b.length : Int)))
      (.must true
       (.must true
        (.must true
         (.ask (prefixOf (List.drop a.toNat (List.take b.length b)) t)
          (.must true
           (.ret [C.bool true]))
          (.must true
           (.ret [C.bool false])))))))
     (.must true
      (.ret [C.bool false]))))))) := by kernel_rfl
theorem iSized_tree (H : List Pt → Nat → St → T (List C)) (p : Int) (n : Int) : vBodyL E_iSized (0 : Nat) (sg [pI, pI] [rS]) Try.f115 H [C.int IntKind.i64 p, C.int IntKind.i64 n] =
 (.must true
 (.must true
  (.must (decide ((-9223372036854775808 : Int) ≤ n) && decide (n ≤ (9223372036854775807 : Int)))
   (.must true
    (.must true
     (.must (decide ((-9223372036854775808 : Int) ≤ p) && decide (p ≤ (9223372036854775807 : Int)))
      (.must true
       (.must (decide ((fixOf p (8 : Int)).length + (fixOf n (4 : Int)).length ≤ (9223372036854775807 : Nat)))
        (.must true
         (.must (decide ((fixOf p (8 : Int) ++ fixOf n (4 : Int)).length ≤ (281474976710656 : Nat)))
          (.must true
           (.must true
            (.must (decide ((-9223372036854775808 : Int) ≤ Int.ofNat (crcMore (0 : Nat) (fixOf p (8 : Int) ++ fixOf n (4 : Int)))) &&
  decide (Int.ofNat (crcMore (0 : Nat) (fixOf p (8 : Int) ++ fixOf n (4 : Int))) ≤ (9223372036854775807 : Int)))
             (.must true
              (.must (decide
  ((fixOf n (4 : Int)).length +
      (fixOf (Int.ofNat (crcMore (0 : Nat) (fixOf p (8 : Int) ++ fixOf n (4 : Int)))) (4 : Int)).length ≤
    (9223372036854775807 : Nat)))
               (.must true
                (.ret [C.str (fixOf n (4 : Int) ++ fixOf (Int.ofNat (crcMore (0 : Nat) (fixOf p (8 : Int) ++ fixOf n (4 : Int)))) (4 : Int))]))))))))))))))))) := by kernel_rfl
theorem sFrameText_tree (H : List Pt → Nat → St → T (List C)) (v : Int) (p : Int) (r : List UInt8) : vBodyL E_sFrameText (0 : Nat) (sg [pI, pI, pS] [rS]) Try.f147 H [C.int IntKind.i64 v, C.int IntKind.i64 p, C.str r] =
 (.must true
 (.must true
  (.must true
   (.must true
    (.ask (inB v (1 : Int) (2 : Int))
     (.must true
      (.must true
       (.must true
        (.ask (inB p (0 : Int) (1000000000 : Int))
         (.ask (decide ((60 : Int) < (↑r.length : Int)))
          (.must true
           (.ret [C.str []]))
          (.must true
           (.must (decide (r.length ≤ (281474976710656 : Nat)))
            (.must true
             (.must true
              (.must (decide ((-9223372036854775808 : Int) ≤ Int.ofNat (crcMore (0 : Nat) r)) &&
  decide (Int.ofNat (crcMore (0 : Nat) r) ≤ (9223372036854775807 : Int)))
               (.must true
                (.ask (decide (v = (1 : Int)))
                 (.must true
                  (.must true
                   (.must true
                    (.must (decide ((varText (↑r.length : Int)).length + r.length ≤ (9223372036854775807 : Nat)))
                     (.must (decide
  ((varText (↑r.length : Int) ++ r).length + (fixOf (Int.ofNat (crcMore (0 : Nat) r)) (4 : Int)).length ≤
    (9223372036854775807 : Nat)))
                      (.must true
                       (.ret [C.str (varText (↑r.length : Int) ++ r ++ fixOf (Int.ofNat (crcMore (0 : Nat) r)) (4 : Int))])))))))
                 (.must true
                  (.must (decide ((-9223372036854775808 : Int) ≤ (↑r.length : Int)) && decide ((↑r.length : Int) ≤ (9223372036854775807 : Int)))
                   (.must true
                    (.must true
                     (.must (decide ((-9223372036854775808 : Int) ≤ p) && decide (p ≤ (9223372036854775807 : Int)))
                      (.must true
                       (.must (decide ((fixOf p (8 : Int)).length + (fixOf (↑r.length : Int) (4 : Int)).length ≤ (9223372036854775807 : Nat)))
                        (.must true
                         (.must (decide ((fixOf p (8 : Int) ++ fixOf (↑r.length : Int) (4 : Int)).length ≤ (281474976710656 : Nat)))
                          (.must true
                           (.must true
                            (.must (decide
    ((-9223372036854775808 : Int) ≤
      Int.ofNat (crcMore (0 : Nat) (fixOf p (8 : Int) ++ fixOf (↑r.length : Int) (4 : Int)))) &&
  decide
    (Int.ofNat (crcMore (0 : Nat) (fixOf p (8 : Int) ++ fixOf (↑r.length : Int) (4 : Int))) ≤
      (9223372036854775807 : Int)))
                             (.must true
                              (.must (decide
  ((fixOf (↑r.length : Int) (4 : Int)).length +
      (fixOf (Int.ofNat (crcMore (0 : Nat) (fixOf p (8 : Int) ++ fixOf (↑r.length : Int) (4 : Int))))
          (4 : Int)).length ≤
    (9223372036854775807 : Nat)))
                               (.must (decide
  ((fixOf (↑r.length : Int) (4 : Int) ++
          fixOf (Int.ofNat (crcMore (0 : Nat) (fixOf p (8 : Int) ++ fixOf (↑r.length : Int) (4 : Int))))
            (4 : Int)).length +
      r.length ≤
    (9223372036854775807 : Nat)))
                                (.must (decide
  ((fixOf (↑r.length : Int) (4 : Int) ++
            fixOf (Int.ofNat (crcMore (0 : Nat) (fixOf p (8 : Int) ++ fixOf (↑r.length : Int) (4 : Int)))) (4 : Int) ++
          r).length +
      (fixOf (Int.ofNat (crcMore (0 : Nat) r)) (4 : Int)).length ≤
    (9223372036854775807 : Nat)))
                                 (.must true
                                  (.ret [C.str
    (fixOf (↑r.length : Int) (4 : Int) ++
          fixOf (Int.ofNat (crcMore (0 : Nat) (fixOf p (8 : Int) ++ fixOf (↑r.length : Int) (4 : Int)))) (4 : Int) ++
        r ++
      fixOf (Int.ofNat (crcMore (0 : Nat) r)) (4 : Int))]))))))))))))))))))))))))))
         (.must true
          (.ret [C.str []]))))))
     (.must true
      (.ret [C.str []]))))))) := by kernel_rfl
theorem iFrameText_tree (H : List Pt → Nat → St → T (List C)) (v : Int) (p : Int) (r : List UInt8) : vBodyL E_iFrameText (0 : Nat) (sg [pI, pI, pS] [rS]) Try.f60 H [C.int IntKind.i64 v, C.int IntKind.i64 p, C.str r] =
 (.must true
 (.must true
  (.must true
   (.must true
    (.ask (inB v (1 : Int) (2 : Int))
     (.must true
      (.must true
       (.must true
        (.ask (inB p (0 : Int) (1000000000 : Int))
         (.ask (decide ((60 : Int) < (↑r.length : Int)))
          (.must true
           (.ret [C.str []]))
          (.must true
           (.must true
            (.must true
             (.ask (decide (v = (2 : Int)))
              (.must true
               (.must (decide ((-9223372036854775808 : Int) ≤ p) && decide (p ≤ (9223372036854775807 : Int)) &&
  (decide ((-9223372036854775808 : Int) ≤ (↑r.length : Int)) &&
    decide ((↑r.length : Int) ≤ (9223372036854775807 : Int))))
                (.must true
                 (.must (decide ((sizedOf p (↑r.length : Int)).length + r.length ≤ (9223372036854775807 : Nat)))
                  (.must true
                   (.must (decide (r.length ≤ (281474976710656 : Nat)))
                    (.must true
                     (.must true
                      (.must (decide ((-9223372036854775808 : Int) ≤ Int.ofNat (crcMore (0 : Nat) r)) &&
  decide (Int.ofNat (crcMore (0 : Nat) r) ≤ (9223372036854775807 : Int)))
                       (.must true
                        (.must (decide
  ((sizedOf p (↑r.length : Int) ++ r).length + (fixOf (Int.ofNat (crcMore (0 : Nat) r)) (4 : Int)).length ≤
    (9223372036854775807 : Nat)))
                         (.must true
                          (.ret [C.str (sizedOf p (↑r.length : Int) ++ r ++ fixOf (Int.ofNat (crcMore (0 : Nat) r)) (4 : Int))])))))))))))))
              (.must (decide ((varText (↑r.length : Int)).length + r.length ≤ (9223372036854775807 : Nat)))
               (.must true
                (.must (decide (r.length ≤ (281474976710656 : Nat)))
                 (.must true
                  (.must true
                   (.must (decide ((-9223372036854775808 : Int) ≤ Int.ofNat (crcMore (0 : Nat) r)) &&
  decide (Int.ofNat (crcMore (0 : Nat) r) ≤ (9223372036854775807 : Int)))
                    (.must true
                     (.must (decide
  ((varText (↑r.length : Int) ++ r).length + (fixOf (Int.ofNat (crcMore (0 : Nat) r)) (4 : Int)).length ≤
    (9223372036854775807 : Nat)))
                      (.must true
                       (.ret [C.str (varText (↑r.length : Int) ++ r ++ fixOf (Int.ofNat (crcMore (0 : Nat) r)) (4 : Int))])))))))))))))))
         (.must true
          (.ret [C.str []]))))))
     (.must true
      (.ret [C.str []]))))))) := by kernel_rfl
theorem sEndMark_tree (H : List Pt → Nat → St → T (List C)) (v : Int) (p : Int) : vBodyL E_sEndMark (0 : Nat) (sg [pI, pI] [rS]) Try.f169 H [C.int IntKind.i64 v, C.int IntKind.i64 p] =
 (.must true
 (.must true
  (.must true
   (.must true
    (.ask (inB v (1 : Int) (2 : Int))
     (.must true
      (.must true
       (.must true
        (.ask (inB p (0 : Int) (1000000000 : Int))
         (.ask (decide (v = (1 : Int)))
          (.must true
           (.ret [C.str [(255 : UInt8), (255 : UInt8), (255 : UInt8), (255 : UInt8), (15 : UInt8)]]))
          (.must true
           (.must true
            (.must true
             (.must true
              (.must (decide ((-9223372036854775808 : Int) ≤ p) && decide (p ≤ (9223372036854775807 : Int)))
               (.must true
                (.must (decide ((fixOf p (8 : Int)).length + ((3 : Nat) + (1 : Nat)) ≤ (9223372036854775807 : Nat)))
                 (.must true
                  (.must (decide ((fixOf p (8 : Int) ++ fixOf (4294967295 : Int) (4 : Int)).length ≤ (281474976710656 : Nat)))
                   (.must true
                    (.must true
                     (.must (decide
    ((-9223372036854775808 : Int) ≤
      Int.ofNat (crcMore (0 : Nat) (fixOf p (8 : Int) ++ fixOf (4294967295 : Int) (4 : Int)))) &&
  decide
    (Int.ofNat (crcMore (0 : Nat) (fixOf p (8 : Int) ++ fixOf (4294967295 : Int) (4 : Int))) ≤
      (9223372036854775807 : Int)))
                      (.must true
                       (.must (decide
  ((3 : Nat) + (1 : Nat) +
      (fixOf (Int.ofNat (crcMore (0 : Nat) (fixOf p (8 : Int) ++ fixOf (4294967295 : Int) (4 : Int))))
          (4 : Int)).length ≤
    (9223372036854775807 : Nat)))
                        (.must true
                         (.ret [C.str
    (fixOf (4294967295 : Int) (4 : Int) ++
      fixOf (Int.ofNat (crcMore (0 : Nat) (fixOf p (8 : Int) ++ fixOf (4294967295 : Int) (4 : Int)))) (4 : Int))])))))))))))))))))
         (.must true
          (.ret [C.str []]))))))
     (.must true
      (.ret [C.str []]))))))) := by kernel_rfl
theorem iEndMark_tree (H : List Pt → Nat → St → T (List C)) (v : Int) (p : Int) : vBodyL E_iEndMark (0 : Nat) (sg [pI, pI] [rS]) Try.f58 H [C.int IntKind.i64 v, C.int IntKind.i64 p] =
 (.must true
 (.must true
  (.must true
   (.must true
    (.ask (inB v (1 : Int) (2 : Int))
     (.must true
      (.must true
       (.must true
        (.ask (inB p (0 : Int) (1000000000 : Int))
         (.ask (decide (v = (1 : Int)))
          (.must true
           (.ret [C.str [(255 : UInt8), (255 : UInt8), (255 : UInt8), (255 : UInt8), (15 : UInt8)]]))
          (.must true
           (.must (decide ((-9223372036854775808 : Int) ≤ p) && decide (p ≤ (9223372036854775807 : Int)) &&
  (decide ((-9223372036854775808 : Int) ≤ (4294967295 : Int)) &&
    decide ((4294967295 : Int) ≤ (9223372036854775807 : Int))))
            (.must true
             (.must true
              (.ret [C.str (sizedOf p (4294967295 : Int))]))))))
         (.must true
          (.ret [C.str []]))))))
     (.must true
      (.ret [C.str []]))))))) := by kernel_rfl
theorem sMarkAt_tree (H : List Pt → Nat → St → T (List C)) (v : Int) (p : Int) (b : List UInt8) (a : Int) : vBodyL E_sMarkAt (0 : Nat) (sg [pI, pI, pS, pI] [rB]) Try.f165 H
  [C.int IntKind.i64 v, C.int IntKind.i64 p, C.str b, C.int IntKind.i64 a] =
 (.must true
 (.must true
  (.must true
   (.must true
    (.ask (!endMark v p == [])
     (.must true
      (.must true
       (.must true
        (.ask (inB a (0 : Int) (IntKind.i64.wrap ((↑b.length : Int) - (↑(endMark v p).length : Int))))
         (.must (decide ((0 : Int) ≤ IntKind.i64.wrap (a + (↑(endMark v p).length : Int))) &&
    decide (IntKind.i64.wrap (a + (↑(endMark v p).length : Int)) ≤ (↑b.length : Int)) &&
  (decide ((0 : Int) ≤ a) && decide (a ≤ IntKind.i64.wrap (a + (↑(endMark v p).length : Int)))))
          (.ask (List.drop a.toNat (List.take (IntKind.i64.wrap (a + (↑(endMark v p).length : Int))).toNat b) == endMark v p)
           (.must true
            (.ret [C.bool true]))
           (.must true
            (.ret [C.bool false]))))
         (.must true
          (.ret [C.bool false]))))))
     (.must true
      (.ret [C.bool false]))))))) := by kernel_rfl
theorem iMarkAt_tree (H : List Pt → Nat → St → T (List C)) (v : Int) (p : Int) (b : List UInt8) (a : Int) : vBodyL E_iMarkAt (0 : Nat) (sg [pI, pI, pS, pI] [rB]) Try.f59 H
  [C.int IntKind.i64 v, C.int IntKind.i64 p, C.str b, C.int IntKind.i64 a] =
 (.must true
 (.must true
  (.must true
   (.must true
    (.ask (!endMark v p == [])
     (.must true
      (.must true
       (.must true
        (.ask (hasAt b a (endMark v p))
         (.must true
          (.ret [C.bool true]))
         (.must true
          (.ret [C.bool false]))))))
     (.must true
      (.ret [C.bool false]))))))) := by kernel_rfl
end Go.Proofs.Ythpamcbipmkimaa.V

namespace Go.Proofs.Ythpamcbipmkimaa.V

theorem slHasPrefix_E : EnvSound Try.prog E_slHasPrefix := mkE_sound (by simp [])
theorem slHasPrefix_sound : Sound Try.prog 173 (sg [pS, pS] [rB]) prefixSpec := vBody_sound (depth := 0) slHasPrefix_E Try.func173 (by kernel_rfl) fun cs outs hk h => by
  unfold prefixSpec at h
  split at h
  · simp only [Option.some.injEq, Prod.mk.injEq, true_and] at h
    rename_i b t
    rw [← h, vBody_L, slHasPrefix_tree]
    simp only [eval_must', eval_ask', eval_ret', if_true, decide_eq_true_eq, Bool.and_eq_true, Int.toNat_natCast, List.drop_zero, beq_iff_eq, Int.ofNat_le]
    by_cases hl : t.length ≤ b.length
    · have z : (0 : Int) ≤ (t.length : Int) := by omega
      by_cases he : b.take t.length = t
      · have : prefixOf b t = true := by unfold prefixOf; rw [decide_eq_true he]
        simp only [hl, z, he, if_true, and_self, this]
      · have : prefixOf b t = false := by unfold prefixOf; rw [decide_eq_false he]
        simp only [hl, z, he, if_true, if_false, and_self, this]
    · have : prefixOf b t = false := by
        unfold prefixOf
        rw [decide_eq_false]
        intro he
        have := congrArg List.length he
        simp at this
        omega
      simp only [hl, if_false, this]
  · cases h
theorem sHasPrefix_E : EnvSound Try.prog E_sHasPrefix := mkE_sound (by simp [slHasPrefix_sound])
theorem sHasPrefix_sound : Sound Try.prog 154 (sg [pS, pS] [rB]) prefixSpec := vBody_sound (depth := 0) sHasPrefix_E Try.func154 (by kernel_rfl) fun cs outs hk h => by
  unfold prefixSpec at h
  split at h
  · simp only [Option.some.injEq, Prod.mk.injEq, true_and] at h
    rename_i b t
    rw [← h, vBody_L, sHasPrefix_tree]
    by_cases hp : prefixOf b t = true <;> simp [eval_must', eval_ask', eval_ret', hp]
  · cases h
theorem hasAt_iff (b : List UInt8) (a : Int) (t : List UInt8) : hasAt b a t = true ↔ (0 ≤ a ∧ a ≤ b.length ∧ (b.drop a.toNat).take t.length = t) := by simp [hasAt]
theorem iHasAt_E : EnvSound Try.prog E_iHasAt := mkE_sound (by simp [iIn_sound, sHasPrefix_sound])
theorem iHasAt_sound : Sound Try.prog 116 (sg [pS, pI, pS] [rB]) hasAtSpec := vBody_sound (depth := 0) iHasAt_E Try.func116 (by kernel_rfl) fun cs outs hk h => by
  unfold hasAtSpec at h
  split at h
  · simp only [Option.some.injEq, Prod.mk.injEq, true_and] at h
    rename_i b a t
    rw [← h, vBody_L, iHasAt_tree]
    simp only [eval_must', eval_ask', eval_ret', if_true, decide_eq_true_eq, Bool.and_eq_true, List.take_length]
    by_cases hin : inB a 0 (b.length : Int) = true
    · have hh := (in_iff _ _ _).1 hin
      have e : hasAt b a t = prefixOf (b.drop a.toNat) t := by
        unfold hasAt prefixOf
        simp [hh]
      simp only [hin, hh, if_true, and_self, e]
      by_cases hp : prefixOf (b.drop a.toNat) t = true <;> simp [hp]
    · have e : hasAt b a t = false := by
        cases hx : hasAt b a t with
        | true => have := (hasAt_iff _ _ _).1 hx; exact absurd ((in_iff _ _ _).2 ⟨this.1, this.2.1⟩) hin
        | false => rfl
      simp only [hin, if_false, e]
      rfl
  · cases h

theorem varBytes_len : ∀ (k n : Nat), (varBytes k n).length ≤ k
  | 0, _ => by simp [varBytes]
  | k + 1, n => by
    by_cases h : n < 128
    · rw [varBytes_one k n h]; simp
    · rw [varBytes_more k n h]; have := varBytes_len k (n / 128); simp; omega
theorem varText_len (n : Int) : (varText n).length ≤ 5 := by
  unfold varText; split
  · exact varBytes_len 5 _
  · simp
theorem sizedOf_len (p n : Int) : (sizedOf p n).length ≤ 16 := by
  unfold sizedOf
  have := fixOf_len n 4
  have := fixOf_len (crcMore 0 (fixOf p 8 ++ fixOf n 4) : Nat) 4
  rw [List.length_append]; omega
theorem endMark_len (v p : Int) : (endMark v p).length ≤ 16 := by
  unfold endMark
  have := sizedOf_len p 4294967295
  split
  · split
    · simp
    · exact this
  · simp
theorem iSized_E : EnvSound Try.prog E_iSized := mkE_sound (by simp [iSumOf_sound, iFixText_sound])
theorem iSized_sound : Sound Try.prog 115 (sg [pI, pI] [rS]) sizedSpec := vBody_sound (depth := 0) iSized_E Try.func115 (by kernel_rfl) fun cs outs hk h => by
  unfold sizedSpec at h
  split at h
  · simp only [Option.some.injEq, Prod.mk.injEq, Bool.and_eq_true, decide_eq_true_eq] at h
    obtain ⟨⟨⟨a1, a2⟩, a3, a4⟩, rfl⟩ := h
    rename_i p n
    rw [vBody_L, iSized_tree]
    have l1 := fixOf_len p 8
    have l2 := fixOf_len n 4
    have l3 := fixOf_len (crcMore 0 (fixOf p 8 ++ fixOf n 4) : Nat) 4
    have c1 := crcMore_lt 0 (fixOf p 8 ++ fixOf n 4) (by omega)
    simp only [eval_must', eval_ask', eval_ret', if_true, decide_eq_true_eq, Bool.and_eq_true, List.length_append, Int.ofNat_eq_natCast]
    repeat rw [if_pos (by omega)]
    rfl
  · cases h
theorem sFrameText_E : EnvSound Try.prog E_sFrameText := mkE_sound (by simp [sIn_sound, sSumOf_sound, sFixText_sound, sVarText_sound])
theorem sFrameText_sound : Sound Try.prog 147 (sg [pI, pI, pS] [rS]) frameSpec := vBody_sound (depth := 0) sFrameText_E Try.func147 (by kernel_rfl) fun cs outs hk h => by
  unfold frameSpec at h
  split at h
  · simp only [Option.some.injEq, Prod.mk.injEq, decide_eq_true_eq] at h
    obtain ⟨h1, rfl⟩ := h
    rename_i v p r
    rw [vBody_L, sFrameText_tree]
    by_cases hv : inB v 1 2 = true
    · by_cases hp : inB p 0 1000000000 = true
      · have hv' := (in_iff _ _ _).1 hv
        have hp' := (in_iff _ _ _).1 hp
        by_cases hr : (60 : Int) < r.length
        · have : ¬ r.length ≤ 60 := by omega
          simp [eval_must', eval_ask', eval_ret', hv, hp, hr, frameText, this]
        · have hr' : r.length ≤ 60 := by omega
          have l1 := fixOf_len p 8
          have l2 := fixOf_len (r.length : Int) 4
          have l3 := fixOf_len (crcMore 0 (fixOf p 8 ++ fixOf (r.length : Int) 4) : Nat) 4
          have l4 := fixOf_len (crcMore 0 r : Nat) 4
          have l5 := varText_len (r.length : Int)
          have c1 := crcMore_lt 0 (fixOf p 8 ++ fixOf (r.length : Int) 4) (by omega)
          have c2 := crcMore_lt 0 r (by omega)
          by_cases h1 : v = 1
          · have h1t := eq_true h1
            have e : frameText v p r = varText (r.length : Int) ++ r ++ fixOf (crcMore 0 r : Nat) 4 := by
              unfold frameText; rw [hv, hp, decide_eq_true hr', if_neg (show ¬ v = 2 by omega)]; rfl
            rw [e]
            simp only [eval_must', eval_ask', eval_ret', if_true, hv, hp, hr, h1t, if_false, decide_eq_true_eq, Bool.and_eq_true, List.length_append, Int.ofNat_eq_natCast]
            repeat rw [if_pos (by omega)]
          · have e : frameText v p r = sizedOf p (r.length : Int) ++ r ++ fixOf (crcMore 0 r : Nat) 4 := by
              unfold frameText; rw [hv, hp, decide_eq_true hr', if_pos (show v = 2 by omega)]; rfl
            rw [e]
            unfold sizedOf
            simp only [eval_must', eval_ask', eval_ret', if_true, hv, hp, hr, h1, if_false, decide_eq_true_eq, Bool.and_eq_true, List.length_append, Int.ofNat_eq_natCast]
            repeat rw [if_pos (by omega)]
      · simp [eval_must', eval_ask', eval_ret', hv, hp, frameText]
    · simp [eval_must', eval_ask', eval_ret', hv, frameText]
  · cases h
theorem iFrameText_E : EnvSound Try.prog E_iFrameText := mkE_sound (by simp [iIsVersion_sound, iSumOf_sound, iIsNumber_sound, iFixText_sound, iVarText_sound, iSized_sound])
theorem iFrameText_sound : Sound Try.prog 60 (sg [pI, pI, pS] [rS]) frameSpec := vBody_sound (depth := 0) iFrameText_E Try.func60 (by kernel_rfl) fun cs outs hk h => by
  unfold frameSpec at h
  split at h
  · simp only [Option.some.injEq, Prod.mk.injEq, decide_eq_true_eq] at h
    obtain ⟨h1, rfl⟩ := h
    rename_i v p r
    rw [vBody_L, iFrameText_tree]
    by_cases hv : inB v 1 2 = true
    · by_cases hp : inB p 0 1000000000 = true
      · have hv' := (in_iff _ _ _).1 hv
        have hp' := (in_iff _ _ _).1 hp
        by_cases hr : (60 : Int) < r.length
        · have : ¬ r.length ≤ 60 := by omega
          simp [eval_must', eval_ask', eval_ret', hv, hp, hr, frameText, this]
        · have hr' : r.length ≤ 60 := by omega
          have l1 := sizedOf_len p (r.length : Int)
          have l4 := fixOf_len (crcMore 0 r : Nat) 4
          have l5 := varText_len (r.length : Int)
          have c2 := crcMore_lt 0 r (by omega)
          by_cases h1 : v = 2
          · have h1t := eq_true h1
            have e : frameText v p r = sizedOf p (r.length : Int) ++ r ++ fixOf (crcMore 0 r : Nat) 4 := by
              unfold frameText; rw [hv, hp, decide_eq_true hr', if_pos h1]; rfl
            rw [e]
            simp only [eval_must', eval_ask', eval_ret', if_true, hv, hp, hr, h1t, if_false, decide_eq_true_eq, Bool.and_eq_true, List.length_append, Int.ofNat_eq_natCast]
            repeat rw [if_pos (by omega)]
          · have e : frameText v p r = varText (r.length : Int) ++ r ++ fixOf (crcMore 0 r : Nat) 4 := by
              unfold frameText; rw [hv, hp, decide_eq_true hr', if_neg h1]; rfl
            rw [e]
            simp only [eval_must', eval_ask', eval_ret', if_true, hv, hp, hr, h1, if_false, decide_eq_true_eq, Bool.and_eq_true, List.length_append, Int.ofNat_eq_natCast]
            repeat rw [if_pos (by omega)]
      · simp [eval_must', eval_ask', eval_ret', hv, hp, frameText]
    · simp [eval_must', eval_ask', eval_ret', hv, frameText]
  · cases h
theorem sEndMark_E : EnvSound Try.prog E_sEndMark := mkE_sound (by simp [sIn_sound, sSumOf_sound, sFixText_sound])
theorem sEndMark_sound : Sound Try.prog 169 (sg [pI, pI] [rS]) endMarkSpec := vBody_sound (depth := 0) sEndMark_E Try.func169 (by kernel_rfl) fun cs outs hk h => by
  unfold endMarkSpec at h
  split at h
  · simp only [Option.some.injEq, Prod.mk.injEq, true_and] at h
    rename_i v p
    rw [← h, vBody_L, sEndMark_tree]
    by_cases hv : inB v 1 2 = true
    · by_cases hp : inB p 0 1000000000 = true
      · have hp' := (in_iff _ _ _).1 hp
        have l1 := fixOf_len p 8
        have l2 := fixOf_len 4294967295 4
        have l3 := fixOf_len (crcMore 0 (fixOf p 8 ++ fixOf 4294967295 4) : Nat) 4
        have c1 := crcMore_lt 0 (fixOf p 8 ++ fixOf 4294967295 4) (by omega)
        by_cases h1 : v = 1
        · have h1t := eq_true h1
          have e : endMark v p = [255, 255, 255, 255, 15] := by unfold endMark; rw [hv, hp, if_pos h1]; rfl
          rw [e]
          simp only [eval_must', eval_ask', eval_ret', if_true, hv, hp, h1t, decide_true]
        · have e : endMark v p = sizedOf p 4294967295 := by unfold endMark; rw [hv, hp, if_neg h1]; rfl
          rw [e]
          unfold sizedOf
          simp only [eval_must', eval_ask', eval_ret', if_true, hv, hp, h1, if_false, decide_eq_true_eq, Bool.and_eq_true, List.length_append, Int.ofNat_eq_natCast]
          repeat rw [if_pos (by omega)]
      · simp [eval_must', eval_ask', eval_ret', hv, hp, endMark]
    · simp [eval_must', eval_ask', eval_ret', hv, endMark]
  · cases h
theorem iEndMark_E : EnvSound Try.prog E_iEndMark := mkE_sound (by simp [iIsVersion_sound, iIsNumber_sound, iSized_sound])
theorem iEndMark_sound : Sound Try.prog 58 (sg [pI, pI] [rS]) endMarkSpec := vBody_sound (depth := 0) iEndMark_E Try.func58 (by kernel_rfl) fun cs outs hk h => by
  unfold endMarkSpec at h
  split at h
  · simp only [Option.some.injEq, Prod.mk.injEq, true_and] at h
    rename_i v p
    rw [← h, vBody_L, iEndMark_tree]
    by_cases hv : inB v 1 2 = true
    · by_cases hp : inB p 0 1000000000 = true
      · have hp' := (in_iff _ _ _).1 hp
        by_cases h1 : v = 1
        · have h1t := eq_true h1
          have e : endMark v p = [255, 255, 255, 255, 15] := by unfold endMark; rw [hv, hp, if_pos h1]; rfl
          rw [e]
          simp [eval_must', eval_ask', eval_ret', hv, hp, h1t]
        · have e : endMark v p = sizedOf p 4294967295 := by unfold endMark; rw [hv, hp, if_neg h1]; rfl
          rw [e]
          simp only [eval_must', eval_ask', eval_ret', if_true, hv, hp, h1, if_false, decide_eq_true_eq, Bool.and_eq_true]
          repeat rw [if_pos (by omega)]
      · simp [eval_must', eval_ask', eval_ret', hv, hp, endMark]
    · simp [eval_must', eval_ask', eval_ret', hv, endMark]
  · cases h
theorem sMarkAt_E : EnvSound Try.prog E_sMarkAt := mkE_sound (by simp [sIn_sound, sEndMark_sound])
theorem sMarkAt_sound : Sound Try.prog 165 (sg [pI, pI, pS, pI] [rB]) markAtSpec := vBody_sound (depth := 0) sMarkAt_E Try.func165 (by kernel_rfl) fun cs outs hk h => by
  unfold markAtSpec at h
  split at h
  · simp only [Option.some.injEq, Prod.mk.injEq, decide_eq_true_eq] at h
    obtain ⟨h1, rfl⟩ := h
    rename_i v p b a
    rw [vBody_L, sMarkAt_tree]
    have lm := endMark_len v p
    unfold markAt
    generalize endMark v p = m at *
    by_cases hm : m = []
    · simp [eval_must', eval_ask', eval_ret', hm]
    · have hb : (!m == ([] : List UInt8)) = true := by simpa using hm
      have w1 : IntKind.i64.wrap ((b.length : Int) - (m.length : Int)) = (b.length : Int) - m.length := by rw [wrap64] <;> omega
      simp only [eval_must', eval_ask', eval_ret', if_true, hb, w1, decide_eq_true_eq, Bool.and_eq_true, beq_iff_eq]
      by_cases hin : inB a 0 ((b.length : Int) - m.length) = true
      · have hh := (in_iff _ _ _).1 hin
        obtain ⟨a, rfl⟩ := Int.eq_ofNat_of_zero_le hh.1
        have w2 : IntKind.i64.wrap ((a : Int) + (m.length : Int)) = ((a + m.length : Nat) : Int) := by rw [wrap64] <;> omega
        have z1 : (0 : Int) ≤ ((a + m.length : Nat) : Int) := by omega
        have z2 : ((a + m.length : Nat) : Int) ≤ b.length := by omega
        have z3 : (a : Int) ≤ ((a + m.length : Nat) : Int) := by omega
        have ed : (b.take (a + m.length)).drop a = (b.drop a).take m.length := by
          rw [List.take_drop]
        simp only [hin, w2, z1, z2, z3, hh.1, if_true, and_self, Int.toNat_natCast, ed]
        by_cases he : (b.drop a).take m.length = m
        · have : hasAt b a m = true := (hasAt_iff _ _ _).2 ⟨by omega, by omega, by simpa using he⟩
          simp [he, this, hm]
        · have : hasAt b a m = false := by
            cases hx : hasAt b a m with
            | true => exact absurd (by simpa using ((hasAt_iff _ _ _).1 hx).2.2) he
            | false => rfl
          simp [he, this]
      · have : hasAt b a m = false := by
          cases hx : hasAt b a m with
          | true =>
            have hh := (hasAt_iff _ _ _).1 hx
            have hl := congrArg List.length hh.2.2
            simp at hl
            exact absurd ((in_iff _ _ _).2 ⟨hh.1, by omega⟩) hin
          | false => rfl
        simp [hin, this]
  · cases h
theorem iMarkAt_E : EnvSound Try.prog E_iMarkAt := mkE_sound (by simp [iHasAt_sound, iEndMark_sound])
theorem iMarkAt_sound : Sound Try.prog 59 (sg [pI, pI, pS, pI] [rB]) markAtSpec := vBody_sound (depth := 0) iMarkAt_E Try.func59 (by kernel_rfl) fun cs outs hk h => by
  unfold markAtSpec at h
  split at h
  · simp only [Option.some.injEq, Prod.mk.injEq, decide_eq_true_eq] at h
    obtain ⟨h1, rfl⟩ := h
    rename_i v p b a
    rw [vBody_L, iMarkAt_tree]
    unfold markAt
    generalize endMark v p = m at *
    by_cases hm : m = []
    · simp [eval_must', eval_ask', eval_ret', hm]
    · have hb : (!m == ([] : List UInt8)) = true := by simpa using hm
      by_cases hh : hasAt b a m = true <;> simp [eval_must', eval_ask', eval_ret', hb, hh, hm]
  · cases h

end Go.Proofs.Ythpamcbipmkimaa.V

namespace Go.Proofs.Ythpamcbipmkimaa.V
noncomputable section

def rfN (v : Int) (b : List UInt8) (a : Int) : Int := if v = 2 then fixRead b a 4 else rvN b a
def rfFrom (v : Int) (b : List UInt8) (a : Int) : Int := if v = 2 then a + 8 else rvEnd b a
def rfHas (v : Int) (b : List UInt8) (a : Int) : Bool := if v = 2 then fixOk b a 4 else rvOk b a
def rfText (v : Int) (b : List UInt8) (a : Int) : List UInt8 := (b.drop (rfFrom v b a).toNat).take (rfN v b a).toNat
def rfOk (v p : Int) (b : List UInt8) (a : Int) : Bool := inB v 1 2 && inB p 0 1000000000 && rfHas v b a && decide (rfN v b a ≤ 60 ∧ rfFrom v b a + rfN v b a ≤ b.length) && hasAt b a (frameText v p (rfText v b a))
def rfRec (v p : Int) (b : List UInt8) (a : Int) : List UInt8 := if rfOk v p b a then rfText v b a else []
def rfEnd (v p : Int) (b : List UInt8) (a : Int) : Int := if rfOk v p b a then a + (frameText v p (rfText v b a)).length else 0
def readFrameSpec : Spec := fun cs => match cs with
  | [.int .i64 v, .int .i64 p, .str b, .int .i64 a] => some (decide (b.length ≤ 281474976710656) && (decide (-9223372036854775808 ≤ a) && decide (a ≤ 9223372036854775807)), [.str (rfRec v p b a), .int .i64 (rfEnd v p b a), .bool (rfOk v p b a)])
  | _ => none
def E_sReadFrame : Env := mkE [] [(93, (sg [pI, pI, pI] [rB]), inSpec), (127, (sg [pS, pI, pI] [rI, rB]), readFixSpec), (178, (sg [pS, pI] [rI, rI, rB]), readVarSpec), (147, (sg [pI, pI, pS] [rS]), frameSpec)]
def E_iReadFrame : Env := mkE [] [(120, (sg [pS, pI, pI] [rI, rB]), readFixSpec), (121, (sg [pS, pI] [rI, rI, rB]), readVarSpec), (116, (sg [pS, pI, pS] [rB]), hasAtSpec), (60, (sg [pI, pI, pS] [rS]), frameSpec)]

end
end Go.Proofs.Ythpamcbipmkimaa.V

namespace Go.Proofs.Ythpamcbipmkimaa.V
set_option maxRecDepth 100000
theorem sReadFrame_tree (H : List Pt → Nat → St → T (List C)) (v : Int) (p : Int) (b : List UInt8) (a : Int) : vBodyL E_sReadFrame (0 : Nat) (sg [pI, pI, pS, pI] [rS, rI, rB]) Try.f166 H
  [C.int IntKind.i64 v, C.int IntKind.i64 p, C.str b, C.int IntKind.i64 a] =
 (.must true
 (.must true
  (.must true
   (.must true
    (.ask (inB v (1 : Int) (2 : Int))
     (.must true
      (.must true
       (.must true
        (.ask (inB p (0 : Int) (1000000000 : Int))
         (.must true
          (.must true
           (.must true
            (.ask (inB a (0 : Int) (↑b.length : Int))
             (.must true
              (.must (decide (b.length ≤ (281474976710656 : Nat)) &&
  (decide ((-9223372036854775808 : Int) ≤ a) && decide (a ≤ (9223372036854775807 : Int))))
               (.must true
                (.ask (rvOk b a)
                 (.ask (decide (v = (2 : Int)))
                  (.must true
                   (.must (decide (b.length ≤ (281474976710656 : Nat)) &&
  (decide ((-9223372036854775808 : Int) ≤ a) && decide (a ≤ (9223372036854775807 : Int))))
                    (.must true
                     (.ask (fixOk b a (4 : Int))
                      (.ask (decide ((60 : Int) < fixRead b a (4 : Int)))
                       (.must true
                        (.ret [C.str [], C.int IntKind.i64 (0 : Int), C.bool false]))
                       (.ask (decide (IntKind.i64.wrap ((↑b.length : Int) - fixRead b a (4 : Int)) < IntKind.i64.wrap (a + (8 : Int))))
                        (.must true
                         (.ret [C.str [], C.int IntKind.i64 (0 : Int), C.bool false]))
                        (.must (decide ((0 : Int) ≤ IntKind.i64.wrap (IntKind.i64.wrap (a + (8 : Int)) + fixRead b a (4 : Int))) &&
    decide (IntKind.i64.wrap (IntKind.i64.wrap (a + (8 : Int)) + fixRead b a (4 : Int)) ≤ (↑b.length : Int)) &&
  (decide ((0 : Int) ≤ IntKind.i64.wrap (a + (8 : Int))) &&
    decide
      (IntKind.i64.wrap (a + (8 : Int)) ≤ IntKind.i64.wrap (IntKind.i64.wrap (a + (8 : Int)) + fixRead b a (4 : Int)))))
                         (.must true
                          (.must (decide
  ((List.drop (IntKind.i64.wrap (a + (8 : Int))).toNat
        (List.take (IntKind.i64.wrap (IntKind.i64.wrap (a + (8 : Int)) + fixRead b a (4 : Int))).toNat b)).length ≤
    (281474976710656 : Nat)))
                           (.must true
                            (.ask (decide
  (IntKind.i64.wrap ((↑b.length : Int) - a) <
    (↑(frameText v p
            (List.drop (IntKind.i64.wrap (a + (8 : Int))).toNat
              (List.take (IntKind.i64.wrap (IntKind.i64.wrap (a + (8 : Int)) + fixRead b a (4 : Int))).toNat
                b))).length :
      Int)))
                             (.must true
                              (.ret [C.str [], C.int IntKind.i64 (0 : Int), C.bool false]))
                             (.must (decide
      ((0 : Int) ≤
        IntKind.i64.wrap
          (a +
            (↑(frameText v p
                    (List.drop (IntKind.i64.wrap (a + (8 : Int))).toNat
                      (List.take (IntKind.i64.wrap (IntKind.i64.wrap (a + (8 : Int)) + fixRead b a (4 : Int))).toNat
                        b))).length :
              Int))) &&
    decide
      (IntKind.i64.wrap
          (a +
            (↑(frameText v p
                    (List.drop (IntKind.i64.wrap (a + (8 : Int))).toNat
                      (List.take (IntKind.i64.wrap (IntKind.i64.wrap (a + (8 : Int)) + fixRead b a (4 : Int))).toNat
                        b))).length :
              Int)) ≤
        (↑b.length : Int)) &&
  (decide ((0 : Int) ≤ a) &&
    decide
      (a ≤
        IntKind.i64.wrap
          (a +
            (↑(frameText v p
                    (List.drop (IntKind.i64.wrap (a + (8 : Int))).toNat
                      (List.take (IntKind.i64.wrap (IntKind.i64.wrap (a + (8 : Int)) + fixRead b a (4 : Int))).toNat
                        b))).length :
              Int)))))
                              (.ask (!List.drop a.toNat
      (List.take
        (IntKind.i64.wrap
            (a +
              (↑(frameText v p
                      (List.drop (IntKind.i64.wrap (a + (8 : Int))).toNat
                        (List.take (IntKind.i64.wrap (IntKind.i64.wrap (a + (8 : Int)) + fixRead b a (4 : Int))).toNat
                          b))).length :
                Int))).toNat
        b) ==
    frameText v p
      (List.drop (IntKind.i64.wrap (a + (8 : Int))).toNat
        (List.take (IntKind.i64.wrap (IntKind.i64.wrap (a + (8 : Int)) + fixRead b a (4 : Int))).toNat b)))
                               (.must true
                                (.ret [C.str [], C.int IntKind.i64 (0 : Int), C.bool false]))
                               (.must true
                                (.ret [C.str
    (List.drop (IntKind.i64.wrap (a + (8 : Int))).toNat
      (List.take (IntKind.i64.wrap (IntKind.i64.wrap (a + (8 : Int)) + fixRead b a (4 : Int))).toNat b)),
  C.int IntKind.i64
    (IntKind.i64.wrap
      (a +
        (↑(frameText v p
                (List.drop (IntKind.i64.wrap (a + (8 : Int))).toNat
                  (List.take (IntKind.i64.wrap (IntKind.i64.wrap (a + (8 : Int)) + fixRead b a (4 : Int))).toNat
                    b))).length :
          Int))),
  C.bool true])))))))))))
                      (.must true
                       (.ret [C.str [], C.int IntKind.i64 (0 : Int), C.bool false]))))))
                  (.ask (decide ((60 : Int) < rvN b a))
                   (.must true
                    (.ret [C.str [], C.int IntKind.i64 (0 : Int), C.bool false]))
                   (.ask (decide (IntKind.i64.wrap ((↑b.length : Int) - rvN b a) < rvEnd b a))
                    (.must true
                     (.ret [C.str [], C.int IntKind.i64 (0 : Int), C.bool false]))
                    (.must (decide ((0 : Int) ≤ IntKind.i64.wrap (rvEnd b a + rvN b a)) &&
    decide (IntKind.i64.wrap (rvEnd b a + rvN b a) ≤ (↑b.length : Int)) &&
  (decide ((0 : Int) ≤ rvEnd b a) && decide (rvEnd b a ≤ IntKind.i64.wrap (rvEnd b a + rvN b a))))
                     (.must true
                      (.must (decide
  ((List.drop (rvEnd b a).toNat (List.take (IntKind.i64.wrap (rvEnd b a + rvN b a)).toNat b)).length ≤
    (281474976710656 : Nat)))
                       (.must true
                        (.ask (decide
  (IntKind.i64.wrap ((↑b.length : Int) - a) <
    (↑(frameText v p
            (List.drop (rvEnd b a).toNat (List.take (IntKind.i64.wrap (rvEnd b a + rvN b a)).toNat b))).length :
      Int)))
                         (.must true
                          (.ret [C.str [], C.int IntKind.i64 (0 : Int), C.bool false]))
                         (.must (decide
      ((0 : Int) ≤
        IntKind.i64.wrap
          (a +
            (↑(frameText v p
                    (List.drop (rvEnd b a).toNat (List.take (IntKind.i64.wrap (rvEnd b a + rvN b a)).toNat b))).length :
              Int))) &&
    decide
      (IntKind.i64.wrap
          (a +
            (↑(frameText v p
                    (List.drop (rvEnd b a).toNat (List.take (IntKind.i64.wrap (rvEnd b a + rvN b a)).toNat b))).length :
              Int)) ≤
        (↑b.length : Int)) &&
  (decide ((0 : Int) ≤ a) &&
    decide
      (a ≤
        IntKind.i64.wrap
          (a +
            (↑(frameText v p
                    (List.drop (rvEnd b a).toNat (List.take (IntKind.i64.wrap (rvEnd b a + rvN b a)).toNat b))).length :
              Int)))))
                          (.ask (!List.drop a.toNat
      (List.take
        (IntKind.i64.wrap
            (a +
              (↑(frameText v p
                      (List.drop (rvEnd b a).toNat
                        (List.take (IntKind.i64.wrap (rvEnd b a + rvN b a)).toNat b))).length :
                Int))).toNat
        b) ==
    frameText v p (List.drop (rvEnd b a).toNat (List.take (IntKind.i64.wrap (rvEnd b a + rvN b a)).toNat b)))
                           (.must true
                            (.ret [C.str [], C.int IntKind.i64 (0 : Int), C.bool false]))
                           (.must true
                            (.ret [C.str (List.drop (rvEnd b a).toNat (List.take (IntKind.i64.wrap (rvEnd b a + rvN b a)).toNat b)),
  C.int IntKind.i64
    (IntKind.i64.wrap
      (a +
        (↑(frameText v p
                (List.drop (rvEnd b a).toNat (List.take (IntKind.i64.wrap (rvEnd b a + rvN b a)).toNat b))).length :
          Int))),
  C.bool true]))))))))))))
                 (.ask (decide (v = (2 : Int)))
                  (.must true
                   (.must (decide (b.length ≤ (281474976710656 : Nat)) &&
  (decide ((-9223372036854775808 : Int) ≤ a) && decide (a ≤ (9223372036854775807 : Int))))
                    (.must true
                     (.ask (fixOk b a (4 : Int))
                      (.ask (decide ((60 : Int) < fixRead b a (4 : Int)))
                       (.must true
                        (.ret [C.str [], C.int IntKind.i64 (0 : Int), C.bool false]))
                       (.ask (decide (IntKind.i64.wrap ((↑b.length : Int) - fixRead b a (4 : Int)) < IntKind.i64.wrap (a + (8 : Int))))
                        (.must true
                         (.ret [C.str [], C.int IntKind.i64 (0 : Int), C.bool false]))
                        (.must (decide ((0 : Int) ≤ IntKind.i64.wrap (IntKind.i64.wrap (a + (8 : Int)) + fixRead b a (4 : Int))) &&
    decide (IntKind.i64.wrap (IntKind.i64.wrap (a + (8 : Int)) + fixRead b a (4 : Int)) ≤ (↑b.length : Int)) &&
  (decide ((0 : Int) ≤ IntKind.i64.wrap (a + (8 : Int))) &&
    decide
      (IntKind.i64.wrap (a + (8 : Int)) ≤ IntKind.i64.wrap (IntKind.i64.wrap (a + (8 : Int)) + fixRead b a (4 : Int)))))
                         (.must true
                          (.must (decide
  ((List.drop (IntKind.i64.wrap (a + (8 : Int))).toNat
        (List.take (IntKind.i64.wrap (IntKind.i64.wrap (a + (8 : Int)) + fixRead b a (4 : Int))).toNat b)).length ≤
    (281474976710656 : Nat)))
                           (.must true
                            (.ask (decide
  (IntKind.i64.wrap ((↑b.length : Int) - a) <
    (↑(frameText v p
            (List.drop (IntKind.i64.wrap (a + (8 : Int))).toNat
              (List.take (IntKind.i64.wrap (IntKind.i64.wrap (a + (8 : Int)) + fixRead b a (4 : Int))).toNat
                b))).length :
      Int)))
                             (.must true
                              (.ret [C.str [], C.int IntKind.i64 (0 : Int), C.bool false]))
                             (.must (decide
      ((0 : Int) ≤
        IntKind.i64.wrap
          (a +
            (↑(frameText v p
                    (List.drop (IntKind.i64.wrap (a + (8 : Int))).toNat
                      (List.take (IntKind.i64.wrap (IntKind.i64.wrap (a + (8 : Int)) + fixRead b a (4 : Int))).toNat
                        b))).length :
              Int))) &&
    decide
      (IntKind.i64.wrap
          (a +
            (↑(frameText v p
                    (List.drop (IntKind.i64.wrap (a + (8 : Int))).toNat
                      (List.take (IntKind.i64.wrap (IntKind.i64.wrap (a + (8 : Int)) + fixRead b a (4 : Int))).toNat
                        b))).length :
              Int)) ≤
        (↑b.length : Int)) &&
  (decide ((0 : Int) ≤ a) &&
    decide
      (a ≤
        IntKind.i64.wrap
          (a +
            (↑(frameText v p
                    (List.drop (IntKind.i64.wrap (a + (8 : Int))).toNat
                      (List.take (IntKind.i64.wrap (IntKind.i64.wrap (a + (8 : Int)) + fixRead b a (4 : Int))).toNat
                        b))).length :
              Int)))))
                              (.ask (!List.drop a.toNat
      (List.take
        (IntKind.i64.wrap
            (a +
              (↑(frameText v p
                      (List.drop (IntKind.i64.wrap (a + (8 : Int))).toNat
                        (List.take (IntKind.i64.wrap (IntKind.i64.wrap (a + (8 : Int)) + fixRead b a (4 : Int))).toNat
                          b))).length :
                Int))).toNat
        b) ==
    frameText v p
      (List.drop (IntKind.i64.wrap (a + (8 : Int))).toNat
        (List.take (IntKind.i64.wrap (IntKind.i64.wrap (a + (8 : Int)) + fixRead b a (4 : Int))).toNat b)))
                               (.must true
                                (.ret [C.str [], C.int IntKind.i64 (0 : Int), C.bool false]))
                               (.must true
                                (.ret [C.str
    (List.drop (IntKind.i64.wrap (a + (8 : Int))).toNat
      (List.take (IntKind.i64.wrap (IntKind.i64.wrap (a + (8 : Int)) + fixRead b a (4 : Int))).toNat b)),
  C.int IntKind.i64
    (IntKind.i64.wrap
      (a +
        (↑(frameText v p
                (List.drop (IntKind.i64.wrap (a + (8 : Int))).toNat
                  (List.take (IntKind.i64.wrap (IntKind.i64.wrap (a + (8 : Int)) + fixRead b a (4 : Int))).toNat
                    b))).length :
          Int))),
  C.bool true])))))))))))
                      (.must true
                       (.ret [C.str [], C.int IntKind.i64 (0 : Int), C.bool false]))))))
                  (.must true
                   (.ret [C.str [], C.int IntKind.i64 (0 : Int), C.bool false])))))))
             (.must true
              (.ret [C.str [], C.int IntKind.i64 (0 : Int), C.bool false]))))))
         (.must true
          (.ret [C.str [], C.int IntKind.i64 (0 : Int), C.bool false]))))))
     (.must true
      (.ret [C.str [], C.int IntKind.i64 (0 : Int), C.bool false]))))))) := by kernel_rfl
theorem iReadFrame_tree (H : List Pt → Nat → St → T (List C)) (v : Int) (p : Int) (b : List UInt8) (a : Int) : vBodyL E_iReadFrame (0 : Nat) (sg [pI, pI, pS, pI] [rS, rI, rB]) Try.f62 H
  [C.int IntKind.i64 v, C.int IntKind.i64 p, C.str b, C.int IntKind.i64 a] =
 (.must true
 (.ask (decide (v = (2 : Int)))
  (.must true
   (.must (decide (b.length ≤ (281474976710656 : Nat)) &&
  (decide ((-9223372036854775808 : Int) ≤ a) && decide (a ≤ (9223372036854775807 : Int))))
    (.must true
     (.ask (fixOk b a (4 : Int))
      (.ask (decide ((60 : Int) < fixRead b a (4 : Int)))
       (.must true
        (.ret [C.str [], C.int IntKind.i64 (0 : Int), C.bool false]))
       (.ask (decide ((↑b.length : Int) < IntKind.i64.wrap (a + (8 : Int))))
        (.must true
         (.ret [C.str [], C.int IntKind.i64 (0 : Int), C.bool false]))
        (.ask (decide (IntKind.i64.wrap ((↑b.length : Int) - IntKind.i64.wrap (a + (8 : Int))) < fixRead b a (4 : Int)))
         (.must true
          (.ret [C.str [], C.int IntKind.i64 (0 : Int), C.bool false]))
         (.must (decide ((0 : Int) ≤ IntKind.i64.wrap (IntKind.i64.wrap (a + (8 : Int)) + fixRead b a (4 : Int))) &&
    decide (IntKind.i64.wrap (IntKind.i64.wrap (a + (8 : Int)) + fixRead b a (4 : Int)) ≤ (↑b.length : Int)) &&
  (decide ((0 : Int) ≤ IntKind.i64.wrap (a + (8 : Int))) &&
    decide
      (IntKind.i64.wrap (a + (8 : Int)) ≤ IntKind.i64.wrap (IntKind.i64.wrap (a + (8 : Int)) + fixRead b a (4 : Int)))))
          (.must true
           (.must (decide
  ((List.drop (IntKind.i64.wrap (a + (8 : Int))).toNat
        (List.take (IntKind.i64.wrap (IntKind.i64.wrap (a + (8 : Int)) + fixRead b a (4 : Int))).toNat b)).length ≤
    (281474976710656 : Nat)))
            (.must true
             (.ask (frameText v p
    (List.drop (IntKind.i64.wrap (a + (8 : Int))).toNat
      (List.take (IntKind.i64.wrap (IntKind.i64.wrap (a + (8 : Int)) + fixRead b a (4 : Int))).toNat b)) ==
  [])
              (.must true
               (.ret [C.str [], C.int IntKind.i64 (0 : Int), C.bool false]))
              (.must true
               (.must true
                (.must true
                 (.ask (hasAt b a
  (frameText v p
    (List.drop (IntKind.i64.wrap (a + (8 : Int))).toNat
      (List.take (IntKind.i64.wrap (IntKind.i64.wrap (a + (8 : Int)) + fixRead b a (4 : Int))).toNat b))))
                  (.must true
                   (.ret [C.str
    (List.drop (IntKind.i64.wrap (a + (8 : Int))).toNat
      (List.take (IntKind.i64.wrap (IntKind.i64.wrap (a + (8 : Int)) + fixRead b a (4 : Int))).toNat b)),
  C.int IntKind.i64
    (IntKind.i64.wrap
      (a +
        (↑(frameText v p
                (List.drop (IntKind.i64.wrap (a + (8 : Int))).toNat
                  (List.take (IntKind.i64.wrap (IntKind.i64.wrap (a + (8 : Int)) + fixRead b a (4 : Int))).toNat
                    b))).length :
          Int))),
  C.bool true]))
                  (.must true
                   (.ret [C.str [], C.int IntKind.i64 (0 : Int), C.bool false]))))))))))))))
      (.must true
       (.ret [C.str [], C.int IntKind.i64 (0 : Int), C.bool false]))))))
  (.must true
   (.must (decide (b.length ≤ (281474976710656 : Nat)) &&
  (decide ((-9223372036854775808 : Int) ≤ a) && decide (a ≤ (9223372036854775807 : Int))))
    (.must true
     (.ask (rvOk b a)
      (.ask (decide ((60 : Int) < rvN b a))
       (.must true
        (.ret [C.str [], C.int IntKind.i64 (0 : Int), C.bool false]))
       (.ask (decide ((↑b.length : Int) < rvEnd b a))
        (.must true
         (.ret [C.str [], C.int IntKind.i64 (0 : Int), C.bool false]))
        (.ask (decide (IntKind.i64.wrap ((↑b.length : Int) - rvEnd b a) < rvN b a))
         (.must true
          (.ret [C.str [], C.int IntKind.i64 (0 : Int), C.bool false]))
         (.must (decide ((0 : Int) ≤ IntKind.i64.wrap (rvEnd b a + rvN b a)) &&
    decide (IntKind.i64.wrap (rvEnd b a + rvN b a) ≤ (↑b.length : Int)) &&
  (decide ((0 : Int) ≤ rvEnd b a) && decide (rvEnd b a ≤ IntKind.i64.wrap (rvEnd b a + rvN b a))))
          (.must true
           (.must (decide
  ((List.drop (rvEnd b a).toNat (List.take (IntKind.i64.wrap (rvEnd b a + rvN b a)).toNat b)).length ≤
    (281474976710656 : Nat)))
            (.must true
             (.ask (frameText v p (List.drop (rvEnd b a).toNat (List.take (IntKind.i64.wrap (rvEnd b a + rvN b a)).toNat b)) == [])
              (.must true
               (.ret [C.str [], C.int IntKind.i64 (0 : Int), C.bool false]))
              (.must true
               (.must true
                (.must true
                 (.ask (hasAt b a (frameText v p (List.drop (rvEnd b a).toNat (List.take (IntKind.i64.wrap (rvEnd b a + rvN b a)).toNat b))))
                  (.must true
                   (.ret [C.str (List.drop (rvEnd b a).toNat (List.take (IntKind.i64.wrap (rvEnd b a + rvN b a)).toNat b)),
  C.int IntKind.i64
    (IntKind.i64.wrap
      (a +
        (↑(frameText v p
                (List.drop (rvEnd b a).toNat (List.take (IntKind.i64.wrap (rvEnd b a + rvN b a)).toNat b))).length :
          Int))),
  C.bool true]))
                  (.must true
                   (.ret [C.str [], C.int IntKind.i64 (0 : Int), C.bool false]))))))))))))))
      (.must true
       (.ret [C.str [], C.int IntKind.i64 (0 : Int), C.bool false])))))))) := by kernel_rfl
end Go.Proofs.Ythpamcbipmkimaa.V

namespace Go.Proofs.Ythpamcbipmkimaa.V

def failRF : List C := [C.str [], C.int IntKind.i64 (0 : Int), C.bool false]
/-- the end of both texts, once the size is read -/
def sTail (v p : Int) (b : List UInt8) (a n f : Int) : T (List C) :=
  .ask (decide (60 < n)) (.must true (.ret failRF))
   (.ask (decide (IntKind.i64.wrap ((b.length : Int) - n) < f)) (.must true (.ret failRF))
    (.must (decide (0 ≤ IntKind.i64.wrap (f + n)) && decide (IntKind.i64.wrap (f + n) ≤ (b.length : Int)) && (decide (0 ≤ f) && decide (f ≤ IntKind.i64.wrap (f + n))))
     (.must true
      (.must (decide ((List.drop f.toNat (List.take (IntKind.i64.wrap (f + n)).toNat b)).length ≤ 281474976710656))
       (.must true
        (.ask (decide (IntKind.i64.wrap ((b.length : Int) - a) < ((frameText v p (List.drop f.toNat (List.take (IntKind.i64.wrap (f + n)).toNat b))).length : Int))) (.must true (.ret failRF))
         (.must (decide (0 ≤ IntKind.i64.wrap (a + ((frameText v p (List.drop f.toNat (List.take (IntKind.i64.wrap (f + n)).toNat b))).length : Int))) && decide (IntKind.i64.wrap (a + ((frameText v p (List.drop f.toNat (List.take (IntKind.i64.wrap (f + n)).toNat b))).length : Int)) ≤ (b.length : Int)) && (decide (0 ≤ a) && decide (a ≤ IntKind.i64.wrap (a + ((frameText v p (List.drop f.toNat (List.take (IntKind.i64.wrap (f + n)).toNat b))).length : Int)))))
          (.ask (!List.drop a.toNat (List.take (IntKind.i64.wrap (a + ((frameText v p (List.drop f.toNat (List.take (IntKind.i64.wrap (f + n)).toNat b))).length : Int))).toNat b) == frameText v p (List.drop f.toNat (List.take (IntKind.i64.wrap (f + n)).toNat b)))
           (.must true (.ret failRF))
           (.must true (.ret [C.str (List.drop f.toNat (List.take (IntKind.i64.wrap (f + n)).toNat b)), C.int IntKind.i64 (IntKind.i64.wrap (a + ((frameText v p (List.drop f.toNat (List.take (IntKind.i64.wrap (f + n)).toNat b))).length : Int))), C.bool true]))))))))))
def iTail (v p : Int) (b : List UInt8) (a n f : Int) : T (List C) :=
  .ask (decide (60 < n)) (.must true (.ret failRF))
   (.ask (decide ((b.length : Int) < f)) (.must true (.ret failRF))
    (.ask (decide (IntKind.i64.wrap ((b.length : Int) - f) < n)) (.must true (.ret failRF))
     (.must (decide (0 ≤ IntKind.i64.wrap (f + n)) && decide (IntKind.i64.wrap (f + n) ≤ (b.length : Int)) && (decide (0 ≤ f) && decide (f ≤ IntKind.i64.wrap (f + n))))
      (.must true
       (.must (decide ((List.drop f.toNat (List.take (IntKind.i64.wrap (f + n)).toNat b)).length ≤ 281474976710656))
        (.must true
         (.ask (frameText v p (List.drop f.toNat (List.take (IntKind.i64.wrap (f + n)).toNat b)) == []) (.must true (.ret failRF))
          (.must true (.must true (.must true
           (.ask (hasAt b a (frameText v p (List.drop f.toNat (List.take (IntKind.i64.wrap (f + n)).toNat b))))
            (.must true (.ret [C.str (List.drop f.toNat (List.take (IntKind.i64.wrap (f + n)).toNat b)), C.int IntKind.i64 (IntKind.i64.wrap (a + ((frameText v p (List.drop f.toNat (List.take (IntKind.i64.wrap (f + n)).toNat b))).length : Int))), C.bool true]))
            (.must true (.ret failRF)))))))))))))
def tailOut (v p : Int) (b : List UInt8) (a n f : Int) : List C :=
  if n ≤ 60 ∧ f + n ≤ b.length ∧ hasAt b a (frameText v p ((b.drop f.toNat).take n.toNat)) = true then [.str ((b.drop f.toNat).take n.toNat), .int .i64 (a + (frameText v p ((b.drop f.toNat).take n.toNat)).length), .bool true] else failRF
theorem frameText_len (v p : Int) (r : List UInt8) : (frameText v p r).length ≤ 90 := by
  unfold frameText
  have h1 := sizedOf_len p r.length
  have h2 := varText_len r.length
  have h3 := fixOf_len (crcMore 0 r : Nat) 4
  split
  · rename_i h
    simp only [Bool.and_eq_true, decide_eq_true_eq] at h
    split <;> simp only [List.length_append] <;> omega
  · simp
theorem frameText_ne (v p : Int) (r : List UInt8) (hv : inB v 1 2 = true) (hp : inB p 0 1000000000 = true) (hr : r.length ≤ 60) : frameText v p r ≠ [] := by
  unfold frameText
  rw [hv, hp, decide_eq_true hr]
  intro h
  have h4 : (fixOf (crcMore 0 r : Nat) 4).length = 4 := by
    have hc := crcMore_lt 0 r (by omega)
    have hg := fix_good (crcMore 0 r) 4 (by omega) (by omega)
    rw [show ((4 : Nat) : Int) = 4 from rfl] at hg
    rw [hg, if_pos (by omega), leBytes_length]
  have := congrArg List.length h
  simp only [Bool.and_self, if_true, List.length_append, List.length_nil] at this
  omega
theorem frameText_bad (v p : Int) (r : List UInt8) (h : ¬ (inB v 1 2 = true ∧ inB p 0 1000000000 = true)) : frameText v p r = [] := by
  unfold frameText
  rw [if_neg]
  intro hh
  simp only [Bool.and_eq_true] at hh
  exact h hh.1
theorem sTail_eval (v p : Int) (b : List UInt8) (a n f : Int) (hb : b.length ≤ 281474976710656) (hn : 0 ≤ n) (hn2 : n ≤ 9223372036854775807) (hf : 0 ≤ f) (hf2 : f ≤ 1125899906842624) (ha : 0 ≤ a) (ha2 : a ≤ b.length) (hv : inB v 1 2 = true) (hp : inB p 0 1000000000 = true) :
    (sTail v p b a n f).eval = some (tailOut v p b a n f) := by
  unfold sTail tailOut
  by_cases h1 : 60 < n
  · have : ¬ n ≤ 60 := by omega
    simp [eval_must', eval_ask', eval_ret', h1, this]
  · have w1 : IntKind.i64.wrap ((b.length : Int) - n) = (b.length : Int) - n := by rw [wrap64] <;> omega
    have w2 : IntKind.i64.wrap (f + n) = f + n := by rw [wrap64] <;> omega
    have h1' : n ≤ 60 := by omega
    rw [w1, w2]
    by_cases h2 : (b.length : Int) - n < f
    · have : ¬ (f + n ≤ b.length) := by omega
      simp [eval_must', eval_ask', eval_ret', h1, h2, this]
    · have h2' : f + n ≤ b.length := by omega
      have hrec : List.drop f.toNat (List.take (f + n).toNat b) = (b.drop f.toNat).take n.toNat := by
        rw [List.take_drop]; congr 2; omega
      rw [hrec]
      have hl : ((b.drop f.toNat).take n.toNat).length ≤ 281474976710656 := by simp; omega
      have hl60 : ((b.drop f.toNat).take n.toNat).length ≤ 60 := by simp; omega
      generalize (b.drop f.toNat).take n.toNat = r at hl hl60
      have fl := frameText_len v p r
      have fne := frameText_ne v p r hv hp hl60
      generalize frameText v p r = t at fl fne
      have w3 : IntKind.i64.wrap ((b.length : Int) - a) = (b.length : Int) - a := by rw [wrap64] <;> omega
      have w4 : IntKind.i64.wrap (a + (t.length : Int)) = a + t.length := by rw [wrap64] <;> omega
      rw [w3, w4]
      have z1 : 0 ≤ f + n := by omega
      have z2 : f ≤ f + n := by omega
      by_cases h3 : (b.length : Int) - a < t.length
      · have : hasAt b a t = false := by
          cases hx : hasAt b a t with
          | true =>
            have hh := (hasAt_iff _ _ _).1 hx
            have hl := congrArg List.length hh.2.2
            simp at hl
            omega
          | false => rfl
        simp [eval_must', eval_ask', eval_ret', h1, h2, h2', hf, hl, h3, this, z1, z2, hn]
      · have z3 : 0 ≤ a + (t.length : Int) := by omega
        have z4 : a + (t.length : Int) ≤ b.length := by omega
        have z5 : a ≤ a + (t.length : Int) := by omega
        have ed : List.drop a.toNat (List.take (a + (t.length : Int)).toNat b) = (b.drop a.toNat).take t.length := by
          rw [List.take_drop]; congr 2; omega
        rw [ed]
        by_cases he : (b.drop a.toNat).take t.length = t
        · have hh : hasAt b a t = true := (hasAt_iff _ _ _).2 ⟨ha, ha2, he⟩
          simp [eval_must', eval_ask', eval_ret', h1, h1', h2, h2', hf, hl, h3, z1, z2, z3, z4, z5, hn, ha, he, hh]
        · have hh : hasAt b a t = false := by
            cases hx : hasAt b a t with
            | true => exact absurd ((hasAt_iff _ _ _).1 hx).2.2 he
            | false => rfl
          simp [eval_must', eval_ask', eval_ret', h1, h1', h2, h2', hf, hl, h3, z1, z2, z3, z4, z5, hn, ha, he, hh]
theorem iTail_eval (v p : Int) (b : List UInt8) (a n f : Int) (hb : b.length ≤ 281474976710656) (hn : 0 ≤ n) (hn2 : n ≤ 9223372036854775807) (hf : 0 ≤ f) (hf2 : f ≤ 1125899906842624) (ha2 : a ≤ 9223372036854775807) :
    (iTail v p b a n f).eval = some (if inB v 1 2 = true ∧ inB p 0 1000000000 = true then tailOut v p b a n f else failRF) := by
  unfold iTail tailOut
  by_cases h1 : 60 < n
  · have : ¬ n ≤ 60 := by omega
    simp [eval_must', eval_ask', eval_ret', h1, this]
  · have w2 : IntKind.i64.wrap (f + n) = f + n := by rw [wrap64] <;> omega
    have h1' : n ≤ 60 := by omega
    rw [w2]
    by_cases h2 : (b.length : Int) < f
    · have : ¬ (f + n ≤ b.length) := by omega
      simp [eval_must', eval_ask', eval_ret', h1, h2, this]
    · have w1 : IntKind.i64.wrap ((b.length : Int) - f) = (b.length : Int) - f := by rw [wrap64] <;> omega
      rw [w1]
      by_cases h3 : (b.length : Int) - f < n
      · have : ¬ (f + n ≤ b.length) := by omega
        simp [eval_must', eval_ask', eval_ret', h1, h2, h3, this]
      · have h2' : f + n ≤ b.length := by omega
        have hrec : List.drop f.toNat (List.take (f + n).toNat b) = (b.drop f.toNat).take n.toNat := by
          rw [List.take_drop]; congr 2; omega
        rw [hrec]
        have hl : ((b.drop f.toNat).take n.toNat).length ≤ 281474976710656 := by simp; omega
        have hl60 : ((b.drop f.toNat).take n.toNat).length ≤ 60 := by simp; omega
        generalize (b.drop f.toNat).take n.toNat = r at hl hl60
        have z1 : 0 ≤ f + n := by omega
        have z2 : f ≤ f + n := by omega
        by_cases hvp : inB v 1 2 = true ∧ inB p 0 1000000000 = true
        · have fl := frameText_len v p r
          have fne := frameText_ne v p r hvp.1 hvp.2 hl60
          rw [if_pos hvp]
          generalize frameText v p r = t at fl fne
          have fb : (t == ([] : List UInt8)) = false := by simpa using fne
          by_cases hh : hasAt b a t = true
          · have hx := (hasAt_iff _ _ _).1 hh
            have w4 : IntKind.i64.wrap (a + (t.length : Int)) = a + t.length := by rw [wrap64] <;> omega
            simp [eval_must', eval_ask', eval_ret', h1, h1', h2, h2', h3, hf, hl, z1, z2, hn, fb, hh, w4, fne]
          · simp [eval_must', eval_ask', eval_ret', h1, h1', h2, h2', h3, hf, hl, z1, z2, hn, fb, hh, fne]
        · rw [if_neg hvp, frameText_bad v p r hvp]
          simp [eval_must', eval_ask', eval_ret', h1, h1', h2, h2', h3, hf, hl, z1, z2, hn]
theorem rv_range (b : List UInt8) (a : Int) : 0 ≤ rvN b a ∧ rvN b a ≤ 1000000000 ∧ 0 ≤ rvEnd b a ∧ rvEnd b a ≤ b.length ∧ (rvOk b a = true → 0 ≤ a ∧ a ≤ b.length) := by
  have go : ∀ (fu k n : Nat) (q : Nat × Nat), rvGo b a.toNat fu k n = some q → q.1 ≤ 1000000000 ∧ q.2 ≤ b.length ∧ a.toNat ≤ b.length := by
    intro fu
    induction fu with
    | zero => intro k n q h; simp [rvGo] at h
    | succ fu ih =>
      intro k n q h
      simp only [rvGo] at h
      split at h
      · split at h
        · split at h
          · cases h
          · obtain rfl := Option.some.inj h
            simp only []
            omega
        · exact ih _ _ _ h
      · cases h
  unfold rvN rvEnd rvOk readVar
  by_cases ha : 0 ≤ a
  · rw [if_pos ha]
    cases hq : rvGo b a.toNat 5 0 0 with
    | none => simp
    | some q => have := go 5 0 0 q hq; simp; omega
  · rw [if_neg ha]; simp
theorem fix_range (b : List UInt8) (a w : Int) : 0 ≤ fixRead b a w ∧ fixRead b a w ≤ 9223372036854775807 ∧ (fixOk b a w = true → 0 ≤ a ∧ a ≤ b.length) := by
  unfold fixRead
  cases h : fixOk b a w with
  | true => have := (fixOk_iff _ _ _).1 h; simp; omega
  | false => simp
theorem rf_outs (v p : Int) (b : List UInt8) (a : Int) : [C.str (rfRec v p b a), C.int .i64 (rfEnd v p b a), C.bool (rfOk v p b a)] = if inB v 1 2 = true ∧ inB p 0 1000000000 = true ∧ rfHas v b a = true then tailOut v p b a (rfN v b a) (rfFrom v b a) else failRF := by
  unfold rfRec rfEnd rfOk tailOut rfText failRF
  generalize rfHas v b a = x
  generalize rfN v b a = n
  generalize rfFrom v b a = f
  generalize frameText v p ((b.drop f.toNat).take n.toNat) = t
  by_cases h1 : inB v 1 2 = true
  · by_cases h2 : inB p 0 1000000000 = true
    · cases x with
      | false => simp
      | true =>
        by_cases h3 : n ≤ 60 ∧ f + n ≤ b.length
        · by_cases h4 : hasAt b a t = true <;> simp [h1, h2, h3, h4]
        · have h3' : ¬ (n ≤ 60 ∧ f + n ≤ b.length ∧ hasAt b a t = true) := fun h => h3 ⟨h.1, h.2.1⟩
          rw [decide_eq_false h3, if_neg h3']
          simp
    · simp [h2]
  · simp [h1]
theorem lit_must {α : Type} (n : T α) : (T.must true n).eval = n.eval := rfl
theorem lit_yes {α : Type} (y n : T α) : (T.ask true y n).eval = y.eval := rfl
theorem lit_no {α : Type} (y n : T α) : (T.ask false y n).eval = n.eval := rfl
theorem sReadFrame_E : EnvSound Try.prog E_sReadFrame := mkE_sound (by simp [sIn_sound, sReadFix_sound, sReadVar_sound, sFrameText_sound])
theorem sReadFrame_sound : Sound Try.prog 166 (sg [pI, pI, pS, pI] [rS, rI, rB]) readFrameSpec := vBody_sound (depth := 0) sReadFrame_E Try.func166 (by kernel_rfl) fun cs outs hk h => by
  unfold readFrameSpec at h
  split at h
  · simp only [Option.some.injEq, Prod.mk.injEq, Bool.and_eq_true, decide_eq_true_eq] at h
    obtain ⟨⟨h1, h2, h3⟩, rfl⟩ := h
    rename_i v p b a
    rw [vBody_L, sReadFrame_tree, rf_outs]
    have pre : (decide (b.length ≤ 281474976710656) && (decide (-9223372036854775808 ≤ a) && decide (a ≤ 9223372036854775807))) = true := by simp [h1, h2, h3]
    obtain ⟨r1, r2, r3, r4, r5⟩ := rv_range b a
    obtain ⟨f1, f2, f3⟩ := fix_range b a 4
    have has_in : rfHas v b a = true → 0 ≤ a ∧ a ≤ b.length := by
      unfold rfHas; split
      · exact f3
      · exact r5
    cases hv : inB v 1 2 with
    | false => simp only [lit_must, lit_no, hv, Bool.false_eq_true, false_and, if_false]; rfl
    | true =>
      cases hp : inB p 0 1000000000 with
      | false => simp only [lit_must, lit_yes, lit_no, hv, hp, Bool.false_eq_true, and_false, false_and, if_false]; rfl
      | true =>
        cases ha : inB a 0 (b.length : Int) with
        | false =>
          have : ¬ rfHas v b a = true := fun h => by
            have := has_in h
            have := (in_iff a 0 (b.length : Int)).2 this
            rw [ha] at this; cases this
          simp only [lit_must, lit_yes, lit_no, hv, hp, ha, this, and_false, if_false]; rfl
        | true =>
          have ha' := (in_iff _ _ _).1 ha
          have w8 : IntKind.i64.wrap (a + 8) = a + 8 := by rw [wrap64] <;> omega
          have e1 := sTail_eval v p b a (fixRead b a 4) (a + 8) h1 f1 f2 (by omega) (by omega) ha'.1 ha'.2 hv hp
          have e2 := sTail_eval v p b a (rvN b a) (rvEnd b a) h1 r1 (by omega) r3 (by omega) ha'.1 ha'.2 hv hp
          by_cases hv2 : v = 2
          · have d2 : decide (v = 2) = true := decide_eq_true hv2
            have hh : rfHas v b a = fixOk b a 4 := by unfold rfHas; rw [if_pos hv2]
            have hn : rfN v b a = fixRead b a 4 := by unfold rfN; rw [if_pos hv2]
            have hf : rfFrom v b a = a + 8 := by unfold rfFrom; rw [if_pos hv2]
            rw [hh, hn, hf]
            cases hk1 : fixOk b a 4 with
            | false => cases hk2 : rvOk b a <;> (simp only [lit_must, lit_yes, lit_no, hv, hp, ha, pre, d2, hk1, hk2, Bool.false_eq_true, if_false, and_false]; rfl)
            | true => cases hk2 : rvOk b a <;> (simp only [lit_must, lit_yes, lit_no, hv, hp, ha, pre, d2, hk1, hk2, w8, true_and, and_self, if_true]; exact e1)
          · have d2 : decide (v = 2) = false := decide_eq_false hv2
            have hh : rfHas v b a = rvOk b a := by unfold rfHas; rw [if_neg hv2]
            have hn : rfN v b a = rvN b a := by unfold rfN; rw [if_neg hv2]
            have hf : rfFrom v b a = rvEnd b a := by unfold rfFrom; rw [if_neg hv2]
            rw [hh, hn, hf]
            cases hk2 : rvOk b a with
            | false => simp only [lit_must, lit_yes, lit_no, hv, hp, ha, pre, hk2, Bool.false_eq_true, if_false, and_false]; first | rfl | (cases hk1 : fixOk b a 4 <;> simp only [lit_must, lit_yes, lit_no, d2] <;> rfl)
            | true => simp only [lit_must, lit_yes, lit_no, hv, hp, ha, pre, d2, hk2, true_and, and_self, if_true]; exact e2
  · cases h
theorem iReadFrame_E : EnvSound Try.prog E_iReadFrame := mkE_sound (by simp [iReadFix_sound, iReadVar_sound, iHasAt_sound, iFrameText_sound])
theorem iReadFrame_sound : Sound Try.prog 62 (sg [pI, pI, pS, pI] [rS, rI, rB]) readFrameSpec := vBody_sound (depth := 0) iReadFrame_E Try.func62 (by kernel_rfl) fun cs outs hk h => by
  unfold readFrameSpec at h
  split at h
  · simp only [Option.some.injEq, Prod.mk.injEq, Bool.and_eq_true, decide_eq_true_eq] at h
    obtain ⟨⟨h1, h2, h3⟩, rfl⟩ := h
    rename_i v p b a
    rw [vBody_L, iReadFrame_tree, rf_outs]
    have pre : (decide (b.length ≤ 281474976710656) && (decide (-9223372036854775808 ≤ a) && decide (a ≤ 9223372036854775807))) = true := by simp [h1, h2, h3]
    obtain ⟨r1, r2, r3, r4, r5⟩ := rv_range b a
    obtain ⟨f1, f2, f3⟩ := fix_range b a 4
    by_cases hv2 : v = 2
    · have d2 : decide (v = 2) = true := decide_eq_true hv2
      have hh : rfHas v b a = fixOk b a 4 := by unfold rfHas; rw [if_pos hv2]
      have hn : rfN v b a = fixRead b a 4 := by unfold rfN; rw [if_pos hv2]
      have hf : rfFrom v b a = a + 8 := by unfold rfFrom; rw [if_pos hv2]
      rw [hh, hn, hf]
      cases hk1 : fixOk b a 4 with
      | false => simp only [lit_must, lit_yes, lit_no, pre, d2, hk1, Bool.false_eq_true, and_false, if_false]; rfl
      | true =>
        have ha := f3 hk1
        have w8 : IntKind.i64.wrap (a + 8) = a + 8 := by rw [wrap64] <;> omega
        have e1 := iTail_eval v p b a (fixRead b a 4) (a + 8) h1 f1 f2 (by omega) (by omega) h3
        simp only [lit_must, lit_yes, lit_no, pre, d2, hk1, w8, and_true]
        exact e1
    · have d2 : decide (v = 2) = false := decide_eq_false hv2
      have hh : rfHas v b a = rvOk b a := by unfold rfHas; rw [if_neg hv2]
      have hn : rfN v b a = rvN b a := by unfold rfN; rw [if_neg hv2]
      have hf : rfFrom v b a = rvEnd b a := by unfold rfFrom; rw [if_neg hv2]
      rw [hh, hn, hf]
      cases hk1 : rvOk b a with
      | false => simp only [lit_must, lit_yes, lit_no, pre, d2, hk1, Bool.false_eq_true, and_false, if_false]; rfl
      | true =>
        have e1 := iTail_eval v p b a (rvN b a) (rvEnd b a) h1 r1 (by omega) r3 (by omega) h3
        simp only [lit_must, lit_yes, lit_no, pre, d2, hk1, and_true]
        exact e1
  · cases h

end Go.Proofs.Ythpamcbipmkimaa.V

namespace Go.Proofs.Ythpamcbipmkimaa.V
noncomputable section

def rScan : RTy := ⟨true, [(.bool, false), (.int .i64, false), (.int .i64, false), (.int .i64, false), (.int .i64, false), (.slice 9, true), (.slice 3, true), (.int .i64, false), (.bool, false)]⟩
/-- scan on from a place: the frames' records and places, the end, is there a mark -/
def scanGo (v p : Int) (b : List UInt8) : Nat → Int → Int → List (List UInt8) → List Int → (List (List UInt8) × List Int × Int × Bool)
  | 0, _, e, rs, os => (rs, os, e, false)
  | f + 1, k, e, rs, os => if markAt v (p + k) b e then (rs, os, e, true) else if rfOk v (p + k) b e then scanGo v p b f (k + 1) (rfEnd v (p + k) b e) (rs ++ [rfRec v (p + k) b e]) (os ++ [e]) else (rs, os, e, false)
def scanOf (b : List UInt8) : List (List UInt8) × List Int × Int × Bool := if readHeadOk b then scanGo (rhV b) (rhB b) b (b.length + 1) 0 24 [] [] else ([], [], 0, false)
def scRecs (b : List UInt8) : List (List UInt8) := (scanOf b).1
def scOffs (b : List UInt8) : List Int := (scanOf b).2.1
def scEnd (b : List UInt8) : Int := (scanOf b).2.2.1
def scMark (b : List UInt8) : Bool := (scanOf b).2.2.2
def scanSpec : Spec := fun cs => match cs with
  | [.str b] => some (decide (b.length ≤ 1048576), [.bool (readHeadOk b), .int .i64 (ifI (readHeadOk b) (rhV b)), .int .i64 (ifI (readHeadOk b) (rhS b)), .int .i64 (ifI (readHeadOk b) (rhB b)), .int .i64 (ifI (readHeadOk b) (rhL b)), .sl ((scRecs b).map eStr), .sl ((scOffs b).map eInt), .int .i64 (scEnd b), .bool (scMark b)])
  | _ => none
def H_sScanTexta (b : List UInt8) (v s bb l e : Int) : St := { slots := [(0, wstr b), (2, .l (.ptr 0 0)), (3, .l (.ptr 1 0)), (5, .l (.ptr 2 0))], heap := [(0, .box [.b false, .i .i64 0, .i .i64 0, .i .i64 0, .i .i64 0, .nil, .nil, .i .i64 0, .b false]), (1, .box [.i .i64 v, .i .i64 s, .i .i64 bb, .i .i64 l]), (2, .box [.b true, .i .i64 v, .i .i64 s, .i .i64 bb, .i .i64 l, .nil, .nil, .i .i64 e, .b false])], next := 3, pins := [] }
def H_sScanTextb (b : List UInt8) (v s bb l e : Int) (n : Nat) (r : List (List C)) (m : Nat) (o : List (List C)) : St := { slots := [(0, wstr b), (2, .l (.ptr 0 0)), (3, .l (.ptr 1 0)), (5, .l (.ptr 2 0))], heap := [(0, .box [.b false, .i .i64 0, .i .i64 0, .i .i64 0, .i .i64 0, .nil, .nil, .i .i64 0, .b false]), (1, .box [.i .i64 v, .i .i64 s, .i .i64 bb, .i .i64 l]), (2, .box [.b true, .i .i64 v, .i .i64 s, .i .i64 bb, .i .i64 l, .ref 3 0 n, .ref 4 0 m, .i .i64 e, .b false]), (3, .arr 1 r), (4, .arr 1 o)], next := 5, pins := [] }
def H_iScanTexta (b : List UInt8) (v s bb l e : Int) : St := { slots := [(0, wstr b), (2, .l (.ptr 0 0)), (3, .l (.ptr 1 0)), (5, .l (.ptr 2 0))], heap := [(0, .box [.b false, .i .i64 0, .i .i64 0, .i .i64 0, .i .i64 0, .nil, .nil, .i .i64 0, .b false]), (1, .box [.i .i64 v, .i .i64 s, .i .i64 bb, .i .i64 l]), (2, .box [.b true, .i .i64 v, .i .i64 s, .i .i64 bb, .i .i64 l, .nil, .nil, .i .i64 e, .b false])], next := 3, pins := [] }
def H_iScanTextb (b : List UInt8) (v s bb l e : Int) (n : Nat) (r : List (List C)) (m : Nat) (o : List (List C)) : St := { slots := [(0, wstr b), (2, .l (.ptr 0 0)), (3, .l (.ptr 1 0)), (5, .l (.ptr 2 0))], heap := [(0, .box [.b false, .i .i64 0, .i .i64 0, .i .i64 0, .i .i64 0, .nil, .nil, .i .i64 0, .b false]), (1, .box [.i .i64 v, .i .i64 s, .i .i64 bb, .i .i64 l]), (2, .box [.b true, .i .i64 v, .i .i64 s, .i .i64 bb, .i .i64 l, .ref 3 0 n, .ref 4 0 m, .i .i64 e, .b false]), (3, .arr 1 r), (4, .arr 1 o)], next := 5, pins := [] }
def E_sScanText : Env := mkE [(5, [0, 2, 3, 5])] [(71, (sg [pS] [rHead, rB]), readHeadSpec), (165, (sg [pI, pI, pS, pI] [rB]), markAtSpec), (166, (sg [pI, pI, pS, pI] [rS, rI, rB]), readFrameSpec)]
def E_iScanText : Env := mkE [(5, [0, 2, 3, 5])] [(70, (sg [pS] [rHead, rB]), readHeadSpec), (59, (sg [pI, pI, pS, pI] [rB]), markAtSpec), (62, (sg [pI, pI, pS, pI] [rS, rI, rB]), readFrameSpec)]

end
end Go.Proofs.Ythpamcbipmkimaa.V

namespace Go.Proofs.Ythpamcbipmkimaa.V
set_option maxRecDepth 100000
theorem sScanText_tree (H : List Pt → Nat → St → T (List C)) (b : List UInt8) : vBodyL E_sScanText (0 : Nat) (sg [pS] [rScan]) Try.f141 H [C.str b] =
 (.must true
 (.must true
  (.must (decide (b.length ≤ (281474976710656 : Nat)))
   (.must true
    (.ask (readHeadOk b)
     (H [Pt.r, Pt.r, Pt.r, Pt.r, Pt.b] (9223372036854775808 : Nat) (H_sScanTexta (b) (ifI (readHeadOk b) (rhV b)) (ifI (readHeadOk b) (rhS b)) (ifI (readHeadOk b) (rhB b)) (ifI (readHeadOk b) (rhL b)) ((24 : Int))))
     (.must true
      (.ret [C.bool false, C.int IntKind.i64 (0 : Int), C.int IntKind.i64 (0 : Int), C.int IntKind.i64 (0 : Int),
  C.int IntKind.i64 (0 : Int), C.sl [], C.sl [], C.int IntKind.i64 (0 : Int), C.bool false]))))))) := by kernel_rfl
theorem iScanText_tree (H : List Pt → Nat → St → T (List C)) (b : List UInt8) : vBodyL E_iScanText (0 : Nat) (sg [pS] [rScan]) Try.f142 H [C.str b] =
 (.must true
 (.must true
  (.must (decide (b.length ≤ (281474976710656 : Nat)))
   (.must true
    (.ask (readHeadOk b)
     (H [Pt.r, Pt.r, Pt.r, Pt.r, Pt.b] (9223372036854775808 : Nat) (H_iScanTexta (b) (ifI (readHeadOk b) (rhV b)) (ifI (readHeadOk b) (rhS b)) (ifI (readHeadOk b) (rhB b)) (ifI (readHeadOk b) (rhL b)) ((24 : Int))))
     (.must true
      (.ret [C.bool false, C.int IntKind.i64 (0 : Int), C.int IntKind.i64 (0 : Int), C.int IntKind.i64 (0 : Int),
  C.int IntKind.i64 (0 : Int), C.sl [], C.sl [], C.int IntKind.i64 (0 : Int), C.bool false]))))))) := by kernel_rfl
theorem sScanText_round0a (H : List Pt → Nat → St → T (List C)) (b : List UInt8) (v : Int) (s : Int) (q : Int) (l : Int) (e : Int) (k : Nat) : vRound E_sScanText (0 : Nat) (sg [pS] [rScan]) Try.f141 H [Pt.r, Pt.r, Pt.r, Pt.r, Pt.b] k (H_sScanTexta b v s q l e) =
 (.must true
 (.must (decide (b.length ≤ (281474976710656 : Nat)))
  (.must true
   (.ask (markAt v (IntKind.i64.wrap (q + (0 : Int))) b e)
    (.must true
     (.ret [C.bool true, C.int IntKind.i64 v, C.int IntKind.i64 s, C.int IntKind.i64 q, C.int IntKind.i64 l, C.sl [], C.sl [],
  C.int IntKind.i64 e, C.bool true]))
    (.must true
     (.must (decide (b.length ≤ (281474976710656 : Nat)) &&
  (decide ((-9223372036854775808 : Int) ≤ e) && decide (e ≤ (9223372036854775807 : Int))))
      (.must true
       (.ask (rfOk v (IntKind.i64.wrap (q + (0 : Int))) b e)
        (.must true
         (.must true
          (H [Pt.r, Pt.r, Pt.r, Pt.r, Pt.b] k (H_sScanTextb (b) (v) (s) (q) (l) (rfEnd v (IntKind.i64.wrap (q + (0 : Int))) b e) ((1 : Nat)) ([[C.str (rfRec v (IntKind.i64.wrap (q + (0 : Int))) b e)]]) ((1 : Nat)) ([[C.int IntKind.i64 e]])))))
        (.must true
         (.ret [C.bool true, C.int IntKind.i64 v, C.int IntKind.i64 s, C.int IntKind.i64 q, C.int IntKind.i64 l, C.sl [], C.sl [],
  C.int IntKind.i64 e, C.bool false])))))))))) := by kernel_rfl
theorem iScanText_round0a (H : List Pt → Nat → St → T (List C)) (b : List UInt8) (v : Int) (s : Int) (q : Int) (l : Int) (e : Int) (k : Nat) : vRound E_iScanText (0 : Nat) (sg [pS] [rScan]) Try.f142 H [Pt.r, Pt.r, Pt.r, Pt.r, Pt.b] k (H_iScanTexta b v s q l e) =
 (.must true
 (.must (decide (b.length ≤ (281474976710656 : Nat)))
  (.must true
   (.ask (markAt v (IntKind.i64.wrap (q + (0 : Int))) b e)
    (.must true
     (.ret [C.bool true, C.int IntKind.i64 v, C.int IntKind.i64 s, C.int IntKind.i64 q, C.int IntKind.i64 l, C.sl [], C.sl [],
  C.int IntKind.i64 e, C.bool true]))
    (.must true
     (.must (decide (b.length ≤ (281474976710656 : Nat)) &&
  (decide ((-9223372036854775808 : Int) ≤ e) && decide (e ≤ (9223372036854775807 : Int))))
      (.must true
       (.ask (rfOk v (IntKind.i64.wrap (q + (0 : Int))) b e)
        (.must true
         (.must true
          (H [Pt.r, Pt.r, Pt.r, Pt.r, Pt.b] k (H_iScanTextb (b) (v) (s) (q) (l) (rfEnd v (IntKind.i64.wrap (q + (0 : Int))) b e) ((1 : Nat)) ([[C.str (rfRec v (IntKind.i64.wrap (q + (0 : Int))) b e)]]) ((1 : Nat)) ([[C.int IntKind.i64 e]])))))
        (.must true
         (.ret [C.bool true, C.int IntKind.i64 v, C.int IntKind.i64 s, C.int IntKind.i64 q, C.int IntKind.i64 l, C.sl [], C.sl [],
  C.int IntKind.i64 e, C.bool false])))))))))) := by kernel_rfl
theorem sScanText_round0b (H : List Pt → Nat → St → T (List C)) (b : List UInt8) (v : Int) (s : Int) (q : Int) (l : Int) (e : Int) (n : Nat) (r : List (List C)) (n2 : Nat) (o : List (List C)) (k : Nat) : vRound E_sScanText (0 : Nat) (sg [pS] [rScan]) Try.f141 H [Pt.r, Pt.r, Pt.r, Pt.r, Pt.b] k
  (H_sScanTextb b v s q l e n r n2 o) =
 (.must true
 (.must (decide (b.length ≤ (281474976710656 : Nat)))
  (.must true
   (.ask (markAt v (IntKind.i64.wrap (q + (↑n : Int))) b e)
    (.must (true && (false || true) &&
      (true && (false || true) &&
        (true && (false || true) &&
          (true && (false || true) &&
            (true && (false || true) &&
              (decide (n = r.length) && (false || r.all fun r => r.all C.flat) &&
                (decide (n2 = o.length) && (false || o.all fun r => r.all C.flat) &&
                  (true && (false || true) && (true && (false || true) && true)))))))) &&
    true &&
  true)
     (.ret [C.bool true, C.int IntKind.i64 v, C.int IntKind.i64 s, C.int IntKind.i64 q, C.int IntKind.i64 l, C.sl r, C.sl o,
  C.int IntKind.i64 e, C.bool true]))
    (.must true
     (.must (decide (b.length ≤ (281474976710656 : Nat)) &&
  (decide ((-9223372036854775808 : Int) ≤ e) && decide (e ≤ (9223372036854775807 : Int))))
      (.must true
       (.ask (rfOk v (IntKind.i64.wrap (q + (↑n : Int))) b e)
        (.must (decide (n = r.length) && roomy (r.length + (1 : Nat)) (16 : Nat) && (decide ((1 : Nat) = (1 : Nat)) && true))
         (.must (decide (n2 = o.length) && roomy (o.length + (1 : Nat)) (8 : Nat) && (decide ((1 : Nat) = (1 : Nat)) && true))
          (H [Pt.r, Pt.r, Pt.r, Pt.r, Pt.b] k (H_sScanTextb (b) (v) (s) (q) (l) (rfEnd v (IntKind.i64.wrap (q + (↑n : Int))) b e) (r.length + (1 : Nat)) (r.append [[C.str (rfRec v (IntKind.i64.wrap (q + (↑n : Int))) b e)]]) (o.length + (1 : Nat)) (o.append [[C.int IntKind.i64 e]])))))
        (.must (true && (false || true) &&
      (true && (false || true) &&
        (true && (false || true) &&
          (true && (false || true) &&
            (true && (false || true) &&
              (decide (n = r.length) && (false || r.all fun r => r.all C.flat) &&
                (decide (n2 = o.length) && (false || o.all fun r => r.all C.flat) &&
                  (true && (false || true) && (true && (false || true) && true)))))))) &&
    true &&
  true)
         (.ret [C.bool true, C.int IntKind.i64 v, C.int IntKind.i64 s, C.int IntKind.i64 q, C.int IntKind.i64 l, C.sl r, C.sl o,
  C.int IntKind.i64 e, C.bool false])))))))))) := by kernel_rfl
theorem iScanText_round0b (H : List Pt → Nat → St → T (List C)) (b : List UInt8) (v : Int) (s : Int) (q : Int) (l : Int) (e : Int) (n : Nat) (r : List (List C)) (n2 : Nat) (o : List (List C)) (k : Nat) : vRound E_iScanText (0 : Nat) (sg [pS] [rScan]) Try.f142 H [Pt.r, Pt.r, Pt.r, Pt.r, Pt.b] k
  (H_iScanTextb b v s q l e n r n2 o) =
 (.must true
 (.must (decide (b.length ≤ (281474976710656 : Nat)))
  (.must true
   (.ask (markAt v (IntKind.i64.wrap (q + (↑n : Int))) b e)
    (.must (true && (false || true) &&
      (true && (false || true) &&
        (true && (false || true) &&
          (true && (false || true) &&
            (true && (false || true) &&
              (decide (n = r.length) && (false || r.all fun r => r.all C.flat) &&
                (decide (n2 = o.length) && (false || o.all fun r => r.all C.flat) &&
                  (true && (false || true) && (true && (false || true) && true)))))))) &&
    true &&
  true)
     (.ret [C.bool true, C.int IntKind.i64 v, C.int IntKind.i64 s, C.int IntKind.i64 q, C.int IntKind.i64 l, C.sl r, C.sl o,
  C.int IntKind.i64 e, C.bool true]))
    (.must true
     (.must (decide (b.length ≤ (281474976710656 : Nat)) &&
  (decide ((-9223372036854775808 : Int) ≤ e) && decide (e ≤ (9223372036854775807 : Int))))
      (.must true
       (.ask (rfOk v (IntKind.i64.wrap (q + (↑n : Int))) b e)
        (.must (decide (n = r.length) && roomy (r.length + (1 : Nat)) (16 : Nat) && (decide ((1 : Nat) = (1 : Nat)) && true))
         (.must (decide (n2 = o.length) && roomy (o.length + (1 : Nat)) (8 : Nat) && (decide ((1 : Nat) = (1 : Nat)) && true))
          (H [Pt.r, Pt.r, Pt.r, Pt.r, Pt.b] k (H_iScanTextb (b) (v) (s) (q) (l) (rfEnd v (IntKind.i64.wrap (q + (↑n : Int))) b e) (r.length + (1 : Nat)) (r.append [[C.str (rfRec v (IntKind.i64.wrap (q + (↑n : Int))) b e)]]) (o.length + (1 : Nat)) (o.append [[C.int IntKind.i64 e]])))))
        (.must (true && (false || true) &&
      (true && (false || true) &&
        (true && (false || true) &&
          (true && (false || true) &&
            (true && (false || true) &&
              (decide (n = r.length) && (false || r.all fun r => r.all C.flat) &&
                (decide (n2 = o.length) && (false || o.all fun r => r.all C.flat) &&
                  (true && (false || true) && (true && (false || true) && true)))))))) &&
    true &&
  true)
         (.ret [C.bool true, C.int IntKind.i64 v, C.int IntKind.i64 s, C.int IntKind.i64 q, C.int IntKind.i64 l, C.sl r, C.sl o,
  C.int IntKind.i64 e, C.bool false])))))))))) := by kernel_rfl
end Go.Proofs.Ythpamcbipmkimaa.V

namespace Go.Proofs.Ythpamcbipmkimaa.V

def scOut (v s q l : Int) (x : List (List UInt8) × List Int × Int × Bool) : List C := [.bool true, .int .i64 v, .int .i64 s, .int .i64 q, .int .i64 l, .sl (x.1.map eStr), .sl (x.2.1.map eInt), .int .i64 x.2.2.1, .bool x.2.2.2]
theorem rfOk_end (v p : Int) (b : List UInt8) (a : Int) (h : rfOk v p b a = true) : a + 1 ≤ rfEnd v p b a ∧ rfEnd v p b a ≤ b.length ∧ 0 ≤ a := by
  unfold rfEnd
  rw [if_pos h]
  unfold rfOk at h
  simp only [Bool.and_eq_true, decide_eq_true_eq] at h
  obtain ⟨⟨⟨⟨hv, hp⟩, hh⟩, hn1, hn2⟩, ha⟩ := h
  have hl : (rfText v b a).length ≤ 60 := by unfold rfText; simp; omega
  have hne := frameText_ne v p (rfText v b a) hv hp hl
  obtain ⟨h1, h2, h3⟩ := (hasAt_iff _ _ _).1 ha
  generalize frameText v p (rfText v b a) = t at hne h3
  have hpos : 0 < t.length := List.length_pos_iff.2 hne
  have := congrArg List.length h3
  simp at this
  omega
theorem app_str (rs : List (List UInt8)) (x : List UInt8) : (rs.map eStr).append [[C.str x]] = (rs ++ [x]).map eStr := by simp
theorem app_int (rs : List Int) (x : Int) : (rs.map eInt).append [[C.int .i64 x]] = (rs ++ [x]).map eInt := by simp
theorem sScanText_loopb (b : List UInt8) (v s q l : Int) (hb : b.length ≤ 1048576) (hq : 0 ≤ q ∧ q ≤ 1000000000) : ∀ (n f : Nat) (e : Int) (rs : List (List UInt8)) (os : List Int), 0 ≤ e → e ≤ b.length → (b.length : Int) < e + n → (b.length : Int) < e + f → rs.length = os.length → (rs.length : Int) ≤ e →
    (vLoop E_sScanText 0 (sg [pS] [rScan]) Try.f141 [.r, .r, .r, .r, .b] n (H_sScanTextb b v s q l e rs.length (rs.map eStr) os.length (os.map eInt))).eval = some (scOut v s q l (scanGo v q b f rs.length e rs os)) := by
  intro n
  induction n with
  | zero => intro f e rs os h0 h1 h2 h3 h4 h5; omega
  | succ n ih =>
    intro f e rs os h0 h1 h2 h3 h4 h5
    obtain ⟨f, rfl⟩ : ∃ g, f = g + 1 := ⟨f - 1, by omega⟩
    rw [vLoop_L _ _ _ _ _ _ _ (by kernel_rfl), sScanText_round0b]
    have w : IntKind.i64.wrap (q + (rs.length : Int)) = q + (rs.length : Int) := by rw [wrap64] <;> omega
    have pre1 : decide (b.length ≤ 281474976710656) = true := decide_eq_true (by omega)
    have pre2 : (decide ((-9223372036854775808 : Int) ≤ e) && decide (e ≤ (9223372036854775807 : Int))) = true := by simp; omega
    have ro1 : roomy (rs.length + 1) 16 = true := by simp only [roomy, decide_eq_true_eq]; omega
    have ro2 : roomy (os.length + 1) 8 = true := by simp only [roomy, decide_eq_true_eq]; omega
    have fl1 := flat_strs rs
    have fl2 := flat_ints os
    rw [w]
    simp only [scanGo]
    cases hm : markAt v (q + (rs.length : Int)) b e with
    | true =>
      simp only [lit_must, lit_yes, pre1, hm, eval_must', eval_ret', List.length_map, decide_true, fl1, fl2, Bool.false_or, Bool.or_true, Bool.and_self, if_true]
      rfl
    | false =>
      cases ho : rfOk v (q + (rs.length : Int)) b e with
      | true =>
        obtain ⟨g1, g2, g3⟩ := rfOk_end _ _ _ _ ho
        have e1 := ih f (rfEnd v (q + (rs.length : Int)) b e) (rs ++ [rfRec v (q + (rs.length : Int)) b e]) (os ++ [e]) (by omega) g2 (by omega) (by omega) (by simp; omega) (by simp; omega)
        simp only [lit_must, lit_yes, lit_no, pre1, pre2, hm, ho, eval_must', List.length_map, decide_true, ro1, ro2, Bool.and_self, Bool.and_true, if_true, app_str, app_int, Bool.false_eq_true, if_false]
        simp only [List.length_append, List.length_cons, List.length_nil, Nat.zero_add, Int.natCast_add, Int.natCast_one] at e1 ⊢
        exact e1
      | false =>
        simp only [lit_must, lit_yes, lit_no, pre1, pre2, hm, ho, eval_must', eval_ret', List.length_map, decide_true, fl1, fl2, Bool.false_or, Bool.or_true, Bool.and_self, if_true, Bool.false_eq_true, if_false]
        rfl
theorem sScanText_loopa (b : List UInt8) (v s q l : Int) (hb : b.length ≤ 1048576) (h24 : 24 ≤ b.length) (hq : 0 ≤ q ∧ q ≤ 1000000000) (n : Nat) (hn : b.length < n) :
    (vLoop E_sScanText 0 (sg [pS] [rScan]) Try.f141 [.r, .r, .r, .r, .b] (n + 1) (H_sScanTexta b v s q l 24)).eval = some (scOut v s q l (scanGo v q b (b.length + 1) 0 24 [] [])) := by
  rw [vLoop_L _ _ _ _ _ _ _ (by kernel_rfl), sScanText_round0a]
  have w : IntKind.i64.wrap (q + 0) = q + 0 := by rw [wrap64] <;> omega
  have pre1 : decide (b.length ≤ 281474976710656) = true := decide_eq_true (by omega)
  have pre2 : (decide ((-9223372036854775808 : Int) ≤ 24) && decide ((24 : Int) ≤ (9223372036854775807 : Int))) = true := by decide
  rw [w]
  simp only [scanGo]
  cases hm : markAt v (q + 0) b 24 with
  | true =>
    simp only [lit_must, lit_yes, pre1, hm, eval_must', eval_ret', if_true]
    rfl
  | false =>
    cases ho : rfOk v (q + 0) b 24 with
    | true =>
      obtain ⟨g1, g2, g3⟩ := rfOk_end _ _ _ _ ho
      have e1 := sScanText_loopb b v s q l hb hq n b.length (rfEnd v (q + 0) b 24) [rfRec v (q + 0) b 24] [24] (by omega) g2 (by omega) (by omega) rfl (by show (1 : Int) ≤ _; omega)
      simp only [lit_must, lit_yes, lit_no, pre1, pre2, hm, ho, Bool.and_self, Bool.false_eq_true, if_false, if_true, List.nil_append]
      exact e1
    | false =>
      simp only [lit_must, lit_yes, lit_no, pre1, pre2, hm, ho, eval_must', eval_ret', if_true, Bool.and_self, Bool.false_eq_true, if_false]
      rfl
theorem sScanText_E : EnvSound Try.prog E_sScanText := mkE_sound (by simp [sReadHead_sound, sMarkAt_sound, sReadFrame_sound])
theorem sScanText_sound : Sound Try.prog 141 (sg [pS] [rScan]) scanSpec := vBody_sound (depth := 0) sScanText_E Try.func141 (by kernel_rfl) fun cs outs hk h => by
  unfold scanSpec at h
  split at h
  · simp only [Option.some.injEq, Prod.mk.injEq, decide_eq_true_eq] at h
    obtain ⟨h1, rfl⟩ := h
    rename_i b
    rw [vBody_L, sScanText_tree]
    have pre1 : decide (b.length ≤ 281474976710656) = true := decide_eq_true (by omega)
    cases hr : readHeadOk b with
    | false =>
      have e1 : scanOf b = ([], [], 0, false) := by unfold scanOf; rw [hr]; rfl
      simp only [lit_must, lit_yes, lit_no, pre1, hr, eval_must', eval_ret', if_true, scRecs, scOffs, scEnd, scMark, e1, ifI, Bool.false_eq_true, if_false]
      rfl
    | true =>
      have h24 : 24 ≤ b.length ∧ fixOk b 8 8 = true ∧ headText (rhV b) (rhS b) (rhB b) (rhL b) = b.take 24 := by
        unfold readHeadOk at hr
        simpa [and_assoc] using hr
      have hq : 0 ≤ rhB b ∧ rhB b ≤ 1000000000 := by
        have ht := h24.2.2
        cases hk : headOk (rhV b) (rhS b) (rhB b) (rhL b) with
        | true => have := (headOk_iff _ _ _ _).1 hk; exact this.2.2.1
        | false =>
          unfold headText at ht
          rw [hk] at ht
          have := congrArg List.length ht
          simp at this
          omega
      have e1 : scanOf b = scanGo (rhV b) (rhB b) b (b.length + 1) 0 24 [] [] := by unfold scanOf; rw [hr]; rfl
      have lp := sScanText_loopa b (rhV b) (rhS b) (rhB b) (rhL b) h1 h24.1 hq 9223372036854775807 (by omega)
      rw [← e1] at lp
      simp only [lit_must, lit_yes, lit_no, pre1, hr, ifI, if_true]
      exact lp
  · cases h
theorem iScanText_loopb (b : List UInt8) (v s q l : Int) (hb : b.length ≤ 1048576) (hq : 0 ≤ q ∧ q ≤ 1000000000) : ∀ (n f : Nat) (e : Int) (rs : List (List UInt8)) (os : List Int), 0 ≤ e → e ≤ b.length → (b.length : Int) < e + n → (b.length : Int) < e + f → rs.length = os.length → (rs.length : Int) ≤ e →
    (vLoop E_iScanText 0 (sg [pS] [rScan]) Try.f142 [.r, .r, .r, .r, .b] n (H_iScanTextb b v s q l e rs.length (rs.map eStr) os.length (os.map eInt))).eval = some (scOut v s q l (scanGo v q b f rs.length e rs os)) := by
  intro n
  induction n with
  | zero => intro f e rs os h0 h1 h2 h3 h4 h5; omega
  | succ n ih =>
    intro f e rs os h0 h1 h2 h3 h4 h5
    obtain ⟨f, rfl⟩ : ∃ g, f = g + 1 := ⟨f - 1, by omega⟩
    rw [vLoop_L _ _ _ _ _ _ _ (by kernel_rfl), iScanText_round0b]
    have w : IntKind.i64.wrap (q + (rs.length : Int)) = q + (rs.length : Int) := by rw [wrap64] <;> omega
    have pre1 : decide (b.length ≤ 281474976710656) = true := decide_eq_true (by omega)
    have pre2 : (decide ((-9223372036854775808 : Int) ≤ e) && decide (e ≤ (9223372036854775807 : Int))) = true := by simp; omega
    have ro1 : roomy (rs.length + 1) 16 = true := by simp only [roomy, decide_eq_true_eq]; omega
    have ro2 : roomy (os.length + 1) 8 = true := by simp only [roomy, decide_eq_true_eq]; omega
    have fl1 := flat_strs rs
    have fl2 := flat_ints os
    rw [w]
    simp only [scanGo]
    cases hm : markAt v (q + (rs.length : Int)) b e with
    | true =>
      simp only [lit_must, lit_yes, pre1, hm, eval_must', eval_ret', List.length_map, decide_true, fl1, fl2, Bool.false_or, Bool.or_true, Bool.and_self, if_true]
      rfl
    | false =>
      cases ho : rfOk v (q + (rs.length : Int)) b e with
      | true =>
        obtain ⟨g1, g2, g3⟩ := rfOk_end _ _ _ _ ho
        have e1 := ih f (rfEnd v (q + (rs.length : Int)) b e) (rs ++ [rfRec v (q + (rs.length : Int)) b e]) (os ++ [e]) (by omega) g2 (by omega) (by omega) (by simp; omega) (by simp; omega)
        simp only [lit_must, lit_yes, lit_no, pre1, pre2, hm, ho, eval_must', List.length_map, decide_true, ro1, ro2, Bool.and_self, Bool.and_true, if_true, app_str, app_int, Bool.false_eq_true, if_false]
        simp only [List.length_append, List.length_cons, List.length_nil, Nat.zero_add, Int.natCast_add, Int.natCast_one] at e1 ⊢
        exact e1
      | false =>
        simp only [lit_must, lit_yes, lit_no, pre1, pre2, hm, ho, eval_must', eval_ret', List.length_map, decide_true, fl1, fl2, Bool.false_or, Bool.or_true, Bool.and_self, if_true, Bool.false_eq_true, if_false]
        rfl
theorem iScanText_loopa (b : List UInt8) (v s q l : Int) (hb : b.length ≤ 1048576) (h24 : 24 ≤ b.length) (hq : 0 ≤ q ∧ q ≤ 1000000000) (n : Nat) (hn : b.length < n) :
    (vLoop E_iScanText 0 (sg [pS] [rScan]) Try.f142 [.r, .r, .r, .r, .b] (n + 1) (H_iScanTexta b v s q l 24)).eval = some (scOut v s q l (scanGo v q b (b.length + 1) 0 24 [] [])) := by
  rw [vLoop_L _ _ _ _ _ _ _ (by kernel_rfl), iScanText_round0a]
  have w : IntKind.i64.wrap (q + 0) = q + 0 := by rw [wrap64] <;> omega
  have pre1 : decide (b.length ≤ 281474976710656) = true := decide_eq_true (by omega)
  have pre2 : (decide ((-9223372036854775808 : Int) ≤ 24) && decide ((24 : Int) ≤ (9223372036854775807 : Int))) = true := by decide
  rw [w]
  simp only [scanGo]
  cases hm : markAt v (q + 0) b 24 with
  | true =>
    simp only [lit_must, lit_yes, pre1, hm, eval_must', eval_ret', if_true]
    rfl
  | false =>
    cases ho : rfOk v (q + 0) b 24 with
    | true =>
      obtain ⟨g1, g2, g3⟩ := rfOk_end _ _ _ _ ho
      have e1 := iScanText_loopb b v s q l hb hq n b.length (rfEnd v (q + 0) b 24) [rfRec v (q + 0) b 24] [24] (by omega) g2 (by omega) (by omega) rfl (by show (1 : Int) ≤ _; omega)
      simp only [lit_must, lit_yes, lit_no, pre1, pre2, hm, ho, Bool.and_self, Bool.false_eq_true, if_false, if_true, List.nil_append]
      exact e1
    | false =>
      simp only [lit_must, lit_yes, lit_no, pre1, pre2, hm, ho, eval_must', eval_ret', if_true, Bool.and_self, Bool.false_eq_true, if_false]
      rfl
theorem iScanText_E : EnvSound Try.prog E_iScanText := mkE_sound (by simp [iReadHead_sound, iMarkAt_sound, iReadFrame_sound])
theorem iScanText_sound : Sound Try.prog 142 (sg [pS] [rScan]) scanSpec := vBody_sound (depth := 0) iScanText_E Try.func142 (by kernel_rfl) fun cs outs hk h => by
  unfold scanSpec at h
  split at h
  · simp only [Option.some.injEq, Prod.mk.injEq, decide_eq_true_eq] at h
    obtain ⟨h1, rfl⟩ := h
    rename_i b
    rw [vBody_L, iScanText_tree]
    have pre1 : decide (b.length ≤ 281474976710656) = true := decide_eq_true (by omega)
    cases hr : readHeadOk b with
    | false =>
      have e1 : scanOf b = ([], [], 0, false) := by unfold scanOf; rw [hr]; rfl
      simp only [lit_must, lit_yes, lit_no, pre1, hr, eval_must', eval_ret', if_true, scRecs, scOffs, scEnd, scMark, e1, ifI, Bool.false_eq_true, if_false]
      rfl
    | true =>
      have h24 : 24 ≤ b.length ∧ fixOk b 8 8 = true ∧ headText (rhV b) (rhS b) (rhB b) (rhL b) = b.take 24 := by
        unfold readHeadOk at hr
        simpa [and_assoc] using hr
      have hq : 0 ≤ rhB b ∧ rhB b ≤ 1000000000 := by
        have ht := h24.2.2
        cases hk : headOk (rhV b) (rhS b) (rhB b) (rhL b) with
        | true => have := (headOk_iff _ _ _ _).1 hk; exact this.2.2.1
        | false =>
          unfold headText at ht
          rw [hk] at ht
          have := congrArg List.length ht
          simp at this
          omega
      have e1 : scanOf b = scanGo (rhV b) (rhB b) b (b.length + 1) 0 24 [] [] := by unfold scanOf; rw [hr]; rfl
      have lp := iScanText_loopa b (rhV b) (rhS b) (rhB b) (rhL b) h1 h24.1 hq 9223372036854775807 (by omega)
      rw [← e1] at lp
      simp only [lit_must, lit_yes, lit_no, pre1, hr, ifI, if_true]
      exact lp
  · cases h

end Go.Proofs.Ythpamcbipmkimaa.V

namespace Go.Proofs.Ythpamcbipmkimaa.V
noncomputable section

def pScan : PTy := .val true [.bool, .int .i64, .int .i64, .int .i64, .int .i64, .slice 9, .slice 3, .int .i64, .bool]
/-- where the frame i begins and ends, of these places and this end -/
def offFrom (os : List Int) (i : Int) : Int := os.getD i.toNat 0
def offTo (os : List Int) (e i : Int) : Int := if i + 1 < os.length then os.getD (i + 1).toNat 0 else e
def frameAtSpec : Spec := fun cs => match cs with
  | [.bool _, .int .i64 _, .int .i64 _, .int .i64 _, .int .i64 _, .sl _, .sl os, .int .i64 e, .bool _, .int .i64 i] => some (rowsOk [.int .i64] os && (decide (os.length ≤ 1048576) && (decide (0 ≤ i) && decide (i < os.length))), [.int .i64 (offFrom (ints os) i), .int .i64 (offTo (ints os) e i)])
  | _ => none
def frOk (b : List UInt8) (i : Int) : Bool := inB i 0 ((scOffs b).length - 1)
def frFrom (b : List UInt8) (i : Int) : Int := if frOk b i then offFrom (scOffs b) i else 0
def frTo (b : List UInt8) (i : Int) : Int := if frOk b i then offTo (scOffs b) (scEnd b) i else 0
def frameRangeSpec : Spec := fun cs => match cs with
  | [.str b, .int .i64 i] => some (decide (b.length ≤ 1048576), [.int .i64 (frFrom b i), .int .i64 (frTo b i), .bool (frOk b i)])
  | _ => none
def E_iFrameAt : Env := mkE [] []
def E_sFrameRange : Env := mkE [] [(93, (sg [pI, pI, pI] [rB]), inSpec), (141, (sg [pS] [rScan]), scanSpec)]
def E_iFrameRange : Env := mkE [] [(95, (sg [pI, pI, pI] [rB]), inSpec), (142, (sg [pS] [rScan]), scanSpec), (143, (sg [pScan, pI] [rI, rI]), frameAtSpec)]

abbrev scBox (b : List UInt8) (i j : Nat) : Blk := .box [.b (readHeadOk b), .i .i64 (ifI (readHeadOk b) (rhV b)), .i .i64 (ifI (readHeadOk b) (rhS b)), .i .i64 (ifI (readHeadOk b) (rhB b)), .i .i64 (ifI (readHeadOk b) (rhL b)), .ref i 0 ((scRecs b).map eStr).length, .ref j 0 ((scOffs b).map eInt).length, .i .i64 (scEnd b), .b (scMark b)]
abbrev scHeap (b : List UInt8) : List (Nat × Blk) := [(0, scBox b 1 2), (1, .arr 1 ((scRecs b).map eStr)), (2, .arr 1 ((scOffs b).map eInt))]
def H_sFirstHit (b : List UInt8) (x y i : Int) : St := { slots := [(0, wstr b), (1, int64 x), (2, int64 y), (7, .l (.ptr 0 0)), (8, int64 i)], heap := scHeap b, next := 3, pins := [] }
def H_iFirstHit (b : List UInt8) (x y e i : Int) : St := { slots := [(1, int64 x), (2, int64 y), (7, .l (.ptr 0 0)), (23, int64 e), (24, int64 i)], heap := scHeap b, next := 3, pins := [] }
def hitAt (b : List UInt8) (x y : Int) (i : Nat) : Bool := meets (frFrom b i) (frTo b i) x y
def firstFrom (b : List UInt8) (x y : Int) : Nat → Nat → Nat
  | 0, i => i
  | f + 1, i => if hitAt b x y i then i else firstFrom b x y f (i + 1)
def firstHit (b : List UInt8) (x y : Int) : Int := if readHeadOk b = false ∨ meets 0 24 x y = true then 0 else firstFrom b x y (scRecs b).length 0
def firstHitSpec : Spec := fun cs => match cs with
  | [.str b, .int .i64 x, .int .i64 y] => some (decide (b.length ≤ 1048576), [.int .i64 (firstHit b x y)])
  | _ => none
def E_sFirstHit : Env := mkE [(5, [0, 1, 2, 7, 8])] [(141, (sg [pS] [rScan]), scanSpec), (78, (sg [pS, pI] [rI, rI, rB]), frameRangeSpec)]
def E_iFirstHit : Env := mkE [(5, [1, 2, 7, 23, 24])] [(108, (sg [pI, pI, pI, pI] [rB]), meetsSpec), (142, (sg [pS] [rScan]), scanSpec), (143, (sg [pScan, pI] [rI, rI]), frameAtSpec)]

def H_sSizesHit (b : List UInt8) (x y i : Int) : St := { slots := [(1, int64 x), (2, int64 y), (7, .l (.ptr 0 0)), (8, int64 i)], heap := scHeap b, next := 3, pins := [] }
def H_iSizesHit (b : List UInt8) (x y e i : Int) : St := { slots := [(1, int64 x), (2, int64 y), (7, .l (.ptr 0 0)), (22, .l (.ref 1 0 ((scOffs b).map eInt).length)), (23, int64 e), (24, int64 i)], heap := [(0, scBox b 2 1), (1, .arr 1 ((scOffs b).map eInt)), (2, .arr 1 ((scRecs b).map eStr))], next := 3, pins := [] }
def sizeHit (rs : List (List UInt8)) (os : List Int) (x y : Int) (i : Nat) : Bool := meets (os.getD i 0) (os.getD i 0 + (varText ((rs.getD i []).length : Int)).length) x y
def anyHit (rs : List (List UInt8)) (os : List Int) (x y : Int) : Nat → Nat → Bool
  | 0, _ => false
  | f + 1, i => if sizeHit rs os x y i then true else anyHit rs os x y f (i + 1)
def sizesHit (b : List UInt8) (x y : Int) : Bool := readHeadOk b && decide (rhV b = 1) && anyHit (scRecs b) (scOffs b) x y (scRecs b).length 0
def sizesHitSpec : Spec := fun cs => match cs with
  | [.str b, .int .i64 x, .int .i64 y] => some (decide (b.length ≤ 1048576), [.bool (sizesHit b x y)])
  | _ => none
def E_sSizesHit : Env := mkE [(5, [1, 2, 7, 8])] [(144, (sg [pI] [rI]), varSizeSpec), (141, (sg [pS] [rScan]), scanSpec)]
def E_iSizesHit : Env := mkE [(5, [1, 2, 7, 22, 23, 24])] [(108, (sg [pI, pI, pI, pI] [rB]), meetsSpec), (145, (sg [pI] [rI]), varSizeSpec), (142, (sg [pS] [rScan]), scanSpec)]

def E_lFrameRange : Env := mkE [] [(78, (sg [pS, pI] [rI, rI, rB]), frameRangeSpec), (79, (sg [pS, pI] [rI, rI, rB]), frameRangeSpec)]
def E_lFirstHit : Env := mkE [] [(82, (sg [pS, pI, pI] [rI]), firstHitSpec), (83, (sg [pS, pI, pI] [rI]), firstHitSpec)]
def E_lSizesHit : Env := mkE [] [(80, (sg [pS, pI, pI] [rB]), sizesHitSpec), (81, (sg [pS, pI, pI] [rB]), sizesHitSpec)]

end
end Go.Proofs.Ythpamcbipmkimaa.V

namespace Go.Proofs.Ythpamcbipmkimaa.V
set_option maxRecDepth 100000
theorem iFrameAt_tree (H : List Pt → Nat → St → T (List C)) (k : Bool) (v : Int) (s : Int) (q : Int) (l : Int) (r : List (List C)) (o : List (List C)) (e : Int) (m : Bool) (i : Int) : vBodyL E_iFrameAt (0 : Nat) (sg [pScan, pI] [rI, rI]) Try.f143 H
  [C.bool k, C.int IntKind.i64 v, C.int IntKind.i64 s, C.int IntKind.i64 q, C.int IntKind.i64 l, C.sl r, C.sl o,
    C.int IntKind.i64 e, C.bool m, C.int IntKind.i64 i] =
 (.must true
 (.ask (decide (IntKind.i64.wrap (i + (1 : Int)) < (↑o.length : Int)))
  (.must (decide ((0 : Int) ≤ i) && decide (i < (↑o.length : Int)) && decide ((o.getD i.toNat []).length = (1 : Nat)))
   (.must (decide ((0 : Nat) < (o.getD i.toNat []).length) &&
    C.is (K.int IntKind.i64) ((o.getD i.toNat []).getD (0 : Nat) (C.fn (0 : FuncId) [])) &&
  true)
    (.must (decide ((0 : Int) ≤ IntKind.i64.wrap (i + (1 : Int))) &&
    decide (IntKind.i64.wrap (i + (1 : Int)) < (↑o.length : Int)) &&
  decide ((o.getD (IntKind.i64.wrap (i + (1 : Int))).toNat []).length = (1 : Nat)))
     (.must (decide ((0 : Nat) < (o.getD (IntKind.i64.wrap (i + (1 : Int))).toNat []).length) &&
    C.is (K.int IntKind.i64)
      ((o.getD (IntKind.i64.wrap (i + (1 : Int))).toNat []).getD (0 : Nat) (C.fn (0 : FuncId) [])) &&
  true)
      (.must true
       (.ret [C.int IntKind.i64 ((o.getD i.toNat []).getD (0 : Nat) (C.fn (0 : FuncId) [])).toInt,
  C.int IntKind.i64 ((o.getD (IntKind.i64.wrap (i + (1 : Int))).toNat []).getD (0 : Nat) (C.fn (0 : FuncId) [])).toInt]))))))
  (.must (decide ((0 : Int) ≤ i) && decide (i < (↑o.length : Int)) && decide ((o.getD i.toNat []).length = (1 : Nat)))
   (.must (decide ((0 : Nat) < (o.getD i.toNat []).length) &&
    C.is (K.int IntKind.i64) ((o.getD i.toNat []).getD (0 : Nat) (C.fn (0 : FuncId) [])) &&
  true)
    (.must true
     (.ret [C.int IntKind.i64 ((o.getD i.toNat []).getD (0 : Nat) (C.fn (0 : FuncId) [])).toInt, C.int IntKind.i64 e])))))) := by kernel_rfl
theorem sFrameRange_tree (H : List Pt → Nat → St → T (List C)) (b : List UInt8) (i : Int) : vBodyL E_sFrameRange (0 : Nat) (sg [pS, pI] [rI, rI, rB]) Try.f78 H [C.str b, C.int IntKind.i64 i] =
 (.must true
 (.must true
  (.must (decide (b.length ≤ (1048576 : Nat)))
   (.must (decide ((0 : Nat) < (1 : Nat)) && true &&
      (decide ((0 : Nat) < (1 : Nat)) && true &&
        (decide ((0 : Nat) < (1 : Nat)) && true &&
          (decide ((0 : Nat) < (1 : Nat)) && true &&
            (decide ((0 : Nat) < (1 : Nat)) && true &&
              ((true && (List.map eStr (scRecs b)).all fun row => decide (row.length = (1 : Nat))) &&
                ((true && (List.map eInt (scOffs b)).all fun row => decide (row.length = (1 : Nat))) &&
                  (decide ((0 : Nat) < (1 : Nat)) && true && (decide ((0 : Nat) < (1 : Nat)) && true && true)))))))) &&
    true &&
  true)
    (.must true
     (.must true
      (.must true
       (.ask (inB i (0 : Int) (IntKind.i64.wrap ((↑(List.map eInt (scOffs b)).length : Int) - (1 : Int))))
        (.ask (decide (i = IntKind.i64.wrap ((↑(List.map eInt (scOffs b)).length : Int) - (1 : Int))))
         (.must (decide ((0 : Int) ≤ i) && decide (i < (↑(List.map eInt (scOffs b)).length : Int)))
          (.must (decide ((0 : Nat) + i.toNat < (List.map eInt (scOffs b)).length) &&
  (decide ((0 : Nat) < ((List.map eInt (scOffs b)).getD ((0 : Nat) + i.toNat) []).length) &&
      C.is (K.int IntKind.i64)
        (((List.map eInt (scOffs b)).getD ((0 : Nat) + i.toNat) []).getD (0 : Nat) (C.fn (0 : FuncId) [])) &&
    true))
           (.must true
            (.ret [C.int IntKind.i64
    (((List.map eInt (scOffs b)).getD ((0 : Nat) + i.toNat) []).getD (0 : Nat) (C.fn (0 : FuncId) [])).toInt,
  C.int IntKind.i64 (scEnd b), C.bool true]))))
         (.must (decide ((0 : Int) ≤ i) && decide (i < (↑(List.map eInt (scOffs b)).length : Int)))
          (.must (decide ((0 : Nat) + i.toNat < (List.map eInt (scOffs b)).length) &&
  (decide ((0 : Nat) < ((List.map eInt (scOffs b)).getD ((0 : Nat) + i.toNat) []).length) &&
      C.is (K.int IntKind.i64)
        (((List.map eInt (scOffs b)).getD ((0 : Nat) + i.toNat) []).getD (0 : Nat) (C.fn (0 : FuncId) [])) &&
    true))
           (.must (decide ((0 : Int) ≤ IntKind.i64.wrap (i + (1 : Int))) &&
  decide (IntKind.i64.wrap (i + (1 : Int)) < (↑(List.map eInt (scOffs b)).length : Int)))
            (.must (decide ((0 : Nat) + (IntKind.i64.wrap (i + (1 : Int))).toNat < (List.map eInt (scOffs b)).length) &&
  (decide
        ((0 : Nat) <
          ((List.map eInt (scOffs b)).getD ((0 : Nat) + (IntKind.i64.wrap (i + (1 : Int))).toNat) []).length) &&
      C.is (K.int IntKind.i64)
        (((List.map eInt (scOffs b)).getD ((0 : Nat) + (IntKind.i64.wrap (i + (1 : Int))).toNat) []).getD (0 : Nat)
          (C.fn (0 : FuncId) [])) &&
    true))
             (.must true
              (.ret [C.int IntKind.i64
    (((List.map eInt (scOffs b)).getD ((0 : Nat) + i.toNat) []).getD (0 : Nat) (C.fn (0 : FuncId) [])).toInt,
  C.int IntKind.i64
    (((List.map eInt (scOffs b)).getD ((0 : Nat) + (IntKind.i64.wrap (i + (1 : Int))).toNat) []).getD (0 : Nat)
        (C.fn (0 : FuncId) [])).toInt,
  C.bool true])))))))
        (.must true
         (.ret [C.int IntKind.i64 (0 : Int), C.int IntKind.i64 (0 : Int), C.bool false])))))))))) := by kernel_rfl
theorem iFrameRange_tree (H : List Pt → Nat → St → T (List C)) (b : List UInt8) (i : Int) : vBodyL E_iFrameRange (0 : Nat) (sg [pS, pI] [rI, rI, rB]) Try.f79 H [C.str b, C.int IntKind.i64 i] =
 (.must true
 (.must true
  (.must (decide (b.length ≤ (1048576 : Nat)))
   (.must (decide ((0 : Nat) < (1 : Nat)) && true &&
      (decide ((0 : Nat) < (1 : Nat)) && true &&
        (decide ((0 : Nat) < (1 : Nat)) && true &&
          (decide ((0 : Nat) < (1 : Nat)) && true &&
            (decide ((0 : Nat) < (1 : Nat)) && true &&
              ((true && (List.map eStr (scRecs b)).all fun row => decide (row.length = (1 : Nat))) &&
                ((true && (List.map eInt (scOffs b)).all fun row => decide (row.length = (1 : Nat))) &&
                  (decide ((0 : Nat) < (1 : Nat)) && true && (decide ((0 : Nat) < (1 : Nat)) && true && true)))))))) &&
    true &&
  true)
    (.must true
     (.must true
      (.must true
       (.ask (inB i (0 : Int) (IntKind.i64.wrap ((↑(List.map eStr (scRecs b)).length : Int) - (1 : Int))))
        (.must true
         (.must (rowsOk [K.int IntKind.i64] (List.take (List.map eInt (scOffs b)).length (List.map eInt (scOffs b))) &&
  (decide ((List.take (List.map eInt (scOffs b)).length (List.map eInt (scOffs b))).length ≤ (1048576 : Nat)) &&
    (decide ((0 : Int) ≤ i) &&
      decide (i < (↑(List.take (List.map eInt (scOffs b)).length (List.map eInt (scOffs b))).length : Int)))))
          (.must true
           (.must true
            (.ret [C.int IntKind.i64 (offFrom (ints (List.take (List.map eInt (scOffs b)).length (List.map eInt (scOffs b)))) i),
  C.int IntKind.i64 (offTo (ints (List.take (List.map eInt (scOffs b)).length (List.map eInt (scOffs b)))) (scEnd b) i),
  C.bool true])))))
        (.must true
         (.ret [C.int IntKind.i64 (0 : Int), C.int IntKind.i64 (0 : Int), C.bool false])))))))))) := by kernel_rfl
theorem sFirstHit_tree (H : List Pt → Nat → St → T (List C)) (b : List UInt8) (x : Int) (y : Int) : vBodyL E_sFirstHit (0 : Nat) (sg [pS, pI, pI] [rI]) Try.f82 H [C.str b, C.int IntKind.i64 x, C.int IntKind.i64 y] =
 (.must true
 (.must true
  (.must (decide (b.length ≤ (1048576 : Nat)))
   (.must (decide ((0 : Nat) < (1 : Nat)) && true &&
      (decide ((0 : Nat) < (1 : Nat)) && true &&
        (decide ((0 : Nat) < (1 : Nat)) && true &&
          (decide ((0 : Nat) < (1 : Nat)) && true &&
            (decide ((0 : Nat) < (1 : Nat)) && true &&
              ((true && (List.map eStr (scRecs b)).all fun row => decide (row.length = (1 : Nat))) &&
                ((true && (List.map eInt (scOffs b)).all fun row => decide (row.length = (1 : Nat))) &&
                  (decide ((0 : Nat) < (1 : Nat)) && true && (decide ((0 : Nat) < (1 : Nat)) && true && true)))))))) &&
    true &&
  true)
    (.ask (readHeadOk b)
     (.ask (decide (x < (24 : Int)))
      (.ask (decide ((0 : Int) < y))
       (.ask (decide (x < y))
        (.must true
         (.ret [C.int IntKind.i64 (0 : Int)]))
        (H [Pt.r, Pt.r, Pt.r, Pt.l, Pt.r, Pt.b] (9223372036854775808 : Nat) (H_sFirstHit (b) (x) (y) ((0 : Int)))))
       (H [Pt.r, Pt.r, Pt.r, Pt.l, Pt.r, Pt.b] (9223372036854775808 : Nat) (H_sFirstHit (b) (x) (y) ((0 : Int)))))
      (H [Pt.r, Pt.r, Pt.r, Pt.l, Pt.r, Pt.b] (9223372036854775808 : Nat) (H_sFirstHit (b) (x) (y) ((0 : Int)))))
     (.must true
      (.ret [C.int IntKind.i64 (0 : Int)]))))))) := by kernel_rfl
theorem iFirstHit_tree (H : List Pt → Nat → St → T (List C)) (b : List UInt8) (x : Int) (y : Int) : vBodyL E_iFirstHit (0 : Nat) (sg [pS, pI, pI] [rI]) Try.f83 H [C.str b, C.int IntKind.i64 x, C.int IntKind.i64 y] =
 (.must true
 (.must true
  (.must (decide (b.length ≤ (1048576 : Nat)))
   (.must (decide ((0 : Nat) < (1 : Nat)) && true &&
      (decide ((0 : Nat) < (1 : Nat)) && true &&
        (decide ((0 : Nat) < (1 : Nat)) && true &&
          (decide ((0 : Nat) < (1 : Nat)) && true &&
            (decide ((0 : Nat) < (1 : Nat)) && true &&
              ((true && (List.map eStr (scRecs b)).all fun row => decide (row.length = (1 : Nat))) &&
                ((true && (List.map eInt (scOffs b)).all fun row => decide (row.length = (1 : Nat))) &&
                  (decide ((0 : Nat) < (1 : Nat)) && true && (decide ((0 : Nat) < (1 : Nat)) && true && true)))))))) &&
    true &&
  true)
    (.ask (readHeadOk b)
     (.must true
      (.must true
       (.must true
        (.ask (meets (0 : Int) (24 : Int) x y)
         (.must true
          (.ret [C.int IntKind.i64 (0 : Int)]))
         (H [Pt.r, Pt.r, Pt.r, Pt.l, Pt.r, Pt.b] (9223372036854775808 : Nat) (H_iFirstHit (b) (x) (y) ((↑(List.map eStr (scRecs b)).length : Int)) ((0 : Int))))))))
     (.must true
      (.ret [C.int IntKind.i64 (0 : Int)]))))))) := by kernel_rfl
theorem sFirstHit_round0 (H : List Pt → Nat → St → T (List C)) (b : List UInt8) (x : Int) (y : Int) (i : Int) (k : Nat) : vRound E_sFirstHit (0 : Nat) (sg [pS, pI, pI] [rI]) Try.f82 H [Pt.r, Pt.r, Pt.r, Pt.l, Pt.r, Pt.b] k
  (H_sFirstHit b x y i) =
 (.ask (decide (i < (↑(List.map eStr (scRecs b)).length : Int)))
 (.must true
  (.must (decide (b.length ≤ (1048576 : Nat)))
   (.must true
    (.ask (frOk b i)
     (.ask (decide (x < frTo b i))
      (.ask (decide (frFrom b i < y))
       (.ask (decide (x < y))
        (.must true
         (.ret [C.int IntKind.i64 i]))
        (H [Pt.r, Pt.r, Pt.r, Pt.l, Pt.r, Pt.b] k (H_sFirstHit (b) (x) (y) (IntKind.i64.wrap (i + (1 : Int))))))
       (H [Pt.r, Pt.r, Pt.r, Pt.l, Pt.r, Pt.b] k (H_sFirstHit (b) (x) (y) (IntKind.i64.wrap (i + (1 : Int))))))
      (H [Pt.r, Pt.r, Pt.r, Pt.l, Pt.r, Pt.b] k (H_sFirstHit (b) (x) (y) (IntKind.i64.wrap (i + (1 : Int))))))
     (.ask (decide (x < frTo b i))
      (.ask (decide (frFrom b i < y))
       (.ask (decide (x < y))
        (.must true
         (.ret [C.int IntKind.i64 i]))
        (H [Pt.r, Pt.r, Pt.r, Pt.l, Pt.r, Pt.b] k (H_sFirstHit (b) (x) (y) (IntKind.i64.wrap (i + (1 : Int))))))
       (H [Pt.r, Pt.r, Pt.r, Pt.l, Pt.r, Pt.b] k (H_sFirstHit (b) (x) (y) (IntKind.i64.wrap (i + (1 : Int))))))
      (H [Pt.r, Pt.r, Pt.r, Pt.l, Pt.r, Pt.b] k (H_sFirstHit (b) (x) (y) (IntKind.i64.wrap (i + (1 : Int))))))))))
 (.must true
  (.ret [C.int IntKind.i64 (↑(List.map eStr (scRecs b)).length : Int)]))) := by kernel_rfl
theorem iFirstHit_round0 (H : List Pt → Nat → St → T (List C)) (b : List UInt8) (x : Int) (y : Int) (e : Int) (i : Int) (k : Nat) : vRound E_iFirstHit (0 : Nat) (sg [pS, pI, pI] [rI]) Try.f83 H [Pt.r, Pt.r, Pt.r, Pt.l, Pt.r, Pt.b] k
  (H_iFirstHit b x y e i) =
 (.ask (decide (i < e))
 (.must true
  (.must (rowsOk [K.int IntKind.i64] (List.take (List.map eInt (scOffs b)).length (List.map eInt (scOffs b))) &&
  (decide ((List.take (List.map eInt (scOffs b)).length (List.map eInt (scOffs b))).length ≤ (1048576 : Nat)) &&
    (decide ((0 : Int) ≤ i) &&
      decide (i < (↑(List.take (List.map eInt (scOffs b)).length (List.map eInt (scOffs b))).length : Int)))))
   (.must true
    (.must true
     (.must true
      (.must true
       (.ask (meets (offFrom (ints (List.take (List.map eInt (scOffs b)).length (List.map eInt (scOffs b)))) i)
  (offTo (ints (List.take (List.map eInt (scOffs b)).length (List.map eInt (scOffs b)))) (scEnd b) i) x y)
        (.must true
         (.ret [C.int IntKind.i64 i]))
        (H [Pt.r, Pt.r, Pt.r, Pt.l, Pt.r, Pt.b] k (H_iFirstHit (b) (x) (y) (e) (IntKind.i64.wrap (i + (1 : Int))))))))))))
 (.must true
  (.ret [C.int IntKind.i64 (↑(List.map eStr (scRecs b)).length : Int)]))) := by kernel_rfl
theorem sSizesHit_tree (H : List Pt → Nat → St → T (List C)) (b : List UInt8) (x : Int) (y : Int) : vBodyL E_sSizesHit (0 : Nat) (sg [pS, pI, pI] [rB]) Try.f80 H [C.str b, C.int IntKind.i64 x, C.int IntKind.i64 y] =
 (.must true
 (.must true
  (.must (decide (b.length ≤ (1048576 : Nat)))
   (.must (decide ((0 : Nat) < (1 : Nat)) && true &&
      (decide ((0 : Nat) < (1 : Nat)) && true &&
        (decide ((0 : Nat) < (1 : Nat)) && true &&
          (decide ((0 : Nat) < (1 : Nat)) && true &&
            (decide ((0 : Nat) < (1 : Nat)) && true &&
              ((true && (List.map eStr (scRecs b)).all fun row => decide (row.length = (1 : Nat))) &&
                ((true && (List.map eInt (scOffs b)).all fun row => decide (row.length = (1 : Nat))) &&
                  (decide ((0 : Nat) < (1 : Nat)) && true && (decide ((0 : Nat) < (1 : Nat)) && true && true)))))))) &&
    true &&
  true)
    (.ask (readHeadOk b)
     (.ask (ifI (readHeadOk b) (rhV b) != (1 : Int))
      (.must true
       (.ret [C.bool false]))
      (H [Pt.r, Pt.r, Pt.r, Pt.l, Pt.r, Pt.b] (9223372036854775808 : Nat) (H_sSizesHit (b) (x) (y) ((0 : Int)))))
     (.must true
      (.ret [C.bool false]))))))) := by kernel_rfl
theorem iSizesHit_tree (H : List Pt → Nat → St → T (List C)) (b : List UInt8) (x : Int) (y : Int) : vBodyL E_iSizesHit (0 : Nat) (sg [pS, pI, pI] [rB]) Try.f81 H [C.str b, C.int IntKind.i64 x, C.int IntKind.i64 y] =
 (.must true
 (.must true
  (.must (decide (b.length ≤ (1048576 : Nat)))
   (.must (decide ((0 : Nat) < (1 : Nat)) && true &&
      (decide ((0 : Nat) < (1 : Nat)) && true &&
        (decide ((0 : Nat) < (1 : Nat)) && true &&
          (decide ((0 : Nat) < (1 : Nat)) && true &&
            (decide ((0 : Nat) < (1 : Nat)) && true &&
              ((true && (List.map eStr (scRecs b)).all fun row => decide (row.length = (1 : Nat))) &&
                ((true && (List.map eInt (scOffs b)).all fun row => decide (row.length = (1 : Nat))) &&
                  (decide ((0 : Nat) < (1 : Nat)) && true && (decide ((0 : Nat) < (1 : Nat)) && true && true)))))))) &&
    true &&
  true)
    (.ask (readHeadOk b)
     (.ask (ifI (readHeadOk b) (rhV b) != (1 : Int))
      (.must true
       (.ret [C.bool false]))
      (H [Pt.r, Pt.r, Pt.r, Pt.l, Pt.r, Pt.b] (9223372036854775808 : Nat) (H_iSizesHit (b) (x) (y) ((↑(List.map eInt (scOffs b)).length : Int)) ((0 : Int)))))
     (.must true
      (.ret [C.bool false]))))))) := by kernel_rfl
theorem sSizesHit_round0 (H : List Pt → Nat → St → T (List C)) (b : List UInt8) (x : Int) (y : Int) (i : Int) (k : Nat) : vRound E_sSizesHit (0 : Nat) (sg [pS, pI, pI] [rB]) Try.f80 H [Pt.r, Pt.r, Pt.r, Pt.l, Pt.r, Pt.b] k
  (H_sSizesHit b x y i) =
 (.ask (decide (i < (↑(List.map eStr (scRecs b)).length : Int)))
 (.must (decide ((0 : Int) ≤ i) && decide (i < (↑(List.map eInt (scOffs b)).length : Int)))
  (.must (decide ((0 : Nat) + i.toNat < (List.map eInt (scOffs b)).length) &&
  (decide ((0 : Nat) < ((List.map eInt (scOffs b)).getD ((0 : Nat) + i.toNat) []).length) &&
      C.is (K.int IntKind.i64)
        (((List.map eInt (scOffs b)).getD ((0 : Nat) + i.toNat) []).getD (0 : Nat) (C.fn (0 : FuncId) [])) &&
    true))
   (.must (decide ((0 : Int) ≤ i) && decide (i < (↑(List.map eStr (scRecs b)).length : Int)))
    (.must (decide ((0 : Nat) + i.toNat < (List.map eStr (scRecs b)).length) &&
  (decide ((0 : Nat) < ((List.map eStr (scRecs b)).getD ((0 : Nat) + i.toNat) []).length) &&
      C.is K.str (((List.map eStr (scRecs b)).getD ((0 : Nat) + i.toNat) []).getD (0 : Nat) (C.fn (0 : FuncId) [])) &&
    true))
     (.must true
      (.must true
       (.must true
        (.ask (decide
  (x <
    IntKind.i64.wrap
      ((((List.map eInt (scOffs b)).getD ((0 : Nat) + i.toNat) []).getD (0 : Nat) (C.fn (0 : FuncId) [])).toInt +
        Int.ofNat
          (varText
              (↑(((List.map eStr (scRecs b)).getD ((0 : Nat) + i.toNat) []).getD (0 : Nat)
                        (C.fn (0 : FuncId) [])).toStr.length :
                Int)).length)))
         (.must (decide ((0 : Int) ≤ i) && decide (i < (↑(List.map eInt (scOffs b)).length : Int)))
          (.must (decide ((0 : Nat) + i.toNat < (List.map eInt (scOffs b)).length) &&
  (decide ((0 : Nat) < ((List.map eInt (scOffs b)).getD ((0 : Nat) + i.toNat) []).length) &&
      C.is (K.int IntKind.i64)
        (((List.map eInt (scOffs b)).getD ((0 : Nat) + i.toNat) []).getD (0 : Nat) (C.fn (0 : FuncId) [])) &&
    true))
           (.ask (decide ((((List.map eInt (scOffs b)).getD ((0 : Nat) + i.toNat) []).getD (0 : Nat) (C.fn (0 : FuncId) [])).toInt < y))
            (.ask (decide (x < y))
             (.must true
              (.ret [C.bool true]))
             (H [Pt.r, Pt.r, Pt.r, Pt.l, Pt.r, Pt.b] k (H_sSizesHit (b) (x) (y) (IntKind.i64.wrap (i + (1 : Int))))))
            (H [Pt.r, Pt.r, Pt.r, Pt.l, Pt.r, Pt.b] k (H_sSizesHit (b) (x) (y) (IntKind.i64.wrap (i + (1 : Int))))))))
         (H [Pt.r, Pt.r, Pt.r, Pt.l, Pt.r, Pt.b] k (H_sSizesHit (b) (x) (y) (IntKind.i64.wrap (i + (1 : Int)))))))))))))
 (.must true
  (.ret [C.bool false]))) := by kernel_rfl
theorem iSizesHit_round0 (H : List Pt → Nat → St → T (List C)) (b : List UInt8) (x : Int) (y : Int) (e : Int) (i : Int) (k : Nat) : vRound E_iSizesHit (0 : Nat) (sg [pS, pI, pI] [rB]) Try.f81 H [Pt.r, Pt.r, Pt.r, Pt.l, Pt.r, Pt.b] k
  (H_iSizesHit b x y e i) =
 (.ask (decide (i < e))
 (.must (decide ((0 : Int) ≤ i) && decide (i < (↑(List.map eInt (scOffs b)).length : Int)))
  (.must (decide ((0 : Nat) + i.toNat < (List.map eInt (scOffs b)).length) &&
  (decide ((0 : Nat) < ((List.map eInt (scOffs b)).getD ((0 : Nat) + i.toNat) []).length) &&
      C.is (K.int IntKind.i64)
        (((List.map eInt (scOffs b)).getD ((0 : Nat) + i.toNat) []).getD (0 : Nat) (C.fn (0 : FuncId) [])) &&
    true))
   (.must (decide ((0 : Int) ≤ i) && decide (i < (↑(List.map eStr (scRecs b)).length : Int)))
    (.must (decide ((0 : Nat) + i.toNat < (List.map eStr (scRecs b)).length) &&
  (decide ((0 : Nat) < ((List.map eStr (scRecs b)).getD ((0 : Nat) + i.toNat) []).length) &&
      C.is K.str (((List.map eStr (scRecs b)).getD ((0 : Nat) + i.toNat) []).getD (0 : Nat) (C.fn (0 : FuncId) [])) &&
    true))
     (.must true
      (.must true
       (.must true
        (.must true
         (.must true
          (.must true
           (.ask (meets (((List.map eInt (scOffs b)).getD ((0 : Nat) + i.toNat) []).getD (0 : Nat) (C.fn (0 : FuncId) [])).toInt
  (IntKind.i64.wrap
    ((((List.map eInt (scOffs b)).getD ((0 : Nat) + i.toNat) []).getD (0 : Nat) (C.fn (0 : FuncId) [])).toInt +
      Int.ofNat
        (varText
            (↑(((List.map eStr (scRecs b)).getD ((0 : Nat) + i.toNat) []).getD (0 : Nat)
                      (C.fn (0 : FuncId) [])).toStr.length :
              Int)).length))
  x y)
            (.must true
             (.ret [C.bool true]))
            (H [Pt.r, Pt.r, Pt.r, Pt.l, Pt.r, Pt.b] k (H_iSizesHit (b) (x) (y) (e) (IntKind.i64.wrap (i + (1 : Int))))))))))))))))
 (.must true
  (.ret [C.bool false]))) := by kernel_rfl
theorem lFrameRange_tree (H : List Pt → Nat → St → T (List C)) (b : List UInt8) (i : Int) : vBodyL E_lFrameRange (0 : Nat) (sg [pS, pI] [rB]) Try.f13 H [C.str b, C.int IntKind.i64 i] =
 (.must true
 (.ask (decide ((1048576 : Int) < (↑b.length : Int)))
  (.must true
   (.ret [C.bool true]))
  (.must true
   (.must (decide (b.length ≤ (1048576 : Nat)))
    (.must true
     (.ask (frOk b i)
      (.must true
       (.must (decide (b.length ≤ (1048576 : Nat)))
        (.must true
         (.ask (frOk b i)
          (.ask (frFrom b i != frFrom b i)
           (.must true
            (.ret [C.bool false]))
           (.ask (frTo b i != frTo b i)
            (.must true
             (.ret [C.bool false]))
            (.ask (!true)
             (.must true
              (.ret [C.bool false]))
             (.must true
              (.ret [C.bool true])))))
          (.ask (frFrom b i != frFrom b i)
           (.must true
            (.ret [C.bool false]))
           (.ask (frTo b i != frTo b i)
            (.must true
             (.ret [C.bool false]))
            (.ask true
             (.must true
              (.ret [C.bool false]))
             (.must true
              (.ret [C.bool true])))))))))
      (.must true
       (.must (decide (b.length ≤ (1048576 : Nat)))
        (.must true
         (.ask (frOk b i)
          (.ask (frFrom b i != frFrom b i)
           (.must true
            (.ret [C.bool false]))
           (.ask (frTo b i != frTo b i)
            (.must true
             (.ret [C.bool false]))
            (.ask true
             (.must true
              (.ret [C.bool false]))
             (.must true
              (.ret [C.bool true])))))
          (.ask (frFrom b i != frFrom b i)
           (.must true
            (.ret [C.bool false]))
           (.ask (frTo b i != frTo b i)
            (.must true
             (.ret [C.bool false]))
            (.ask (!true)
             (.must true
              (.ret [C.bool false]))
             (.must true
              (.ret [C.bool true]))))))))))))))) := by kernel_rfl
theorem lFirstHit_tree (H : List Pt → Nat → St → T (List C)) (b : List UInt8) (x : Int) (y : Int) : vBodyL E_lFirstHit (0 : Nat) (sg [pS, pI, pI] [rB]) Try.f15 H [C.str b, C.int IntKind.i64 x, C.int IntKind.i64 y] =
 (.must true
 (.ask (decide ((1048576 : Int) < (↑b.length : Int)))
  (.must true
   (.ret [C.bool true]))
  (.must true
   (.must (decide (b.length ≤ (1048576 : Nat)))
    (.must true
     (.must true
      (.must (decide (b.length ≤ (1048576 : Nat)))
       (.must true
        (.ask (firstHit b x y != firstHit b x y)
         (.must true
          (.ret [C.bool false]))
         (.must true
          (.ret [C.bool true]))))))))))) := by kernel_rfl
theorem lSizesHit_tree (H : List Pt → Nat → St → T (List C)) (b : List UInt8) (x : Int) (y : Int) : vBodyL E_lSizesHit (0 : Nat) (sg [pS, pI, pI] [rB]) Try.f14 H [C.str b, C.int IntKind.i64 x, C.int IntKind.i64 y] =
 (.must true
 (.ask (decide ((1048576 : Int) < (↑b.length : Int)))
  (.must true
   (.ret [C.bool true]))
  (.must true
   (.must (decide (b.length ≤ (1048576 : Nat)))
    (.must true
     (.ask (sizesHit b x y)
      (.must true
       (.must (decide (b.length ≤ (1048576 : Nat)))
        (.must true
         (.ask (sizesHit b x y)
          (.ask (!true)
           (.must true
            (.ret [C.bool false]))
           (.must true
            (.ret [C.bool true])))
          (.ask true
           (.must true
            (.ret [C.bool false]))
           (.must true
            (.ret [C.bool true])))))))
      (.must true
       (.must (decide (b.length ≤ (1048576 : Nat)))
        (.must true
         (.ask (sizesHit b x y)
          (.ask true
           (.must true
            (.ret [C.bool false]))
           (.must true
            (.ret [C.bool true])))
          (.ask (!true)
           (.must true
            (.ret [C.bool false]))
           (.must true
            (.ret [C.bool true]))))))))))))) := by kernel_rfl
end Go.Proofs.Ythpamcbipmkimaa.V

namespace Go.Proofs.Ythpamcbipmkimaa.V

theorem iFrameAt_E : EnvSound Try.prog E_iFrameAt := mkE_sound (by simp [])
theorem iFrameAt_sound : Sound Try.prog 143 (sg [pScan, pI] [rI, rI]) frameAtSpec := vBody_sound (depth := 0) iFrameAt_E Try.func143 (by kernel_rfl) fun cs outs hk h => by
  unfold frameAtSpec at h
  split at h
  · simp only [Option.some.injEq, Prod.mk.injEq, Bool.and_eq_true, decide_eq_true_eq] at h
    obtain ⟨⟨h1, h2, h3, h4⟩, rfl⟩ := h
    rename_i k v s q l rr os e m i
    have hr := rows_ints h1
    generalize ints os = o at hr ⊢
    subst hr
    rw [List.length_map] at h2 h4
    rw [vBody_L, iFrameAt_tree]
    obtain ⟨i, rfl⟩ := Int.eq_ofNat_of_zero_le h3
    have w : IntKind.i64.wrap ((i : Int) + 1) = ((i + 1 : Nat) : Int) := by rw [wrap64] <;> omega
    have hi : i < o.length := by omega
    have g := map_getD eInt o 0 i hi
    have z : (0 : Int) ≤ ((i + 1 : Nat) : Int) := by omega
    have t1 : ((i : Int) + 1).toNat = i + 1 := by omega
    simp only [eval_must', eval_ask', eval_ret', if_true, decide_eq_true_eq, Bool.and_eq_true, w, h3, z, Int.toNat_natCast, List.length_map, Int.ofNat_lt, hi, g, offFrom, offTo, and_self]
    by_cases hn : i + 1 < o.length
    · have g2 := map_getD eInt o 0 (i + 1) hn
      have hn' : (i : Int) + 1 < o.length := by omega
      simp only [hn, hn', if_true, g2, t1, and_self]
      rfl
    · have hn' : ¬ ((i : Int) + 1 < o.length) := by omega
      simp only [hn, hn', if_false]
      rfl
  · cases h
structure Good (b : List UInt8) (rs : List (List UInt8)) (os : List Int) (e : Int) : Prop where
  len : rs.length = os.length
  e0 : 0 ≤ e
  e1 : e ≤ b.length
  few : (os.length : Int) ≤ e
  offs : ∀ i : Nat, i < os.length → 0 ≤ offFrom os i ∧ offFrom os i < offTo os e i ∧ offTo os e i ≤ b.length
  recs : ∀ r, r ∈ rs → r.length ≤ 60
theorem rfRec_len (v p : Int) (b : List UInt8) (a : Int) : (rfRec v p b a).length ≤ 60 := by
  unfold rfRec
  split
  · rename_i h
    unfold rfOk at h
    simp only [Bool.and_eq_true, decide_eq_true_eq] at h
    unfold rfText; simp; omega
  · simp
theorem scanGo_good (v p : Int) (b : List UInt8) : ∀ (f : Nat) (k e : Int) (rs : List (List UInt8)) (os : List Int), Good b rs os e → Good b (scanGo v p b f k e rs os).1 (scanGo v p b f k e rs os).2.1 (scanGo v p b f k e rs os).2.2.1
  | 0, k, e, rs, os, h => h
  | f + 1, k, e, rs, os, h => by
    simp only [scanGo]
    split
    · exact h
    · split
      · rename_i ho
        obtain ⟨g1, g2, g3⟩ := rfOk_end _ _ _ _ ho
        refine scanGo_good v p b f (k + 1) _ _ _ ⟨by simp [h.len], by omega, g2, by simp; have := h.few; omega, fun i hi => ?_, fun r hr => ?_⟩
        · have e0 := h.e0
          by_cases hlt : i < os.length
          · have ho := h.offs i hlt
            have c1 : offFrom (os ++ [e]) i = offFrom os i := by
              unfold offFrom; simp [List.getD_eq_getElem?_getD, List.getElem?_append_left hlt]
            have c2 : offTo (os ++ [e]) (rfEnd v (p + k) b e) i = offTo os e i := by
              have t1 : ((i : Int) + 1).toNat = i + 1 := by omega
              unfold offTo
              rw [t1, if_pos (by simp; omega)]
              by_cases hn : i + 1 < os.length
              · rw [if_pos (by omega)]
                simp [List.getD_eq_getElem?_getD, List.getElem?_append_left hn]
              · rw [if_neg (by omega)]
                have : i + 1 = os.length := by omega
                rw [this]
                simp [List.getD_eq_getElem?_getD]
            rw [c1, c2]; exact ho
          · have hil : i = os.length := by simp at hi; omega
            subst hil
            have c1 : offFrom (os ++ [e]) os.length = e := by unfold offFrom; simp [List.getD_eq_getElem?_getD]
            have c2 : offTo (os ++ [e]) (rfEnd v (p + k) b e) os.length = rfEnd v (p + k) b e := by unfold offTo; rw [if_neg (by simp)]
            rw [c1, c2]
            omega
        · rcases List.mem_append.1 hr with hr | hr
          · exact h.recs r hr
          · have : r = rfRec v (p + k) b e := by simpa using hr
            rw [this]; exact rfRec_len _ _ _ _
      · exact h
theorem scan_good (b : List UInt8) : Good b (scRecs b) (scOffs b) (scEnd b) := by
  unfold scRecs scOffs scEnd scanOf
  split
  · rename_i hr
    have h24 : 24 ≤ b.length := by
      unfold readHeadOk at hr
      simp only [Bool.and_eq_true, decide_eq_true_eq] at hr
      exact hr.1.1
    exact scanGo_good _ _ b _ 0 24 [] [] ⟨rfl, by omega, by omega, by simp, fun i hi => by simp at hi, fun r hr => by cases hr⟩
  · exact ⟨rfl, by simp, by simp, by simp, fun i hi => by simp at hi, fun r hr => by cases hr⟩
theorem len1_str (l : List (List UInt8)) : ((l.map eStr).all fun row => decide (row.length = 1)) = true := by simp
theorem len1_int (l : List Int) : ((l.map eInt).all fun row => decide (row.length = 1)) = true := by simp
theorem frOk_iff (b : List UInt8) (i : Int) : frOk b i = true ↔ 0 ≤ i ∧ i < (scOffs b).length := by
  unfold frOk; rw [in_iff]; omega
theorem sFrameRange_E : EnvSound Try.prog E_sFrameRange := mkE_sound (by simp [sIn_sound, sScanText_sound])
theorem sFrameRange_sound : Sound Try.prog 78 (sg [pS, pI] [rI, rI, rB]) frameRangeSpec := vBody_sound (depth := 0) sFrameRange_E Try.func78 (by kernel_rfl) fun cs outs hk h => by
  unfold frameRangeSpec at h
  split at h
  · simp only [Option.some.injEq, Prod.mk.injEq, decide_eq_true_eq] at h
    obtain ⟨h1, rfl⟩ := h
    rename_i b i
    rw [vBody_L, sFrameRange_tree]
    have hg := scan_good b
    have hf := hg.few
    have he := hg.e1
    have l1 := len1_str (scRecs b)
    have l2 := len1_int (scOffs b)
    have pre : decide (b.length ≤ 1048576) = true := decide_eq_true h1
    have w : IntKind.i64.wrap (((scOffs b).length : Int) - 1) = ((scOffs b).length : Int) - 1 := by rw [wrap64] <;> omega
    have hfr : inB i 0 (((scOffs b).length : Int) - 1) = frOk b i := rfl
    cases hk : frOk b i with
    | false =>
      simp only [lit_must, pre, eval_must', eval_ask', eval_ret', l1, l2, List.length_map, w, hfr, hk, frFrom, frTo, Bool.false_eq_true, if_false]
      simp
    | true =>
      have hi := (frOk_iff b i).1 hk
      obtain ⟨i, rfl⟩ := Int.eq_ofNat_of_zero_le hi.1
      have hi' : i < (scOffs b).length := by omega
      have g := map_getD eInt (scOffs b) 0 i hi'
      have w1 : IntKind.i64.wrap ((i : Int) + 1) = ((i + 1 : Nat) : Int) := by rw [wrap64] <;> omega
      have t1 : ((i : Int) + 1).toNat = i + 1 := by omega
      simp only [lit_must, pre, eval_must', eval_ask', eval_ret', l1, l2, List.length_map, w, hfr, hk, frFrom, frTo, if_true, Nat.zero_add, Int.toNat_natCast, g, offFrom, offTo, w1, t1]
      by_cases hl : (i : Int) = ((scOffs b).length : Int) - 1
      · have hn : ¬ ((i : Int) + 1 < (scOffs b).length) := by omega
        have hlt := eq_true hl
        simp [hlt, hn, hi', C.is, C.toInt]
      · have hn : (i : Int) + 1 < (scOffs b).length := by omega
        have hn' : i + 1 < (scOffs b).length := by omega
        have g2 := map_getD eInt (scOffs b) 0 (i + 1) hn'
        have z : (0 : Int) ≤ ((i + 1 : Nat) : Int) := by omega
        have z2 : ((i + 1 : Nat) : Int) < (scOffs b).length := by omega
        have hl' : ((i : Int) = ((scOffs b).length : Int) - 1) = False := eq_false hl
        simp only [hl', decide_false, Bool.false_eq_true, if_false, g2, hn, if_true]
        simp [hi', hn', C.is, C.toInt]
        omega
  · cases h
theorem iFrameRange_E : EnvSound Try.prog E_iFrameRange := mkE_sound (by simp [iIn_sound, iScanText_sound, iFrameAt_sound])
theorem iFrameRange_sound : Sound Try.prog 79 (sg [pS, pI] [rI, rI, rB]) frameRangeSpec := vBody_sound (depth := 0) iFrameRange_E Try.func79 (by kernel_rfl) fun cs outs hk h => by
  unfold frameRangeSpec at h
  split at h
  · simp only [Option.some.injEq, Prod.mk.injEq, decide_eq_true_eq] at h
    obtain ⟨h1, rfl⟩ := h
    rename_i b i
    rw [vBody_L, iFrameRange_tree]
    have hg := scan_good b
    have hf := hg.few
    have he := hg.e1
    have hlen := hg.len
    have l1 := len1_str (scRecs b)
    have l2 := len1_int (scOffs b)
    have pre : decide (b.length ≤ 1048576) = true := decide_eq_true h1
    have w : IntKind.i64.wrap (((scOffs b).length : Int) - 1) = ((scOffs b).length : Int) - 1 := by rw [wrap64] <;> omega
    have tk : ((scOffs b).map eInt).take (scOffs b).length = (scOffs b).map eInt := List.take_of_length_le (by simp)
    have hfr : inB i 0 (((scOffs b).length : Int) - 1) = frOk b i := rfl
    have ro := rowsOk_ints (scOffs b)
    have im := ints_map (scOffs b)
    cases hk : frOk b i with
    | false =>
      simp only [lit_must, pre, eval_must', eval_ask', eval_ret', l1, l2, List.length_map, hlen, w, hfr, hk, frFrom, frTo, Bool.false_eq_true, if_false]
      simp
    | true =>
      have hi := (frOk_iff b i).1 hk
      have hl2 : (scOffs b).length ≤ 1048576 := by omega
      simp only [lit_must, pre, eval_must', eval_ask', eval_ret', l1, l2, List.length_map, hlen, w, hfr, hk, frFrom, frTo, if_true, tk, ro, im]
      simp [hi, hl2]
  · cases h

theorem meets_iff (a b x y : Int) : meets a b x y = true ↔ a < b ∧ a < y ∧ x < b ∧ x < y := by
  unfold meets imax imin
  rw [decide_eq_true_eq]
  repeat' split
  all_goals omega
theorem frRange (b : List UInt8) (i : Nat) (h : i < (scOffs b).length) : frFrom b i = offFrom (scOffs b) i ∧ frTo b i = offTo (scOffs b) (scEnd b) i ∧ frOk b i = true ∧ frFrom b i < frTo b i := by
  have hk : frOk b i = true := (frOk_iff b i).2 ⟨by omega, by omega⟩
  have := (scan_good b).offs i h
  unfold frFrom frTo
  rw [hk]
  exact ⟨rfl, rfl, rfl, by simpa using this.2.1⟩
theorem sFirstHit_loop (b : List UInt8) (x y : Int) (hb : b.length ≤ 1048576) : ∀ (f n i : Nat), i + f = (scRecs b).length → f < n →
    (vLoop E_sFirstHit 0 (sg [pS, pI, pI] [rI]) Try.f82 [.r, .r, .r, .l, .r, .b] n (H_sFirstHit b x y i)).eval = some [.int .i64 (firstFrom b x y f i : Nat)] := by
  have hg := scan_good b
  have hf := hg.few
  have he := hg.e1
  have hlen := hg.len
  intro f
  induction f with
  | zero =>
    intro n i h1 h2
    obtain ⟨n, rfl⟩ : ∃ m, n = m + 1 := ⟨n - 1, by omega⟩
    rw [vLoop_L _ _ _ _ _ _ _ (by kernel_rfl), sFirstHit_round0]
    have : ¬ ((i : Int) < (scRecs b).length) := by omega
    simp only [eval_must', eval_ask', eval_ret', if_true, decide_eq_true_eq, List.length_map, this, if_false, firstFrom]
    congr 3; omega
  | succ f ih =>
    intro n i h1 h2
    obtain ⟨n, rfl⟩ : ∃ m, n = m + 1 := ⟨n - 1, by omega⟩
    rw [vLoop_L _ _ _ _ _ _ _ (by kernel_rfl), sFirstHit_round0]
    have e := ih n (i + 1) (by omega) (by omega)
    have w1 : IntKind.i64.wrap ((i : Int) + 1) = ((i + 1 : Nat) : Int) := by rw [wrap64] <;> omega
    have hi : (i : Int) < (scRecs b).length := by omega
    obtain ⟨r1, r2, r3, r4⟩ := frRange b i (by omega)
    have pre : decide (b.length ≤ 1048576) = true := decide_eq_true hb
    simp only [lit_must, eval_must', eval_ask', eval_ret', if_true, decide_eq_true_eq, List.length_map, hi, hb, r3, w1, firstFrom]
    cases hh : hitAt b x y i with
    | true =>
      have := (meets_iff _ _ _ _).1 hh
      simp only [this.2.1, this.2.2.1, this.2.2.2, if_true]
    | false =>
      have hne : ¬ (x < frTo b i ∧ frFrom b i < y ∧ x < y) := fun h => by
        have : hitAt b x y i = true := (meets_iff _ _ _ _).2 ⟨r4, h.2.1, h.1, h.2.2⟩
        rw [hh] at this; cases this
      simp only [Bool.false_eq_true, if_false]
      by_cases p1 : x < frTo b i
      · by_cases p2 : frFrom b i < y
        · by_cases p3 : x < y
          · exact absurd ⟨p1, p2, p3⟩ hne
          · simp only [p1, p2, p3, if_true, if_false]; exact e
        · simp only [p1, p2, if_true, if_false]; exact e
      · simp only [p1, if_false]; exact e
theorem sFirstHit_E : EnvSound Try.prog E_sFirstHit := mkE_sound (by simp [sScanText_sound, sFrameRange_sound])
theorem sFirstHit_sound : Sound Try.prog 82 (sg [pS, pI, pI] [rI]) firstHitSpec := vBody_sound (depth := 0) sFirstHit_E Try.func82 (by kernel_rfl) fun cs outs hk h => by
  unfold firstHitSpec at h
  split at h
  · simp only [Option.some.injEq, Prod.mk.injEq, decide_eq_true_eq] at h
    obtain ⟨h1, rfl⟩ := h
    rename_i b x y
    rw [vBody_L, sFirstHit_tree]
    have l1 := len1_str (scRecs b)
    have l2 := len1_int (scOffs b)
    have hg := scan_good b
    have hf := hg.few
    have he := hg.e1
    have hlen := hg.len
    have lp := sFirstHit_loop b x y h1 (scRecs b).length 9223372036854775808 0 (by omega) (by omega)
    have pre : decide (b.length ≤ 1048576) = true := decide_eq_true h1
    cases hr : readHeadOk b with
    | false =>
      simp only [lit_must, lit_no, pre, hr, eval_must', eval_ret', l1, l2, firstHit, true_or, if_true]
      simp
    | true =>
      cases hm : meets 0 24 x y with
      | true =>
        have := (meets_iff _ _ _ _).1 hm
        simp only [lit_must, lit_yes, pre, hr, eval_must', eval_ask', eval_ret', l1, l2, firstHit, hm, or_true, if_true, decide_eq_true_eq, this.2.1, this.2.2.1, this.2.2.2]
        simp
      | false =>
        have hne : ¬ (x < 24 ∧ 0 < y ∧ x < y) := fun h => by
          have : meets 0 24 x y = true := (meets_iff _ _ _ _).2 ⟨by omega, h.2.1, h.1, h.2.2⟩
          rw [hm] at this; cases this
        have ef : firstHit b x y = firstFrom b x y (scRecs b).length 0 := by unfold firstHit; rw [if_neg (by simp [hr, hm])]
        rw [ef, ← lp]
        simp only [lit_must, lit_yes, pre, hr, eval_must', eval_ask', l1, l2, decide_eq_true_eq]
        have cl : ((decide (0 < 1) && true && (decide (0 < 1) && true && (decide (0 < 1) && true && (decide (0 < 1) && true && (decide (0 < 1) && true && ((true && true) && ((true && true) && (decide (0 < 1) && true && (decide (0 < 1) && true && true)))))))) && true && true) : Bool) = true := by decide
        rw [if_pos cl]
        by_cases p1 : x < 24
        · by_cases p2 : 0 < y
          · by_cases p3 : x < y
            · exact absurd ⟨p1, p2, p3⟩ hne
            · rw [if_pos p1, if_pos p2, if_neg p3]; rfl
          · rw [if_pos p1, if_neg p2]; rfl
        · rw [if_neg p1]; rfl
  · cases h
theorem closedAll : ((decide (0 < 1) && true && (decide (0 < 1) && true && (decide (0 < 1) && true && (decide (0 < 1) && true && (decide (0 < 1) && true && ((true && true) && ((true && true) && (decide (0 < 1) && true && (decide (0 < 1) && true && true)))))))) && true && true) : Bool) = true := by decide
theorem iFirstHit_loop (b : List UInt8) (x y : Int) (hb : b.length ≤ 1048576) : ∀ (f n i : Nat), i + f = (scRecs b).length → f < n →
    (vLoop E_iFirstHit 0 (sg [pS, pI, pI] [rI]) Try.f83 [.r, .r, .r, .l, .r, .b] n (H_iFirstHit b x y ((scRecs b).length : Nat) i)).eval = some [.int .i64 (firstFrom b x y f i : Nat)] := by
  have hg := scan_good b
  have hf := hg.few
  have he := hg.e1
  have hlen := hg.len
  have tk : ((scOffs b).map eInt).take (scOffs b).length = (scOffs b).map eInt := List.take_of_length_le (by simp)
  have ro := rowsOk_ints (scOffs b)
  have im := ints_map (scOffs b)
  intro f
  induction f with
  | zero =>
    intro n i h1 h2
    obtain ⟨n, rfl⟩ : ∃ m, n = m + 1 := ⟨n - 1, by omega⟩
    rw [vLoop_L _ _ _ _ _ _ _ (by kernel_rfl), iFirstHit_round0]
    have : ¬ ((i : Int) < (scRecs b).length) := by omega
    simp only [eval_must', eval_ask', eval_ret', if_true, decide_eq_true_eq, List.length_map, this, if_false, firstFrom]
    congr 3; omega
  | succ f ih =>
    intro n i h1 h2
    obtain ⟨n, rfl⟩ : ∃ m, n = m + 1 := ⟨n - 1, by omega⟩
    rw [vLoop_L _ _ _ _ _ _ _ (by kernel_rfl), iFirstHit_round0]
    have e := ih n (i + 1) (by omega) (by omega)
    have w1 : IntKind.i64.wrap ((i : Int) + 1) = ((i + 1 : Nat) : Int) := by rw [wrap64] <;> omega
    have hi : (i : Int) < (scRecs b).length := by omega
    have hi2 : (i : Int) < (scOffs b).length := by omega
    have hz : (0 : Int) ≤ i := by omega
    have hl : (scOffs b).length ≤ 1048576 := by omega
    obtain ⟨r1, r2, r3, r4⟩ := frRange b i (by omega)
    have hm : meets (offFrom (scOffs b) i) (offTo (scOffs b) (scEnd b) i) x y = hitAt b x y i := by unfold hitAt; rw [r1, r2]
    simp only [lit_must, eval_must', eval_ask', eval_ret', if_true, decide_eq_true_eq, Bool.and_eq_true, List.length_map, hi, hi2, hz, hl, tk, ro, im, w1, firstFrom, and_self, hm]
    cases hh : hitAt b x y i with
    | true => simp
    | false => simp only [Bool.false_eq_true, if_false]; exact e
theorem iFirstHit_E : EnvSound Try.prog E_iFirstHit := mkE_sound (by simp [iMeets_sound, iScanText_sound, iFrameAt_sound])
theorem iFirstHit_sound : Sound Try.prog 83 (sg [pS, pI, pI] [rI]) firstHitSpec := vBody_sound (depth := 0) iFirstHit_E Try.func83 (by kernel_rfl) fun cs outs hk h => by
  unfold firstHitSpec at h
  split at h
  · simp only [Option.some.injEq, Prod.mk.injEq, decide_eq_true_eq] at h
    obtain ⟨h1, rfl⟩ := h
    rename_i b x y
    rw [vBody_L, iFirstHit_tree]
    have l1 := len1_str (scRecs b)
    have l2 := len1_int (scOffs b)
    have hg := scan_good b
    have hf := hg.few
    have he := hg.e1
    have hlen := hg.len
    have lp := iFirstHit_loop b x y h1 (scRecs b).length 9223372036854775808 0 (by omega) (by omega)
    have pre : decide (b.length ≤ 1048576) = true := decide_eq_true h1
    cases hr : readHeadOk b with
    | false =>
      simp only [lit_must, lit_no, pre, hr, eval_must', eval_ret', l1, l2, firstHit, true_or, if_true]
      simp
    | true =>
      cases hm : meets 0 24 x y with
      | true =>
        simp only [lit_must, lit_yes, pre, hr, eval_must', eval_ask', eval_ret', l1, l2, firstHit, hm, or_true, if_true]
        simp
      | false =>
        have ef : firstHit b x y = firstFrom b x y (scRecs b).length 0 := by unfold firstHit; rw [if_neg (by simp [hr, hm])]
        rw [ef, ← lp]
        simp only [lit_must, lit_yes, lit_no, pre, hr, eval_must', hm, l1, l2, List.length_map]
        rw [if_pos closedAll]
        rfl
  · cases h

theorem varText_pos (n : Nat) (h : n ≤ 1000000000) : 1 ≤ (varText (n : Int)).length := by
  unfold varText
  rw [if_pos ((in_iff _ _ _).2 ⟨by omega, by omega⟩), Int.toNat_natCast]
  by_cases hn : n < 128
  · rw [varBytes_one 4 n hn]; simp
  · rw [varBytes_more 4 n hn]; simp
theorem rec_short (b : List UInt8) (i : Nat) (h : i < (scRecs b).length) : ((scRecs b).getD i []).length ≤ 60 := by
  refine (scan_good b).recs _ ?_
  simp [List.getD_eq_getElem?_getD, h]
theorem sSizesHit_loop (b : List UInt8) (x y : Int) (hb : b.length ≤ 1048576) : ∀ (f n i : Nat), i + f = (scRecs b).length → f < n →
    (vLoop E_sSizesHit 0 (sg [pS, pI, pI] [rB]) Try.f80 [.r, .r, .r, .l, .r, .b] n (H_sSizesHit b x y i)).eval = some [.bool (anyHit (scRecs b) (scOffs b) x y f i)] := by
  have hg := scan_good b
  have hf := hg.few
  have he := hg.e1
  have hlen := hg.len
  intro f
  induction f with
  | zero =>
    intro n i h1 h2
    obtain ⟨n, rfl⟩ : ∃ m, n = m + 1 := ⟨n - 1, by omega⟩
    rw [vLoop_L _ _ _ _ _ _ _ (by kernel_rfl), sSizesHit_round0]
    have : ¬ ((i : Int) < (scRecs b).length) := by omega
    simp only [eval_must', eval_ask', eval_ret', if_true, decide_eq_true_eq, List.length_map, this, if_false, anyHit]
  | succ f ih =>
    intro n i h1 h2
    obtain ⟨n, rfl⟩ : ∃ m, n = m + 1 := ⟨n - 1, by omega⟩
    rw [vLoop_L _ _ _ _ _ _ _ (by kernel_rfl), sSizesHit_round0]
    have e := ih n (i + 1) (by omega) (by omega)
    have w1 : IntKind.i64.wrap ((i : Int) + 1) = ((i + 1 : Nat) : Int) := by rw [wrap64] <;> omega
    have hi : (i : Int) < (scRecs b).length := by omega
    have hi2 : (i : Int) < (scOffs b).length := by omega
    have hin : i < (scRecs b).length := by omega
    have hin2 : i < (scOffs b).length := by omega
    have hz : (0 : Int) ≤ i := by omega
    have g1 := map_getD eInt (scOffs b) 0 i hin2
    have g2 := map_getD eStr (scRecs b) [] i hin
    have rs := rec_short b i hin
    have v1 := varText_pos ((scRecs b).getD i []).length (by omega)
    have v2 := varText_len (((scRecs b).getD i []).length : Int)
    have o1 := hg.offs i hin2
    have oe : offFrom (scOffs b) i = (scOffs b).getD i 0 := by unfold offFrom; rw [Int.toNat_natCast]
    rw [oe] at o1
    have w2 : IntKind.i64.wrap ((scOffs b).getD i 0 + ((varText (((scRecs b).getD i []).length : Int)).length : Int)) = (scOffs b).getD i 0 + ((varText (((scRecs b).getD i []).length : Int)).length : Int) := by rw [wrap64] <;> omega
    have hm : sizeHit (scRecs b) (scOffs b) x y i = decide (x < (scOffs b).getD i 0 + ((varText (((scRecs b).getD i []).length : Int)).length : Int) ∧ (scOffs b).getD i 0 < y ∧ x < y) := by
      unfold sizeHit
      rw [Bool.eq_iff_iff, meets_iff, decide_eq_true_eq]
      omega
    simp only [lit_must, eval_must', eval_ask', eval_ret', if_true, decide_eq_true_eq, Bool.and_eq_true, List.length_map, hi, hi2, hin, hin2, hz, Nat.zero_add, Int.toNat_natCast, g1, g2, List.getD_cons_zero, C.toInt, C.toStr, C.is, List.length_cons, List.length_nil, Nat.zero_lt_succ, beq_self_eq_true, and_self, Int.ofNat_eq_natCast, w1, w2, anyHit, hm]
    by_cases p1 : x < (scOffs b).getD i 0 + ((varText (((scRecs b).getD i []).length : Int)).length : Int)
    · by_cases p2 : (scOffs b).getD i 0 < y
      · by_cases p3 : x < y
        · simp only [p1, p2, p3, if_true, and_self]
        · simp only [p1, p2, p3, if_true, if_false, and_false]; exact e
      · simp only [p1, p2, if_true, if_false, and_false, false_and]; exact e
    · simp only [p1, if_false, false_and]; exact e
theorem iSizesHit_loop (b : List UInt8) (x y : Int) (hb : b.length ≤ 1048576) : ∀ (f n i : Nat), i + f = (scRecs b).length → f < n →
    (vLoop E_iSizesHit 0 (sg [pS, pI, pI] [rB]) Try.f81 [.r, .r, .r, .l, .r, .b] n (H_iSizesHit b x y ((scOffs b).length : Nat) i)).eval = some [.bool (anyHit (scRecs b) (scOffs b) x y f i)] := by
  have hg := scan_good b
  have hf := hg.few
  have he := hg.e1
  have hlen := hg.len
  intro f
  induction f with
  | zero =>
    intro n i h1 h2
    obtain ⟨n, rfl⟩ : ∃ m, n = m + 1 := ⟨n - 1, by omega⟩
    rw [vLoop_L _ _ _ _ _ _ _ (by kernel_rfl), iSizesHit_round0]
    have : ¬ ((i : Int) < (scOffs b).length) := by omega
    simp only [eval_must', eval_ask', eval_ret', if_true, decide_eq_true_eq, List.length_map, this, if_false, anyHit]
  | succ f ih =>
    intro n i h1 h2
    obtain ⟨n, rfl⟩ : ∃ m, n = m + 1 := ⟨n - 1, by omega⟩
    rw [vLoop_L _ _ _ _ _ _ _ (by kernel_rfl), iSizesHit_round0]
    have e := ih n (i + 1) (by omega) (by omega)
    have w1 : IntKind.i64.wrap ((i : Int) + 1) = ((i + 1 : Nat) : Int) := by rw [wrap64] <;> omega
    have hi : (i : Int) < (scRecs b).length := by omega
    have hi2 : (i : Int) < (scOffs b).length := by omega
    have hin : i < (scRecs b).length := by omega
    have hin2 : i < (scOffs b).length := by omega
    have hz : (0 : Int) ≤ i := by omega
    have g1 := map_getD eInt (scOffs b) 0 i hin2
    have g2 := map_getD eStr (scRecs b) [] i hin
    have v2 := varText_len (((scRecs b).getD i []).length : Int)
    have o1 := hg.offs i hin2
    have oe : offFrom (scOffs b) i = (scOffs b).getD i 0 := by unfold offFrom; rw [Int.toNat_natCast]
    rw [oe] at o1
    have w2 : IntKind.i64.wrap ((scOffs b).getD i 0 + ((varText (((scRecs b).getD i []).length : Int)).length : Int)) = (scOffs b).getD i 0 + ((varText (((scRecs b).getD i []).length : Int)).length : Int) := by rw [wrap64] <;> omega
    have hm : meets ((scOffs b).getD i 0) ((scOffs b).getD i 0 + ((varText (((scRecs b).getD i []).length : Int)).length : Int)) x y = sizeHit (scRecs b) (scOffs b) x y i := rfl
    simp only [lit_must, eval_must', eval_ask', eval_ret', if_true, decide_eq_true_eq, Bool.and_eq_true, List.length_map, hi, hi2, hin, hin2, hz, Nat.zero_add, Int.toNat_natCast, g1, g2, List.getD_cons_zero, C.toInt, C.toStr, C.is, List.length_cons, List.length_nil, Nat.zero_lt_succ, beq_self_eq_true, and_self, Int.ofNat_eq_natCast, w1, w2, anyHit, hm]
    cases hh : sizeHit (scRecs b) (scOffs b) x y i with
    | true => simp
    | false => simp only [Bool.false_eq_true, if_false]; exact e
theorem sSizesHit_E : EnvSound Try.prog E_sSizesHit := mkE_sound (by simp [sVarSize_sound, sScanText_sound])
theorem sSizesHit_sound : Sound Try.prog 80 (sg [pS, pI, pI] [rB]) sizesHitSpec := vBody_sound (depth := 0) sSizesHit_E Try.func80 (by kernel_rfl) fun cs outs hk h => by
  unfold sizesHitSpec at h
  split at h
  · simp only [Option.some.injEq, Prod.mk.injEq, decide_eq_true_eq] at h
    obtain ⟨h1, rfl⟩ := h
    rename_i b x y
    rw [vBody_L, sSizesHit_tree]
    have l1 := len1_str (scRecs b)
    have l2 := len1_int (scOffs b)
    have hg := scan_good b
    have hf := hg.few
    have he := hg.e1
    have hlen := hg.len
    have lp := sSizesHit_loop b x y h1 (scRecs b).length 9223372036854775808 0 (by omega) (by omega)
    have pre : decide (b.length ≤ 1048576) = true := decide_eq_true h1
    cases hr : readHeadOk b with
    | false =>
      simp only [lit_must, lit_no, pre, hr, eval_must', eval_ret', l1, l2, sizesHit, Bool.false_and]
      simp
    | true =>
      by_cases hv : rhV b = 1
      · have ef : sizesHit b x y = anyHit (scRecs b) (scOffs b) x y (scRecs b).length 0 := by unfold sizesHit; rw [hr, decide_eq_true hv]; rfl
        have hb : (rhV b != 1) = false := by simp [hv]
        rw [ef, ← lp]
        simp only [lit_must, lit_yes, lit_no, pre, hr, eval_must', ifI, if_true, hb, l1, l2, List.length_map]
        rw [if_pos closedAll]
        rfl
      · have ef : sizesHit b x y = false := by unfold sizesHit; rw [decide_eq_false hv]; simp
        have hb : (rhV b != 1) = true := by simp [hv]
        simp only [lit_must, lit_yes, lit_no, pre, hr, eval_must', eval_ret', ifI, if_true, hb, l1, l2, ef]
        simp
  · cases h
theorem iSizesHit_E : EnvSound Try.prog E_iSizesHit := mkE_sound (by simp [iMeets_sound, iVarSize_sound, iScanText_sound])
theorem iSizesHit_sound : Sound Try.prog 81 (sg [pS, pI, pI] [rB]) sizesHitSpec := vBody_sound (depth := 0) iSizesHit_E Try.func81 (by kernel_rfl) fun cs outs hk h => by
  unfold sizesHitSpec at h
  split at h
  · simp only [Option.some.injEq, Prod.mk.injEq, decide_eq_true_eq] at h
    obtain ⟨h1, rfl⟩ := h
    rename_i b x y
    rw [vBody_L, iSizesHit_tree]
    have l1 := len1_str (scRecs b)
    have l2 := len1_int (scOffs b)
    have hg := scan_good b
    have hf := hg.few
    have he := hg.e1
    have hlen := hg.len
    have lp := iSizesHit_loop b x y h1 (scRecs b).length 9223372036854775808 0 (by omega) (by omega)
    have pre : decide (b.length ≤ 1048576) = true := decide_eq_true h1
    cases hr : readHeadOk b with
    | false =>
      simp only [lit_must, lit_no, pre, hr, eval_must', eval_ret', l1, l2, sizesHit, Bool.false_and]
      simp
    | true =>
      by_cases hv : rhV b = 1
      · have ef : sizesHit b x y = anyHit (scRecs b) (scOffs b) x y (scRecs b).length 0 := by unfold sizesHit; rw [hr, decide_eq_true hv]; rfl
        have hb : (rhV b != 1) = false := by simp [hv]
        rw [ef, ← lp]
        simp only [lit_must, lit_yes, lit_no, pre, hr, eval_must', ifI, if_true, hb, l1, l2, List.length_map]
        rw [if_pos closedAll]
        rfl
      · have ef : sizesHit b x y = false := by unfold sizesHit; rw [decide_eq_false hv]; simp
        have hb : (rhV b != 1) = true := by simp [hv]
        simp only [lit_must, lit_yes, lit_no, pre, hr, eval_must', eval_ret', ifI, if_true, hb, l1, l2, ef]
        simp
  · cases h

theorem lFrameRange_E : EnvSound Try.prog E_lFrameRange := mkE_sound (by simp [sFrameRange_sound, iFrameRange_sound])
theorem lFrameRange_sound : Sound Try.prog 13 (sg [pS, pI] [rB]) siLaw := vBody_sound (depth := 0) lFrameRange_E Try.func13 (by kernel_rfl) fun cs outs hk h => by
  unfold siLaw at h
  split at h
  · simp only [Option.some.injEq, Prod.mk.injEq, true_and] at h
    rename_i b i
    rw [← h, vBody_L, lFrameRange_tree]
    by_cases hb : (1048576 : Int) < b.length
    · simp [eval_must', eval_ask', eval_ret', hb]
    · have h1 : b.length ≤ 1048576 := by omega
      by_cases hk : frOk b i = true <;> simp [eval_must', eval_ask', eval_ret', hb, h1, hk]
  · cases h
theorem lFirstHit_E : EnvSound Try.prog E_lFirstHit := mkE_sound (by simp [sFirstHit_sound, iFirstHit_sound])
theorem lFirstHit_sound : Sound Try.prog 15 (sg [pS, pI, pI] [rB]) siiFree := vBody_sound (depth := 0) lFirstHit_E Try.func15 (by kernel_rfl) fun cs outs hk h => by
  unfold siiFree at h
  split at h
  · simp only [Option.some.injEq, Prod.mk.injEq, true_and] at h
    rename_i b x y
    rw [← h, vBody_L, lFirstHit_tree]
    by_cases hb : (1048576 : Int) < b.length
    · simp [eval_must', eval_ask', eval_ret', hb]
    · have h1 : b.length ≤ 1048576 := by omega
      simp [eval_must', eval_ask', eval_ret', hb, h1]
  · cases h
theorem lSizesHit_E : EnvSound Try.prog E_lSizesHit := mkE_sound (by simp [sSizesHit_sound, iSizesHit_sound])
theorem lSizesHit_sound : Sound Try.prog 14 (sg [pS, pI, pI] [rB]) siiFree := vBody_sound (depth := 0) lSizesHit_E Try.func14 (by kernel_rfl) fun cs outs hk h => by
  unfold siiFree at h
  split at h
  · simp only [Option.some.injEq, Prod.mk.injEq, true_and] at h
    rename_i b x y
    rw [← h, vBody_L, lSizesHit_tree]
    by_cases hb : (1048576 : Int) < b.length
    · simp [eval_must', eval_ask', eval_ret', hb]
    · have h1 : b.length ≤ 1048576 := by omega
      by_cases hh : sizesHit b x y = true <;> simp [eval_must', eval_ask', eval_ret', hb, h1, hh]
  · cases h

end Go.Proofs.Ythpamcbipmkimaa.V
