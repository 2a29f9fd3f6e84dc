/- Functions of the given program and of its reference: what each returns, as an equation over data; by the interpreter. -/
import Derived.Test.YthpcibaeenlejaaVG
import Derived.Test.YthpcibaeenlejaaProg
import Derived.KernelRfl
set_option linter.unusedVariables false
set_option linter.unusedSimpArgs false
set_option linter.unusedSectionVars false
namespace Go.Proofs.Ythpcibaeenlejaa.V
noncomputable section
def tyTab : List (TypeId × TI) := [(2, ⟨false, [.int .i64], [], 8, false⟩), (3, ⟨false, [.int .i64], [], 8, false⟩), (4, ⟨false, [.bool], [], 1, false⟩), (5, ⟨false, [.int .u8], [], 1, false⟩), (9, ⟨false, [.str], [], 16, false⟩), (31, ⟨false, [.slice 5], [], 24, false⟩), (32, ⟨false, [.int .u64], [], 8, false⟩)]
abbrev Laws := List (FuncId × Sig × Spec)
def mkE (lv : List (Nat × List Nat)) (gs : Laws) : Env := { Ty := tyOf tyTab, Γ := fun g => gs.lookup g, inl := fun _ => none, lv := fun h => (lv.lookup h).getD [], ren := true, fuel := 9223372036854775808, nt := 0 }
abbrev pI : PTy := .val false [.int .i64]
abbrev pU8 : PTy := .val false [.int .u8]
abbrev pS : PTy := .val false [.str]
abbrev rI : RTy := ⟨false, [(.int .i64, false)]⟩
abbrev rB : RTy := ⟨false, [(.bool, false)]⟩
abbrev rS : RTy := ⟨false, [(.str, false)]⟩
def iii_i : Sig := ⟨[pI, pI, pI], [rI], false⟩
def si_s : Sig := ⟨[pS, pI], [rS], false⟩
def si_b : Sig := ⟨[pS, pI], [rB], false⟩
def sii_s : Sig := ⟨[pS, pI, pI], [rS], false⟩
def sii_b : Sig := ⟨[pS, pI, pI], [rB], false⟩
def ss_i : Sig := ⟨[pS, pS], [rI], false⟩
def ss_b : Sig := ⟨[pS, pS], [rB], false⟩
def u8_i : Sig := ⟨[pU8], [rI], false⟩

abbrev int64 (n : Int) : W := .l (.i .i64 n)
abbrev wstr (s : List UInt8) : W := .l (.s s)
abbrev st0 (slots : List (Nat × W)) : St := { slots, heap := [], next := 0, pins := [] }
abbrev st1 (slots : List (Nat × W)) (sz : Nat) (rows : List (List C)) : St := { slots, heap := [(0, .arr sz rows)], next := 1, pins := [] }

def broughtOf (n least most : Int) : Int := if most < least ∨ n < least then least else if n > most then most else n
def broughtSpec : Spec := fun cs => match cs with
  | [.int .i64 n, .int .i64 least, .int .i64 most] => some (true, [.int .i64 (broughtOf n least most)])
  | _ => none
def cutOf (b : List UInt8) (n : Int) : List UInt8 := b.take (broughtOf n 0 b.length).toNat
def cutSpec : Spec := fun cs => match cs with
  | [.str b, .int .i64 n] => some (true, [.str (cutOf b n)])
  | _ => none
def E0 : Env := mkE [] []
def E11 : Env := mkE [] [(21, iii_i, broughtSpec), (22, iii_i, broughtSpec)]
def E4 : Env := mkE [] [(11, si_s, cutSpec), (12, si_s, cutSpec)]

def E13 : Env := mkE [(5, [1, 2, 7, 8])] []
def E14 : Env := mkE [(3, [1, 2, 7, 12])] []
def E15 : Env := mkE [(3, [0, 1, 5, 6]), (6, [0, 1, 5, 6, 7])] []
def E17 : Env := mkE [(7, [0, 1, 5, 6])] []
def E18 : Env := mkE [(4, [0, 1, 5])] []
def E19 : Env := mkE [(2, [0, 1, 5])] []
def E20 : Env := mkE [(3, [0, 1, 5, 12, 13])] []
def H13 (at' bits : Int) (rows : List (List C)) (n : Nat) (i : Int) : St := st1 [(1, int64 at'), (2, int64 bits), (7, .l (.ref 0 0 n)), (8, int64 i)] 1 rows
def H14 (at' bits : Int) (rows : List (List C)) (n : Nat) (i : Int) : St := st1 [(1, int64 at'), (2, int64 bits), (7, .l (.ref 0 0 n)), (12, int64 i)] 1 rows
def H15a (b c : List UInt8) (n i : Int) : St := st0 [(0, wstr b), (1, wstr c), (5, int64 n), (6, int64 i)]
def H15b (b c : List UInt8) (n i x : Int) : St := st0 [(0, wstr b), (1, wstr c), (5, int64 n), (6, int64 i), (7, int64 x)]
def H17 (b c : List UInt8) (n i : Int) : St := st0 [(0, wstr b), (1, wstr c), (5, int64 n), (6, int64 i)]
def H18 (b c : List UInt8) (n : Int) : St := st0 [(0, wstr b), (1, wstr c), (5, int64 n)]
def H19 (b c : List UInt8) (i : Int) : St := st0 [(0, wstr b), (1, wstr c), (5, int64 i)]
def H20 (b c : List UInt8) (n m i : Int) : St := st0 [(0, wstr b), (1, wstr c), (5, int64 n), (12, int64 m), (13, int64 i)]

def H16 (b c : List UInt8) (sum m i : Int) : St := st0 [(0, wstr b), (1, wstr c), (6, int64 sum), (21, int64 m), (22, int64 i)]
def strConst : Code → Option (List UInt8)
  | .region _ ops _ => ops.toList.findSome? fun o => o.op.operands.toList.findSome? fun x => match x with | .const (.string s) => if s.data.toList.length = 0 then none else some s.data.toList | _ => none
  | .seq a b => match strConst a with | some x => some x | none => strConst b
  | _ => none
def pop8 : List UInt8 := match Try.f23.body with | some c => (strConst c).getD [] | none => []
def onesOf (x : Int) : Int := IntKind.i64.wrap ((pop8.getD x.toNat 0).toNat : Int)
def onesSpec : Spec := fun cs => match cs with
  | [.int .u8 x] => some (decide (0 ≤ x ∧ x ≤ 255), [.int .i64 (onesOf x)])
  | _ => none
def E16 : Env := mkE [(4, [0, 1, 6, 21, 22])] [(23, u8_i, onesSpec)]
/-- bit i of 'bits' turned at bit place at + i -/
def turnStep (at' bits : Int) (l : List UInt8) (i : Nat) : List UInt8 :=
  if iand .i64 (ishr .i64 bits i) 1 = 1 ∧ 0 ≤ at' ∧ at' + i < 8 * l.length then
    l.set ((at' + i) / 8).toNat (UInt8.ofNat (ixor .u8 ((l.getD ((at' + i) / 8).toNat 0).toNat : Int) (ishl .u8 1 ((at' + i) % 8))).toNat)
  else l
def turnOf (b : List UInt8) (at' bits : Int) : List UInt8 := (List.range 32).foldl (turnStep at' bits) b
def turnSpec : Spec := fun cs => match cs with
  | [.str b, .int .i64 a, .int .i64 m] => some (decide (b.length ≤ 1048576) && decide (-9223372036854775808 ≤ a) && decide (a ≤ 9223372036854775807), [.str (turnOf b a m)])
  | _ => none
/-- how many bits of a byte are set, read one by one -/
def bitCount : Nat → Int → Int
  | 0, _ => 0
  | n + 1, x => x % 2 + bitCount n (x / 2)
def bitsTo (b c : List UInt8) : Nat → Int
  | 0 => 0
  | i + 1 => bitsTo b c i + bitCount 8 (ixor .u8 (b.getD i 0).toNat (c.getD i 0).toNat)
def bitsOf (b c : List UInt8) : Int := bitsTo b c (min b.length c.length) + 8 * ((max b.length c.length - min b.length c.length : Nat) : Int)
def ss_spec (f : List UInt8 → List UInt8 → Int) : Spec := fun cs => match cs with
  | [.str b, .str c] => some (decide (b.length ≤ 1048576) && decide (c.length ≤ 1048576), [.int .i64 (f b c)])
  | _ => none
/-- how far two texts are alike -/
def common : List UInt8 → List UInt8 → Nat
  | x :: xs, y :: ys => if x = y then common xs ys + 1 else 0
  | _, _ => 0
def firstOf (b c : List UInt8) : Int := if b = c then -1 else common b c
def lastDiff (b c : List UInt8) : Nat → Nat
  | 0 => 0
  | i + 1 => if b.getD i 0 = c.getD i 0 then lastDiff b c i else i + 1
def endOf (b c : List UInt8) : Int := if b.length = c.length then (lastDiff b c b.length : Int) else imax b.length c.length
def E5 : Env := mkE [] [(13, sii_s, turnSpec), (14, sii_s, turnSpec)]
def E6 : Env := mkE [] [(15, ss_i, ss_spec bitsOf), (16, ss_i, ss_spec bitsOf)]
def E7 : Env := mkE [] [(17, ss_i, ss_spec endOf), (18, ss_i, ss_spec endOf)]
def E8 : Env := mkE [] [(19, ss_i, ss_spec firstOf), (20, ss_i, ss_spec firstOf)]
end
end Go.Proofs.Ythpcibaeenlejaa.V

namespace Go.Proofs.Ythpcibaeenlejaa.V
theorem f21_tree (H : List Pt → Nat → St → T (List C)) (n : Int) (a : Int) (b : Int) : vBodyL E0 (0 : Nat) iii_i Try.f21 H [C.int IntKind.i64 n, C.int IntKind.i64 a, C.int IntKind.i64 b] =
 (.must true
 (.ask (decide (b < a))
  (.must true
   (.ret [C.int IntKind.i64 a]))
  (.ask (decide (n < a))
   (.must true
    (.ret [C.int IntKind.i64 a]))
   (.ask (decide (b < n))
    (.must true
     (.ret [C.int IntKind.i64 b]))
    (.must true
     (.ret [C.int IntKind.i64 n])))))) := by kernel_rfl
theorem f22_tree (H : List Pt → Nat → St → T (List C)) (n : Int) (a : Int) (b : Int) : vBodyL E0 (0 : Nat) iii_i Try.f22 H [C.int IntKind.i64 n, C.int IntKind.i64 a, C.int IntKind.i64 b] =
 (.must true
 (.ask (decide (b < a))
  (.must true
   (.ret [C.int IntKind.i64 a]))
  (.must true
   (.ret [C.int IntKind.i64 (imin (imax n a) b)])))) := by kernel_rfl
theorem f11_tree (H : List Pt → Nat → St → T (List C)) (b : List UInt8) (n : Int) : vBodyL E11 (0 : Nat) si_s Try.f11 H [C.str b, C.int IntKind.i64 n] =
 (.must true
 (.must true
  (.must true
   (.must true
    (.must (decide ((0 : Int) ≤ broughtOf n (0 : Int) (↑b.length : Int)) &&
  decide (broughtOf n (0 : Int) (↑b.length : Int) ≤ (↑b.length : Int)))
     (.must true
      (.ret [C.str (List.take (broughtOf n (0 : Int) (↑b.length : Int)).toNat b)]))))))) := by kernel_rfl
theorem f12_tree (H : List Pt → Nat → St → T (List C)) (b : List UInt8) (n : Int) : vBodyL E11 (0 : Nat) si_s Try.f12 H [C.str b, C.int IntKind.i64 n] =
 (.must true
 (.must true
  (.must true
   (.must true
    (.must (decide ((0 : Int) ≤ broughtOf n (0 : Int) (↑b.length : Int)) &&
  decide (broughtOf n (0 : Int) (↑b.length : Int) ≤ (↑b.length : Int)))
     (.must true
      (.ret [C.str (List.take (broughtOf n (0 : Int) (↑b.length : Int)).toNat b)]))))))) := by kernel_rfl
theorem f4_tree (H : List Pt → Nat → St → T (List C)) (b : List UInt8) (n : Int) : vBodyL E4 (0 : Nat) si_b Try.f4 H [C.str b, C.int IntKind.i64 n] =
 (.must true
 (.ask (decide ((1048576 : Int) < (↑b.length : Int)))
  (.must true
   (.ret [C.bool true]))
  (.must true
   (.must true
    (.must true
     (.must true
      (.must true
       (.must true
        (.ask (!cutOf b n == cutOf b n)
         (.must true
          (.ret [C.bool false]))
         (.must true
          (.ret [C.bool true]))))))))))) := by kernel_rfl
theorem f19_tree (H : List Pt → Nat → St → T (List C)) (b : List UInt8) (c : List UInt8) : vBodyL E19 (0 : Nat) ss_i Try.f19 H [C.str b, C.str c] =
 (.must true
 (H [Pt.r, Pt.l, Pt.r, Pt.b] (9223372036854775808 : Nat) (H19 (b) (c) ((0 : Int))))) := by kernel_rfl
theorem f19_round (H : List Pt → Nat → St → T (List C)) (n : Nat) (b : List UInt8) (c : List UInt8) (i : Int) : vRound E19 (0 : Nat) ss_i Try.f19 H [Pt.r, Pt.l, Pt.r, Pt.b] n (H19 b c i) =
 (.ask (decide (i < (↑b.length : Int)))
 (.ask (decide (i < (↑c.length : Int)))
  (.must (decide ((0 : Int) ≤ i) && decide (i < (↑b.length : Int)))
   (.must (decide ((0 : Int) ≤ i) && decide (i < (↑c.length : Int)))
    (.ask ((↑(b.getD i.toNat (0 : UInt8)).toNat : Int) != (↑(c.getD i.toNat (0 : UInt8)).toNat : Int))
     (.must true
      (.ret [C.int IntKind.i64 i]))
     (H [Pt.r, Pt.l, Pt.r, Pt.b] n (H19 (b) (c) (IntKind.i64.wrap (i + (1 : Int))))))))
  (.ask (decide ((↑b.length : Int) < (↑c.length : Int)))
   (.must true
    (.ret [C.int IntKind.i64 (↑b.length : Int)]))
   (.ask (decide ((↑c.length : Int) < (↑b.length : Int)))
    (.must true
     (.ret [C.int IntKind.i64 (↑c.length : Int)]))
    (.must true
     (.ret [C.int IntKind.i64 (-1 : Int)])))))
 (.ask (decide ((↑b.length : Int) < (↑c.length : Int)))
  (.must true
   (.ret [C.int IntKind.i64 (↑b.length : Int)]))
  (.ask (decide ((↑c.length : Int) < (↑b.length : Int)))
   (.must true
    (.ret [C.int IntKind.i64 (↑c.length : Int)]))
   (.must true
    (.ret [C.int IntKind.i64 (-1 : Int)]))))) := by kernel_rfl
theorem f20_tree (H : List Pt → Nat → St → T (List C)) (b : List UInt8) (c : List UInt8) : vBodyL E20 (0 : Nat) ss_i Try.f20 H [C.str b, C.str c] =
 (.must true
 (H [Pt.r, Pt.r, Pt.l, Pt.r, Pt.b] (9223372036854775808 : Nat) (H20 (b) (c) (imin (↑b.length : Int) (↑c.length : Int)) (imin (↑b.length : Int) (↑c.length : Int)) ((0 : Int))))) := by kernel_rfl
theorem f20_round (H : List Pt → Nat → St → T (List C)) (k : Nat) (b : List UInt8) (c : List UInt8) (n : Int) (m : Int) (i : Int) : vRound E20 (0 : Nat) ss_i Try.f20 H [Pt.r, Pt.r, Pt.l, Pt.r, Pt.b] k (H20 b c n m i) =
 (.ask (decide (i < m))
 (.must (decide ((0 : Int) ≤ i) && decide (i < (↑b.length : Int)))
  (.must (decide ((0 : Int) ≤ i) && decide (i < (↑c.length : Int)))
   (.ask ((↑(b.getD i.toNat (0 : UInt8)).toNat : Int) != (↑(c.getD i.toNat (0 : UInt8)).toNat : Int))
    (.must true
     (.ret [C.int IntKind.i64 i]))
    (H [Pt.r, Pt.r, Pt.l, Pt.r, Pt.b] k (H20 (b) (c) (n) (m) (IntKind.i64.wrap (i + (1 : Int))))))))
 (.ask (decide ((↑b.length : Int) = (↑c.length : Int)))
  (.must true
   (.ret [C.int IntKind.i64 (-1 : Int)]))
  (.must true
   (.ret [C.int IntKind.i64 n])))) := by kernel_rfl
theorem f13_tree (H : List Pt → Nat → St → T (List C)) (b : List UInt8) (a : Int) (m : Int) : vBodyL E13 (0 : Nat) sii_s Try.f13 H [C.str b, C.int IntKind.i64 a, C.int IntKind.i64 m] =
 (.must true
 (.ask (decide (a < (0 : Int)))
  (.must true
   (.ret [C.str b]))
  (H [Pt.r, Pt.r, Pt.r, Pt.l, Pt.r, Pt.b] (9223372036854775808 : Nat) (H13 (a) (m) (rowsOfStr b) (b.length) ((0 : Int)))))) := by kernel_rfl
theorem f13_round (H : List Pt → Nat → St → T (List C)) (n : Nat) (a : Int) (m : Int) (r : List (List C)) (l : Nat) (i : Int) : vRound E13 (0 : Nat) sii_s Try.f13 H [Pt.r, Pt.r, Pt.r, Pt.l, Pt.r, Pt.b] n (H13 a m r l i) =
 (.ask (decide (i < (32 : Int)))
 (.must (decide ((0 : Int) ≤ IntKind.u64.wrap i))
  (.ask (decide (iand IntKind.i64 (ishr IntKind.i64 m (IntKind.u64.wrap i)) (1 : Int) = (1 : Int)))
   (.ask (decide (a < IntKind.i64.wrap (IntKind.i64.wrap ((8 : Int) * (↑l : Int)) - i)))
    (.must true
     (.must true
      (.must (decide ((0 : Int) ≤ IntKind.i64.wrap ((IntKind.i64.wrap (a + i)).tdiv (8 : Int))) &&
  decide (IntKind.i64.wrap ((IntKind.i64.wrap (a + i)).tdiv (8 : Int)) < (↑l : Int)))
       (.must (decide ((0 : Nat) + (IntKind.i64.wrap ((IntKind.i64.wrap (a + i)).tdiv (8 : Int))).toNat < r.length) &&
  (decide
        ((0 : Nat) <
          (r.getD ((0 : Nat) + (IntKind.i64.wrap ((IntKind.i64.wrap (a + i)).tdiv (8 : Int))).toNat) []).length) &&
      C.is (K.int IntKind.u8)
        ((r.getD ((0 : Nat) + (IntKind.i64.wrap ((IntKind.i64.wrap (a + i)).tdiv (8 : Int))).toNat) []).getD (0 : Nat)
          (C.fn (0 : FuncId) [])) &&
    true))
        (.must true
         (.must (decide ((0 : Int) ≤ IntKind.u64.wrap ((IntKind.i64.wrap (a + i)).tmod (8 : Int))))
          (.must (decide ((0 : Int) ≤ IntKind.i64.wrap ((IntKind.i64.wrap (a + i)).tdiv (8 : Int))) &&
  decide (IntKind.i64.wrap ((IntKind.i64.wrap (a + i)).tdiv (8 : Int)) < (↑l : Int)))
           (.must (decide ((0 : Nat) + (IntKind.i64.wrap ((IntKind.i64.wrap (a + i)).tdiv (8 : Int))).toNat < r.length))
            (H [Pt.r, Pt.r, Pt.r, Pt.l, Pt.r, Pt.b] n (H13 (a) (m) (r.set ((0 : Nat) + (IntKind.i64.wrap ((IntKind.i64.wrap (a + i)).tdiv (8 : Int))).toNat)
  (C.int IntKind.u8
      (ixor IntKind.u8
        ((r.getD ((0 : Nat) + (IntKind.i64.wrap ((IntKind.i64.wrap (a + i)).tdiv (8 : Int))).toNat) []).getD (0 : Nat)
            (C.fn (0 : FuncId) [])).toInt
        (ishl IntKind.u8 (1 : Int) (IntKind.u64.wrap ((IntKind.i64.wrap (a + i)).tmod (8 : Int))))) ::
    List.drop ((0 : Nat) + (1 : Nat))
      (r.getD ((0 : Nat) + (IntKind.i64.wrap ((IntKind.i64.wrap (a + i)).tdiv (8 : Int))).toNat) []))) (l) (IntKind.i64.wrap (i + (1 : Int)))))))))))))
    (H [Pt.r, Pt.r, Pt.r, Pt.l, Pt.r, Pt.b] n (H13 (a) (m) (r) (l) (IntKind.i64.wrap (i + (1 : Int))))))
   (H [Pt.r, Pt.r, Pt.r, Pt.l, Pt.r, Pt.b] n (H13 (a) (m) (r) (l) (IntKind.i64.wrap (i + (1 : Int)))))))
 (.must ((List.take l r).all byteRow)
  (.must true
   (.ret [C.str (strOfRows (List.take l r))])))) := by kernel_rfl
theorem f14_tree (H : List Pt → Nat → St → T (List C)) (b : List UInt8) (a : Int) (m : Int) : vBodyL E14 (0 : Nat) sii_s Try.f14 H [C.str b, C.int IntKind.i64 a, C.int IntKind.i64 m] =
 (.must true
 (H [Pt.r, Pt.r, Pt.l, Pt.r, Pt.b] (9223372036854775808 : Nat) (H14 (a) (m) (rowsOfStr b) (b.length) ((0 : Int))))) := by kernel_rfl
theorem f14_round (H : List Pt → Nat → St → T (List C)) (n : Nat) (a : Int) (m : Int) (r : List (List C)) (l : Nat) (i : Int) : vRound E14 (0 : Nat) sii_s Try.f14 H [Pt.r, Pt.r, Pt.l, Pt.r, Pt.b] n (H14 a m r l i) =
 (.ask (decide (i < (32 : Int)))
 (.must (decide ((0 : Int) ≤ i))
  (.ask (decide (iand IntKind.i64 (ishr IntKind.i64 m i) (1 : Int) = (1 : Int)))
   (.ask (decide ((0 : Int) ≤ a))
    (.ask (decide (a < IntKind.i64.wrap ((8 : Int) * (↑l : Int))))
     (.ask (decide (IntKind.i64.wrap (a + i) < IntKind.i64.wrap ((8 : Int) * (↑l : Int))))
      (.must true
       (.must (decide ((0 : Int) ≤ IntKind.i64.wrap ((IntKind.i64.wrap (a + i)).tdiv (8 : Int))) &&
  decide (IntKind.i64.wrap ((IntKind.i64.wrap (a + i)).tdiv (8 : Int)) < (↑l : Int)))
        (.must (decide ((0 : Nat) + (IntKind.i64.wrap ((IntKind.i64.wrap (a + i)).tdiv (8 : Int))).toNat < r.length) &&
  (decide
        ((0 : Nat) <
          (r.getD ((0 : Nat) + (IntKind.i64.wrap ((IntKind.i64.wrap (a + i)).tdiv (8 : Int))).toNat) []).length) &&
      C.is (K.int IntKind.u8)
        ((r.getD ((0 : Nat) + (IntKind.i64.wrap ((IntKind.i64.wrap (a + i)).tdiv (8 : Int))).toNat) []).getD (0 : Nat)
          (C.fn (0 : FuncId) [])) &&
    true))
         (.must true
          (.must (decide ((0 : Int) ≤ (IntKind.i64.wrap (a + i)).tmod (8 : Int)))
           (.must (decide ((0 : Int) ≤ IntKind.i64.wrap ((IntKind.i64.wrap (a + i)).tdiv (8 : Int))) &&
  decide (IntKind.i64.wrap ((IntKind.i64.wrap (a + i)).tdiv (8 : Int)) < (↑l : Int)))
            (.must (decide ((0 : Nat) + (IntKind.i64.wrap ((IntKind.i64.wrap (a + i)).tdiv (8 : Int))).toNat < r.length))
             (H [Pt.r, Pt.r, Pt.l, Pt.r, Pt.b] n (H14 (a) (m) (r.set ((0 : Nat) + (IntKind.i64.wrap ((IntKind.i64.wrap (a + i)).tdiv (8 : Int))).toNat)
  (C.int IntKind.u8
      (ixor IntKind.u8
        ((r.getD ((0 : Nat) + (IntKind.i64.wrap ((IntKind.i64.wrap (a + i)).tdiv (8 : Int))).toNat) []).getD (0 : Nat)
            (C.fn (0 : FuncId) [])).toInt
        (ishl IntKind.u8 (1 : Int) ((IntKind.i64.wrap (a + i)).tmod (8 : Int)))) ::
    List.drop ((0 : Nat) + (1 : Nat))
      (r.getD ((0 : Nat) + (IntKind.i64.wrap ((IntKind.i64.wrap (a + i)).tdiv (8 : Int))).toNat) []))) (l) (IntKind.i64.wrap (i + (1 : Int))))))))))))
      (H [Pt.r, Pt.r, Pt.l, Pt.r, Pt.b] n (H14 (a) (m) (r) (l) (IntKind.i64.wrap (i + (1 : Int))))))
     (H [Pt.r, Pt.r, Pt.l, Pt.r, Pt.b] n (H14 (a) (m) (r) (l) (IntKind.i64.wrap (i + (1 : Int))))))
    (H [Pt.r, Pt.r, Pt.l, Pt.r, Pt.b] n (H14 (a) (m) (r) (l) (IntKind.i64.wrap (i + (1 : Int))))))
   (H [Pt.r, Pt.r, Pt.l, Pt.r, Pt.b] n (H14 (a) (m) (r) (l) (IntKind.i64.wrap (i + (1 : Int)))))))
 (.must ((List.take l r).all byteRow)
  (.must true
   (.ret [C.str (strOfRows (List.take l r))])))) := by kernel_rfl
theorem f15_tree (H : List Pt → Nat → St → T (List C)) (b : List UInt8) (c : List UInt8) : vBodyL E15 (0 : Nat) ss_i Try.f15 H [C.str b, C.str c] =
 (.must true
 (H [Pt.r, Pt.r, Pt.l, Pt.r, Pt.b] (9223372036854775808 : Nat) (H15a (b) (c) ((0 : Int)) ((0 : Int))))) := by kernel_rfl
theorem f15_round (H : List Pt → Nat → St → T (List C)) (k : Nat) (b : List UInt8) (c : List UInt8) (n : Int) (i : Int) : vRound E15 (0 : Nat) ss_i Try.f15 H [Pt.r, Pt.r, Pt.l, Pt.r, Pt.b] k (H15a b c n i) =
 (.ask (decide (i < (↑b.length : Int)))
 (.ask (decide (i < (↑c.length : Int)))
  (.must (decide ((0 : Int) ≤ i) && decide (i < (↑b.length : Int)))
   (.must (decide ((0 : Int) ≤ i) && decide (i < (↑c.length : Int)))
    (H [Pt.r, Pt.r, Pt.l, Pt.r, Pt.b, Pt.lp k, Pt.r, Pt.l, Pt.b, Pt.r, Pt.b] (9223372036854775808 : Nat) (H15b (b) (c) (n) (i) (IntKind.i64.wrap
  (ixor IntKind.u8 (↑(b.getD i.toNat (0 : UInt8)).toNat : Int) (↑(c.getD i.toNat (0 : UInt8)).toNat : Int)))))))
  (.ask (decide ((↑c.length : Int) < (↑b.length : Int)))
   (.must true
    (.ret [C.int IntKind.i64
    (IntKind.i64.wrap (n + IntKind.i64.wrap ((8 : Int) * IntKind.i64.wrap ((↑b.length : Int) - (↑c.length : Int)))))]))
   (.must true
    (.ret [C.int IntKind.i64
    (IntKind.i64.wrap (n + IntKind.i64.wrap ((8 : Int) * IntKind.i64.wrap ((↑c.length : Int) - (↑b.length : Int)))))]))))
 (.ask (decide ((↑c.length : Int) < (↑b.length : Int)))
  (.must true
   (.ret [C.int IntKind.i64
    (IntKind.i64.wrap (n + IntKind.i64.wrap ((8 : Int) * IntKind.i64.wrap ((↑b.length : Int) - (↑c.length : Int)))))]))
  (.must true
   (.ret [C.int IntKind.i64
    (IntKind.i64.wrap (n + IntKind.i64.wrap ((8 : Int) * IntKind.i64.wrap ((↑c.length : Int) - (↑b.length : Int)))))])))) := by kernel_rfl
theorem f15_roundb (H : List Pt → Nat → St → T (List C)) (m : Nat) (k : Nat) (b : List UInt8) (c : List UInt8) (n : Int) (i : Int) (x : Int) : vRound E15 (0 : Nat) ss_i Try.f15 H [Pt.r, Pt.r, Pt.l, Pt.r, Pt.b, Pt.lp m, Pt.r, Pt.l, Pt.b, Pt.r, Pt.b] k
  (H15b b c n i x) =
 (.ask (decide ((0 : Int) < x))
 (.must true
  (H [Pt.r, Pt.r, Pt.l, Pt.r, Pt.b, Pt.lp m, Pt.r, Pt.l, Pt.b, Pt.r, Pt.b] k (H15b (b) (c) (IntKind.i64.wrap (n + iand IntKind.i64 x (1 : Int))) (i) (ishr IntKind.i64 x (1 : Int)))))
 (H [Pt.r, Pt.r, Pt.l, Pt.r, Pt.b] m (H15a (b) (c) (n) (IntKind.i64.wrap (i + (1 : Int)))))) := by kernel_rfl
theorem f16_tree (H : List Pt → Nat → St → T (List C)) (b : List UInt8) (c : List UInt8) : vBodyL E16 (0 : Nat) ss_i Try.f16 H [C.str b, C.str c] =
 (.must true
 (H [Pt.r, Pt.r, Pt.r, Pt.l, Pt.r, Pt.b] (9223372036854775808 : Nat) (H16 (b) (c) (IntKind.i64.wrap
  ((8 : Int) * IntKind.i64.wrap (imax (↑b.length : Int) (↑c.length : Int) - imin (↑b.length : Int) (↑c.length : Int)))) (imin (↑b.length : Int) (↑c.length : Int)) ((0 : Int))))) := by kernel_rfl
theorem f16_round (H : List Pt → Nat → St → T (List C)) (k : Nat) (b : List UInt8) (c : List UInt8) (s : Int) (m : Int) (i : Int) : vRound E16 (0 : Nat) ss_i Try.f16 H [Pt.r, Pt.r, Pt.r, Pt.l, Pt.r, Pt.b] k (H16 b c s m i) =
 (.ask (decide (i < m))
 (.must (decide ((0 : Int) ≤ i) && decide (i < (↑b.length : Int)))
  (.must (decide ((0 : Int) ≤ i) && decide (i < (↑c.length : Int)))
   (.must true
    (.must (decide
  ((0 : Int) ≤ ixor IntKind.u8 (↑(b.getD i.toNat (0 : UInt8)).toNat : Int) (↑(c.getD i.toNat (0 : UInt8)).toNat : Int) ∧
    ixor IntKind.u8 (↑(b.getD i.toNat (0 : UInt8)).toNat : Int) (↑(c.getD i.toNat (0 : UInt8)).toNat : Int) ≤
      (255 : Int)))
     (.must true
      (H [Pt.r, Pt.r, Pt.r, Pt.l, Pt.r, Pt.b] k (H16 (b) (c) (IntKind.i64.wrap
  (s + onesOf (ixor IntKind.u8 (↑(b.getD i.toNat (0 : UInt8)).toNat : Int) (↑(c.getD i.toNat (0 : UInt8)).toNat : Int)))) (m) (IntKind.i64.wrap (i + (1 : Int))))))))))
 (.must true
  (.ret [C.int IntKind.i64 s]))) := by kernel_rfl
theorem f17_tree (H : List Pt → Nat → St → T (List C)) (b : List UInt8) (c : List UInt8) : vBodyL E17 (0 : Nat) ss_i Try.f17 H [C.str b, C.str c] =
 (.must true
 (.ask ((↑b.length : Int) != (↑c.length : Int))
  (.ask (decide ((↑c.length : Int) < (↑b.length : Int)))
   (.must true
    (.ret [C.int IntKind.i64 (↑b.length : Int)]))
   (.must true
    (.ret [C.int IntKind.i64 (↑c.length : Int)])))
  (H [Pt.r, Pt.r, Pt.r, Pt.l, Pt.r, Pt.b] (9223372036854775808 : Nat) (H17 (b) (c) ((0 : Int)) ((0 : Int)))))) := by kernel_rfl
theorem f17_round (H : List Pt → Nat → St → T (List C)) (k : Nat) (b : List UInt8) (c : List UInt8) (n : Int) (i : Int) : vRound E17 (0 : Nat) ss_i Try.f17 H [Pt.r, Pt.r, Pt.r, Pt.l, Pt.r, Pt.b] k (H17 b c n i) =
 (.ask (decide (i < (↑b.length : Int)))
 (.must (decide ((0 : Int) ≤ i) && decide (i < (↑b.length : Int)))
  (.must (decide ((0 : Int) ≤ i) && decide (i < (↑c.length : Int)))
   (.ask ((↑(b.getD i.toNat (0 : UInt8)).toNat : Int) != (↑(c.getD i.toNat (0 : UInt8)).toNat : Int))
    (H [Pt.r, Pt.r, Pt.r, Pt.l, Pt.r, Pt.b] k (H17 (b) (c) (IntKind.i64.wrap (i + (1 : Int))) (IntKind.i64.wrap (i + (1 : Int)))))
    (H [Pt.r, Pt.r, Pt.r, Pt.l, Pt.r, Pt.b] k (H17 (b) (c) (n) (IntKind.i64.wrap (i + (1 : Int))))))))
 (.must true
  (.ret [C.int IntKind.i64 n]))) := by kernel_rfl
theorem f18_tree (H : List Pt → Nat → St → T (List C)) (b : List UInt8) (c : List UInt8) : vBodyL E18 (0 : Nat) ss_i Try.f18 H [C.str b, C.str c] =
 (.must true
 (.ask ((↑b.length : Int) != (↑c.length : Int))
  (.must true
   (.ret [C.int IntKind.i64 (imax (↑b.length : Int) (↑c.length : Int))]))
  (H [Pt.r, Pt.r, Pt.r, Pt.l, Pt.b] (9223372036854775808 : Nat) (H18 (b) (c) ((↑b.length : Int)))))) := by kernel_rfl
theorem f18_round (H : List Pt → Nat → St → T (List C)) (k : Nat) (b : List UInt8) (c : List UInt8) (n : Int) : vRound E18 (0 : Nat) ss_i Try.f18 H [Pt.r, Pt.r, Pt.r, Pt.l, Pt.b] k (H18 b c n) =
 (.ask (decide ((0 : Int) < n))
 (.must (decide ((0 : Int) ≤ IntKind.i64.wrap (n - (1 : Int))) && decide (IntKind.i64.wrap (n - (1 : Int)) < (↑b.length : Int)))
  (.must (decide ((0 : Int) ≤ IntKind.i64.wrap (n - (1 : Int))) && decide (IntKind.i64.wrap (n - (1 : Int)) < (↑c.length : Int)))
   (.ask (decide
  ((↑(b.getD (IntKind.i64.wrap (n - (1 : Int))).toNat (0 : UInt8)).toNat : Int) =
    (↑(c.getD (IntKind.i64.wrap (n - (1 : Int))).toNat (0 : UInt8)).toNat : Int)))
    (H [Pt.r, Pt.r, Pt.r, Pt.l, Pt.b] k (H18 (b) (c) (IntKind.i64.wrap (n - (1 : Int)))))
    (.must true
     (.ret [C.int IntKind.i64 n])))))
 (.must true
  (.ret [C.int IntKind.i64 n]))) := by kernel_rfl
theorem f5_tree (H : List Pt → Nat → St → T (List C)) (b : List UInt8) (a : Int) (m : Int) : vBodyL E5 (0 : Nat) sii_b Try.f5 H [C.str b, C.int IntKind.i64 a, C.int IntKind.i64 m] =
 (.must true
 (.ask (decide ((1048576 : Int) < (↑b.length : Int)))
  (.must true
   (.ret [C.bool true]))
  (.must true
   (.must (decide (b.length ≤ (1048576 : Nat)) && decide ((-9223372036854775808 : Int) ≤ a) &&
  decide (a ≤ (9223372036854775807 : Int)))
    (.must true
     (.must true
      (.must (decide (b.length ≤ (1048576 : Nat)) && decide ((-9223372036854775808 : Int) ≤ a) &&
  decide (a ≤ (9223372036854775807 : Int)))
       (.must true
        (.ask (!turnOf b a m == turnOf b a m)
         (.must true
          (.ret [C.bool false]))
         (.must true
          (.ret [C.bool true]))))))))))) := by kernel_rfl
theorem f6_tree (H : List Pt → Nat → St → T (List C)) (b : List UInt8) (c : List UInt8) : vBodyL E6 (0 : Nat) ss_b Try.f6 H [C.str b, C.str c] =
 (.must true
 (.ask (decide ((1048576 : Int) < (↑b.length : Int)))
  (.must true
   (.ret [C.bool true]))
  (.ask (decide ((1048576 : Int) < (↑c.length : Int)))
   (.must true
    (.ret [C.bool true]))
   (.must true
    (.must (decide (b.length ≤ (1048576 : Nat)) && decide (c.length ≤ (1048576 : Nat)))
     (.must true
      (.must true
       (.must (decide (b.length ≤ (1048576 : Nat)) && decide (c.length ≤ (1048576 : Nat)))
        (.must true
         (.ask (bitsOf b c != bitsOf b c)
          (.must true
           (.ret [C.bool false]))
          (.must true
           (.ret [C.bool true])))))))))))) := by kernel_rfl
theorem f7_tree (H : List Pt → Nat → St → T (List C)) (b : List UInt8) (c : List UInt8) : vBodyL E7 (0 : Nat) ss_b Try.f7 H [C.str b, C.str c] =
 (.must true
 (.ask (decide ((1048576 : Int) < (↑b.length : Int)))
  (.must true
   (.ret [C.bool true]))
  (.ask (decide ((1048576 : Int) < (↑c.length : Int)))
   (.must true
    (.ret [C.bool true]))
   (.must true
    (.must (decide (b.length ≤ (1048576 : Nat)) && decide (c.length ≤ (1048576 : Nat)))
     (.must true
      (.must true
       (.must (decide (b.length ≤ (1048576 : Nat)) && decide (c.length ≤ (1048576 : Nat)))
        (.must true
         (.ask (endOf b c != endOf b c)
          (.must true
           (.ret [C.bool false]))
          (.must true
           (.ret [C.bool true])))))))))))) := by kernel_rfl
theorem f8_tree (H : List Pt → Nat → St → T (List C)) (b : List UInt8) (c : List UInt8) : vBodyL E8 (0 : Nat) ss_b Try.f8 H [C.str b, C.str c] =
 (.must true
 (.ask (decide ((1048576 : Int) < (↑b.length : Int)))
  (.must true
   (.ret [C.bool true]))
  (.ask (decide ((1048576 : Int) < (↑c.length : Int)))
   (.must true
    (.ret [C.bool true]))
   (.must true
    (.must (decide (b.length ≤ (1048576 : Nat)) && decide (c.length ≤ (1048576 : Nat)))
     (.must true
      (.must true
       (.must (decide (b.length ≤ (1048576 : Nat)) && decide (c.length ≤ (1048576 : Nat)))
        (.must true
         (.ask (firstOf b c != firstOf b c)
          (.must true
           (.ret [C.bool false]))
          (.must true
           (.ret [C.bool true])))))))))))) := by kernel_rfl
end Go.Proofs.Ythpcibaeenlejaa.V

namespace Go.Proofs.Ythpcibaeenlejaa.V

theorem tyTab_ok : (tyTab.all fun p => tyB Try.prog p.1 p.2) = true := by kernel_rfl
theorem mkE_sound {lv : List (Nat × List Nat)} {gs : Laws} (h : ∀ p, p ∈ gs → Sound Try.prog p.1 p.2.1 p.2.2) : EnvSound Try.prog (mkE lv gs) :=
  ⟨⟨(tys_ok tyTab_ok).1, fun g fn h => (by cases h)⟩, fun g sig spec hl => h (g, sig, spec) (lookup_mem hl), fun g fn h => (by cases h), by kernel_rfl⟩

/- Brought -/
theorem f21_sound : Sound Try.prog 21 iii_i broughtSpec := vBody_sound (depth := 0) (E := E0) (mkE_sound (by simp)) Try.func21 (by kernel_rfl) fun cs outs _ h => by
  unfold broughtSpec at h
  split at h
  · simp only [Option.some.injEq, Prod.mk.injEq, true_and] at h
    rw [← h, vBody_L, f21_tree]
    simp only [eval_must', eval_ask', eval_ret', decide_eq_true_eq, if_true, broughtOf]
    repeat' split
    all_goals first | rfl | omega
  · cases h
theorem f22_sound : Sound Try.prog 22 iii_i broughtSpec := vBody_sound (depth := 0) (E := E0) (mkE_sound (by simp)) Try.func22 (by kernel_rfl) fun cs outs _ h => by
  unfold broughtSpec at h
  split at h
  · simp only [Option.some.injEq, Prod.mk.injEq, true_and] at h
    rw [← h, vBody_L, f22_tree]
    simp only [eval_must', eval_ask', eval_ret', decide_eq_true_eq, if_true, broughtOf, imin, imax]
    repeat' split
    all_goals first | rfl | omega | (congr 3; omega)
  · cases h

theorem brought_range (n : Int) (m : Nat) : 0 ≤ broughtOf n 0 m ∧ broughtOf n 0 m ≤ m := by unfold broughtOf; repeat' split <;> omega

theorem f11_sound : Sound Try.prog 11 si_s cutSpec := vBody_sound (depth := 0) (E := E11) (mkE_sound (by simp [f21_sound, f22_sound])) Try.func11 (by kernel_rfl) fun cs outs _ h => by
  unfold cutSpec at h
  split at h
  · simp only [Option.some.injEq, Prod.mk.injEq, true_and] at h
    rw [← h, vBody_L, f11_tree]
    rename_i b n hk
    have := brought_range n b.length
    simp only [eval_must', eval_ask', eval_ret', decide_eq_true_eq, if_true, Bool.and_eq_true, this, and_self]
    rfl
  · cases h
theorem f12_sound : Sound Try.prog 12 si_s cutSpec := vBody_sound (depth := 0) (E := E11) (mkE_sound (by simp [f21_sound, f22_sound])) Try.func12 (by kernel_rfl) fun cs outs _ h => by
  unfold cutSpec at h
  split at h
  · simp only [Option.some.injEq, Prod.mk.injEq, true_and] at h
    rw [← h, vBody_L, f12_tree]
    rename_i b n hk
    have := brought_range n b.length
    simp only [eval_must', eval_ask', eval_ret', decide_eq_true_eq, if_true, Bool.and_eq_true, this, and_self]
    rfl
  · cases h

def siLaw : Spec := fun cs => match cs with
  | [.str _, .int .i64 _] => some (true, [.bool true])
  | _ => none
theorem f4_sound : Sound Try.prog 4 si_b siLaw := vBody_sound (depth := 0) (E := E4) (mkE_sound (by simp [f11_sound, f12_sound])) Try.func4 (by kernel_rfl) fun cs outs _ h => by
  unfold siLaw at h
  split at h
  · simp only [Option.some.injEq, Prod.mk.injEq, true_and] at h
    rw [← h, vBody_L, f4_tree]
    simp [eval_must', eval_ask', eval_ret']
  · cases h

/- FirstChange -/
theorem common_le : ∀ (b c : List UInt8), common b c ≤ b.length ∧ common b c ≤ c.length
  | [], _ => by simp [common]
  | _ :: _, [] => by simp [common]
  | x :: xs, y :: ys => by
    simp only [common]
    have := common_le xs ys
    split <;> simp <;> omega
theorem common_lt : ∀ (b c : List UInt8) (i : Nat), i < common b c → b.getD i 0 = c.getD i 0
  | [], _, i => by simp [common]
  | _ :: _, [], i => by simp [common]
  | x :: xs, y :: ys, i => by
    simp only [common]
    split
    · rename_i h
      cases i with
      | zero => intro _; simpa using h
      | succ i => intro hi; have := common_lt xs ys i (by omega); simpa using this
    · intro h; omega
theorem common_ne : ∀ (b c : List UInt8), common b c < b.length → common b c < c.length → b.getD (common b c) 0 ≠ c.getD (common b c) 0
  | [], _ => by simp [common]
  | _ :: _, [] => by simp [common]
  | x :: xs, y :: ys => by
    simp only [common]
    split
    · intro h1 h2
      have := common_ne xs ys (by simpa using h1) (by simpa using h2)
      simpa using this
    · rename_i h; intro _ _; simpa using h
theorem common_self : ∀ (b : List UInt8), common b b = b.length
  | [] => rfl
  | x :: xs => by simp [common, common_self xs]
theorem common_eq : ∀ (b c : List UInt8), common b c = b.length → b.length = c.length → b = c
  | [], [] => by simp
  | [], _ :: _ => by simp
  | _ :: _, [] => by simp
  | x :: xs, y :: ys => by
    simp only [common]
    split
    · rename_i h
      intro h1 h2
      rw [h, common_eq xs ys (by simpa using h1) (by simpa using h2)]
    · intro h; simp at h

theorem u8_ne (x y : UInt8) : (((x.toNat : Int) != (y.toNat : Int)) = true) ↔ x ≠ y := by
  rw [bne_iff_ne, ne_eq, Int.ofNat_inj, UInt8.toNat_inj]
theorem u8_eq (x y : UInt8) : ((x.toNat : Int) = (y.toNat : Int)) ↔ x = y := by
  rw [Int.ofNat_inj, UInt8.toNat_inj]

theorem f19_loop (b c : List UInt8) (hb : b.length ≤ 1048576) : ∀ (n i : Nat), i ≤ common b c → b.length < i + n →
    (vLoop E19 0 ss_i Try.f19 [.r, .l, .r, .b] n (H19 b c i)).eval = some [.int .i64 (firstOf b c)] := by
  intro n
  induction n with
  | zero => intro i h1 h2; have := common_le b c; omega
  | succ n ih =>
    intro i h1 h2
    have hle := common_le b c
    rw [vLoop_L _ _ _ _ _ _ _ (by kernel_rfl), f19_round]
    simp only [eval_must', eval_ask', eval_ret', decide_eq_true_eq, if_true, Bool.and_eq_true, u8_ne, Int.toNat_natCast, Int.ofNat_lt]
    have hself := common_self b
    have heq := common_eq b c
    have hne := common_ne b c
    by_cases hbc : b = c
    · subst hbc
      have e1 : firstOf b b = -1 := by simp [firstOf]
      rw [e1]
      split
      · rename_i hi
        have hw : IntKind.i64.wrap ((i : Int) + 1) = ((i + 1 : Nat) : Int) := by rw [wrap64] <;> omega
        have e := ih (i + 1) (by omega) (by omega)
        rw [e1] at e
        rw [hw, e]
        simp [hi]
      · simp
    · have e1 : firstOf b c = common b c := by simp [firstOf, hbc]
      have hlt : ¬ (common b c = b.length ∧ b.length = c.length) := fun h => hbc (heq h.1 h.2)
      have hz : (0 : Int) ≤ i := by omega
      rw [e1]
      by_cases hi : i < b.length
      · by_cases hj : i < c.length
        · simp only [hi, hj, if_true, hz, true_and]
          by_cases hx : b.getD i 0 = c.getD i 0
          · have : i ≠ common b c := fun h => by rw [h] at hx; exact hne (by omega) (by omega) hx
            have hw : IntKind.i64.wrap ((i : Int) + 1) = ((i + 1 : Nat) : Int) := by rw [wrap64] <;> omega
            simp only [hx, ne_eq, not_true_eq_false, if_false, hw]
            rw [ih (i + 1) (by omega) (by omega), e1]
          · have : i = common b c := by
              by_cases h : i < common b c
              · exact absurd (common_lt b c i h) hx
              · omega
            simp only [hx, ne_eq, not_false_eq_true, if_true]
            rw [this]
        · simp only [hi, hj, if_true, if_false]
          repeat' split
          all_goals first | omega | (congr 3; omega)
      · simp only [hi, if_false]
        repeat' split
        all_goals first | omega | (congr 3; omega)

theorem f20_loop (b c : List UInt8) (m : Nat) (hm : m = min b.length c.length) (hb : b.length ≤ 1048576) : ∀ (n i : Nat), i ≤ common b c → b.length < i + n →
    (vLoop E20 0 ss_i Try.f20 [.r, .r, .l, .r, .b] n (H20 b c m m i)).eval = some [.int .i64 (firstOf b c)] := by
  intro n
  induction n with
  | zero => intro i h1 h2; have := common_le b c; omega
  | succ n ih =>
    intro i h1 h2
    have hle := common_le b c
    rw [vLoop_L _ _ _ _ _ _ _ (by kernel_rfl), f20_round]
    simp only [eval_must', eval_ask', eval_ret', decide_eq_true_eq, if_true, Bool.and_eq_true, u8_ne, Int.toNat_natCast, Int.ofNat_lt, Int.ofNat_inj]
    have hself := common_self b
    have heq := common_eq b c
    have hne := common_ne b c
    have hz : (0 : Int) ≤ i := by omega
    by_cases hi : i < m
    · have hi1 : i < b.length := by omega
      have hi2 : i < c.length := by omega
      simp only [hi, hi1, hi2, hz, if_true, and_self]
      by_cases hx : b.getD i 0 = c.getD i 0
      · have : i ≠ common b c := fun h => by rw [h] at hx; exact hne (by omega) (by omega) hx
        have hw : IntKind.i64.wrap ((i : Int) + 1) = ((i + 1 : Nat) : Int) := by rw [wrap64] <;> omega
        simp only [hx, ne_eq, not_true_eq_false, if_false, hw]
        exact ih (i + 1) (by omega) (by omega)
      · have : i = common b c := by
          by_cases h : i < common b c
          · exact absurd (common_lt b c i h) hx
          · omega
        have hbc : b ≠ c := fun h => by subst h; exact hx rfl
        simp only [hx, ne_eq, not_false_eq_true, if_true, firstOf, hbc, if_false]
        rw [this]
    · simp only [hi, if_false]
      by_cases hbc : b = c
      · simp [firstOf, hbc]
      · have hlt : b.length ≠ c.length := fun h => hbc (heq (by omega) h)
        simp only [hlt, if_false, firstOf, hbc]
        congr 3; omega

theorem imin_nat (a b : Nat) : imin (a : Int) (b : Int) = ((min a b : Nat) : Int) := by unfold imin; split <;> omega
theorem imax_nat (a b : Nat) : imax (a : Int) (b : Int) = ((max a b : Nat) : Int) := by unfold imax; split <;> omega

theorem f19_sound : Sound Try.prog 19 ss_i (ss_spec firstOf) := vBody_sound (depth := 0) (E := E19) (mkE_sound (by simp)) Try.func19 (by kernel_rfl) fun cs outs _ h => by
  unfold ss_spec at h
  split at h
  · simp only [Option.some.injEq, Prod.mk.injEq, Bool.and_eq_true, decide_eq_true_eq] at h
    obtain ⟨⟨h1, h2⟩, rfl⟩ := h
    rename_i b c hk
    rw [vBody_L, f19_tree]
    simp only [eval_must', if_true]
    exact f19_loop b c h1 _ 0 (by omega) (by omega)
  · cases h
theorem f20_sound : Sound Try.prog 20 ss_i (ss_spec firstOf) := vBody_sound (depth := 0) (E := E20) (mkE_sound (by simp)) Try.func20 (by kernel_rfl) fun cs outs _ h => by
  unfold ss_spec at h
  split at h
  · simp only [Option.some.injEq, Prod.mk.injEq, Bool.and_eq_true, decide_eq_true_eq] at h
    obtain ⟨⟨h1, h2⟩, rfl⟩ := h
    rename_i b c hk
    rw [vBody_L, f20_tree]
    simp only [eval_must', if_true, imin_nat]
    exact f20_loop b c _ rfl h1 _ 0 (by omega) (by omega)
  · cases h
def ssLaw : Spec := fun cs => match cs with
  | [.str _, .str _] => some (true, [.bool true])
  | _ => none
theorem f8_sound : Sound Try.prog 8 ss_b ssLaw := vBody_sound (depth := 0) (E := E8) (mkE_sound (by simp [f19_sound, f20_sound])) Try.func8 (by kernel_rfl) fun cs outs _ h => by
  unfold ssLaw at h
  split at h
  · simp only [Option.some.injEq, Prod.mk.injEq, true_and] at h
    rw [← h, vBody_L, f8_tree]
    simp only [eval_must', eval_ask', eval_ret', decide_eq_true_eq, if_true, Bool.and_eq_true, bne_self_eq_false, Bool.false_eq_true, if_false]
    repeat' split
    all_goals first | rfl | omega
  · cases h
end Go.Proofs.Ythpcibaeenlejaa.V

namespace Go.Proofs.Ythpcibaeenlejaa.V
theorem E0_sound : EnvSound Try.prog E0 := mkE_sound (by simp)

/- ChangeEnd -/
theorem lastDiff_le (b c : List UInt8) : ∀ i, lastDiff b c i ≤ i
  | 0 => Nat.le_refl _
  | i + 1 => by simp only [lastDiff]; have := lastDiff_le b c i; split <;> omega

theorem f17_loop (b c : List UInt8) (hl : b.length = c.length) (hb : b.length ≤ 1048576) : ∀ (n i : Nat), i ≤ b.length → b.length < i + n →
    (vLoop E17 0 ss_i Try.f17 [.r, .r, .r, .l, .r, .b] n (H17 b c (lastDiff b c i) i)).eval = some [.int .i64 (endOf b c)] := by
  intro n
  induction n with
  | zero => intro i h1 h2; omega
  | succ n ih =>
    intro i h1 h2
    rw [vLoop_L _ _ _ _ _ _ _ (by kernel_rfl), f17_round]
    simp only [eval_must', eval_ask', eval_ret', decide_eq_true_eq, if_true, Bool.and_eq_true, u8_ne, Int.toNat_natCast, Int.ofNat_lt, Int.ofNat_inj]
    have hz : (0 : Int) ≤ i := by omega
    by_cases hi : i < b.length
    · have hi2 : i < c.length := by omega
      have hw : IntKind.i64.wrap ((i : Int) + 1) = ((i + 1 : Nat) : Int) := by rw [wrap64] <;> omega
      have e := ih (i + 1) (by omega) (by omega)
      simp only [hi, hi2, hz, if_true, and_self, hw]
      by_cases hx : b.getD i 0 = c.getD i 0
      · simp only [lastDiff, hx, if_true] at e
        simp only [hx, ne_eq, not_true_eq_false, if_false]
        exact e
      · simp only [lastDiff, hx, if_false] at e
        simp only [hx, ne_eq, not_false_eq_true, if_true]
        exact e
    · have : i = b.length := by omega
      subst this
      simp only [Nat.lt_irrefl, if_false, endOf, hl, if_true]

theorem f18_loop (b c : List UInt8) (hl : b.length = c.length) (hb : b.length ≤ 1048576) : ∀ (n i : Nat), i ≤ b.length → i < n → lastDiff b c i = lastDiff b c b.length →
    (vLoop E18 0 ss_i Try.f18 [.r, .r, .r, .l, .b] n (H18 b c i)).eval = some [.int .i64 (endOf b c)] := by
  intro n
  induction n with
  | zero => intro i h1 h2; omega
  | succ n ih =>
    intro i h1 h2 h3
    rw [vLoop_L _ _ _ _ _ _ _ (by kernel_rfl), f18_round]
    simp only [eval_must', eval_ask', eval_ret', decide_eq_true_eq, if_true, Bool.and_eq_true, u8_eq]
    cases i with
    | zero =>
      simp only [lastDiff] at h3
      have e : endOf b c = 0 := by simp only [endOf, hl, if_true]; rw [hl] at h3; omega
      rw [e]
      rfl
    | succ j =>
      have hw : IntKind.i64.wrap (((j + 1 : Nat) : Int) - 1) = (j : Int) := by rw [wrap64] <;> omega
      have h0 : (0 : Int) < ((j + 1 : Nat) : Int) := by omega
      have hz : (0 : Int) ≤ j := by omega
      have hj : (j : Int) < b.length := by omega
      have hj2 : (j : Int) < c.length := by omega
      simp only [hw, h0, hz, hj, hj2, if_true, and_self, Int.toNat_natCast]
      by_cases hx : b.getD j 0 = c.getD j 0
      · simp only [lastDiff, hx, if_true] at h3
        simp only [hx, if_true]
        exact ih j (by omega) (by omega) h3
      · simp only [lastDiff, hx, if_false] at h3
        simp only [hx, if_false]
        have e : endOf b c = ((j + 1 : Nat) : Int) := by simp only [endOf, hl, if_true]; rw [hl] at h3; omega
        rw [e]

theorem f17_sound : Sound Try.prog 17 ss_i (ss_spec endOf) := vBody_sound (depth := 0) (E := E17) (mkE_sound (by simp)) Try.func17 (by kernel_rfl) fun cs outs _ h => by
  unfold ss_spec at h
  split at h
  · simp only [Option.some.injEq, Prod.mk.injEq, Bool.and_eq_true, decide_eq_true_eq] at h
    obtain ⟨⟨h1, h2⟩, rfl⟩ := h
    rename_i b c hk
    rw [vBody_L, f17_tree]
    simp only [eval_must', eval_ask', eval_ret', if_true, bne_iff_ne, ne_eq, decide_eq_true_eq, Int.ofNat_inj, Int.ofNat_lt]
    by_cases hl : b.length = c.length
    · simp only [hl, not_true_eq_false, if_false]
      exact f17_loop b c hl h1 _ 0 (by omega) (by omega)
    · simp only [hl, not_false_eq_true, if_true, endOf, if_false, imax]
      repeat' split
      all_goals first | rfl | omega
  · cases h
theorem f18_sound : Sound Try.prog 18 ss_i (ss_spec endOf) := vBody_sound (depth := 0) (E := E18) (mkE_sound (by simp)) Try.func18 (by kernel_rfl) fun cs outs _ h => by
  unfold ss_spec at h
  split at h
  · simp only [Option.some.injEq, Prod.mk.injEq, Bool.and_eq_true, decide_eq_true_eq] at h
    obtain ⟨⟨h1, h2⟩, rfl⟩ := h
    rename_i b c hk
    rw [vBody_L, f18_tree]
    simp only [eval_must', eval_ask', eval_ret', if_true, bne_iff_ne, ne_eq, decide_eq_true_eq, Int.ofNat_inj, Int.ofNat_lt]
    by_cases hl : b.length = c.length
    · simp only [hl, not_true_eq_false, if_false]
      rw [← hl]
      exact f18_loop b c hl h1 _ b.length (by omega) (by omega) rfl
    · simp only [hl, not_false_eq_true, if_true, endOf, if_false]
  · cases h
theorem f7_sound : Sound Try.prog 7 ss_b ssLaw := vBody_sound (depth := 0) (E := E7) (mkE_sound (by simp [f17_sound, f18_sound])) Try.func7 (by kernel_rfl) fun cs outs _ h => by
  unfold ssLaw at h
  split at h
  · simp only [Option.some.injEq, Prod.mk.injEq, true_and] at h
    rw [← h, vBody_L, f7_tree]
    simp only [eval_must', eval_ask', eval_ret', decide_eq_true_eq, if_true, Bool.and_eq_true, bne_self_eq_false, Bool.false_eq_true, if_false]
    repeat' split
    all_goals first | rfl | omega
  · cases h
end Go.Proofs.Ythpcibaeenlejaa.V

namespace Go.Proofs.Ythpcibaeenlejaa.V

theorem iand_one (x : Int) : iand .i64 x 1 = x % 2 := by
  show IntKind.i64.wrap (((BitVec.ofInt 64 x &&& BitVec.ofInt 64 1).toNat : Nat) : Int) = _
  rw [BitVec.toNat_and]
  have h1 : (BitVec.ofInt 64 1).toNat = 1 := by decide
  have h2 : (BitVec.ofInt 64 x).toNat = (x % 18446744073709551616).toNat := by simp [BitVec.toNat_ofInt]
  rw [h1, h2, Nat.and_one_is_mod, wrap64] <;> omega
theorem ishr_one (x : Int) : ishr .i64 x 1 = x / 2 := by
  show x.fdiv (2 ^ (min (Int.toNat 1) 64)) = _
  rw [Int.fdiv_eq_ediv_of_nonneg] <;> simp

theorem bitCount_range : ∀ (n : Nat) (x : Int), 0 ≤ bitCount n x ∧ bitCount n x ≤ n
  | 0, _ => by simp [bitCount]
  | n + 1, x => by simp only [bitCount]; have := bitCount_range n (x / 2); omega
theorem bitsTo_range (b c : List UInt8) : ∀ i : Nat, 0 ≤ bitsTo b c i ∧ bitsTo b c i ≤ 8 * i
  | 0 => by simp [bitsTo]
  | i + 1 => by simp only [bitsTo]; have := bitsTo_range b c i; have := bitCount_range 8 (ixor .u8 (b.getD i 0).toNat (c.getD i 0).toNat); omega
theorem bitCount_zero : ∀ n, bitCount n 0 = 0
  | 0 => rfl
  | n + 1 => by simp [bitCount, bitCount_zero n]

theorem ones_fin : ∀ x : Fin 256, onesOf ((x.val : Nat) : Int) = bitCount 8 ((x.val : Nat) : Int) := by decide +kernel
theorem ones_eq (x : Int) (h1 : 0 ≤ x) (h2 : x ≤ 255) : onesOf x = bitCount 8 x := by
  have := ones_fin ⟨x.toNat, by omega⟩
  simpa [Int.toNat_of_nonneg h1] using this

theorem f23_tree (H : List Pt → Nat → St → T (List C)) (x : Int) : vBodyL E0 0 u8_i Try.f23 H [.int .u8 x] = (.must true (.must (decide (0 ≤ x) && decide (x < ((pop8.length : Nat) : Int))) (.must true (.ret [.int .i64 (IntKind.i64.wrap ((pop8.getD x.toNat 0).toNat : Int))])))) := by kernel_rfl
theorem pop8_length : pop8.length = 256 := by kernel_rfl

theorem f23_sound : Sound Try.prog 23 u8_i onesSpec := vBody_sound (depth := 0) (E := E0) (mkE_sound (by simp)) Try.func23 (by kernel_rfl) fun cs outs _ h => by
  unfold onesSpec at h
  split at h
  · simp only [Option.some.injEq, Prod.mk.injEq, Bool.and_eq_true, decide_eq_true_eq] at h
    obtain ⟨⟨h1, h2⟩, rfl⟩ := h
    rename_i x hk
    rw [vBody_L, f23_tree, pop8_length]
    have h3 : x < ((256 : Nat) : Int) := by omega
    simp only [eval_must', eval_ret', if_true, Bool.and_eq_true, decide_eq_true_eq, h1, h3, and_self]
    rfl
  · cases h

theorem f15_inner (b c : List UInt8) (m : Nat) (i : Int) : ∀ (k n : Nat) (x s : Int), 0 ≤ x → x < 2 ^ k → k < n → 0 ≤ s → s + k ≤ 9223372036854775807 →
    (vLoop E15 0 ss_i Try.f15 [.r, .r, .l, .r, .b, .lp m, .r, .l, .b, .r, .b] n (H15b b c s i x)).eval = (vLoop E15 0 ss_i Try.f15 [.r, .r, .l, .r, .b] m (H15a b c (s + bitCount k x) (IntKind.i64.wrap (i + 1)))).eval := by
  intro k
  induction k with
  | zero =>
    intro n x s h1 h2 h3 h4 h5
    have : x = 0 := by simp at h2; omega
    subst this
    cases n with
    | zero => omega
    | succ n =>
      rw [vLoop_L _ _ _ _ _ _ _ (by kernel_rfl), f15_roundb]
      simp [eval_ask', bitCount]
  | succ k ih =>
    intro n x s h1 h2 h3 h4 h5
    cases n with
    | zero => omega
    | succ n =>
      rw [vLoop_L _ _ _ _ _ _ _ (by kernel_rfl), f15_roundb]
      simp only [eval_ask', eval_must', if_true, decide_eq_true_eq, iand_one, ishr_one]
      by_cases hx : 0 < x
      · have hw : IntKind.i64.wrap (s + x % 2) = s + x % 2 := by rw [wrap64] <;> omega
        simp only [hx, if_true, hw]
        have h2' : x < 2 ^ k * 2 := by rw [← Int.pow_succ]; exact h2
        rw [ih n (x / 2) (s + x % 2) (by omega) (by omega) (by omega) (by omega) (by omega)]
        simp only [bitCount]
        congr 3
        omega
      · have : x = 0 := by omega
        subst this
        simp [bitCount_zero]

theorem f15_loop (b c : List UInt8) (hb : b.length ≤ 1048576) (hc : c.length ≤ 1048576) : ∀ (n i : Nat), i ≤ min b.length c.length → min b.length c.length < i + n →
    (vLoop E15 0 ss_i Try.f15 [.r, .r, .l, .r, .b] n (H15a b c (bitsTo b c i) i)).eval = some [.int .i64 (bitsOf b c)] := by
  intro n
  induction n with
  | zero => intro i h1 h2; omega
  | succ n ih =>
    intro i h1 h2
    rw [vLoop_L _ _ _ _ _ _ _ (by kernel_rfl), f15_round]
    simp only [eval_must', eval_ask', eval_ret', decide_eq_true_eq, if_true, Bool.and_eq_true, Int.toNat_natCast, Int.ofNat_lt]
    have hz : (0 : Int) ≤ i := by omega
    have hr := bitsTo_range b c i
    by_cases hi : i < min b.length c.length
    · have hi1 : i < b.length := by omega
      have hi2 : i < c.length := by omega
      simp only [hi1, hi2, hz, if_true, and_self]
      have hx := ixor8_range ((b.getD i 0).toNat : Int) ((c.getD i 0).toNat : Int)
      rw [wrap64 (by omega) (by omega), f15_inner b c n i 8 _ _ _ hx.1 (by have := hx.2; omega) (by omega) hr.1 (by omega)]
      have hw : IntKind.i64.wrap ((i : Int) + 1) = ((i + 1 : Nat) : Int) := by rw [wrap64] <;> omega
      rw [hw]
      exact ih (i + 1) (by omega) (by omega)
    · have hm : i = min b.length c.length := by omega
      have e : bitsOf b c = bitsTo b c i + 8 * ((max b.length c.length - min b.length c.length : Nat) : Int) := by rw [hm]; rfl
      have w1 : IntKind.i64.wrap ((b.length : Int) - c.length) = (b.length : Int) - c.length := by rw [wrap64] <;> omega
      have w2 : IntKind.i64.wrap ((c.length : Int) - b.length) = (c.length : Int) - b.length := by rw [wrap64] <;> omega
      have w3 : IntKind.i64.wrap (8 * ((b.length : Int) - c.length)) = 8 * ((b.length : Int) - c.length) := by rw [wrap64] <;> omega
      have w4 : IntKind.i64.wrap (8 * ((c.length : Int) - b.length)) = 8 * ((c.length : Int) - b.length) := by rw [wrap64] <;> omega
      simp only [w1, w2, w3, w4]
      have w5 : IntKind.i64.wrap (bitsTo b c i + 8 * ((b.length : Int) - c.length)) = bitsTo b c i + 8 * ((b.length : Int) - c.length) := by rw [wrap64] <;> omega
      have w6 : IntKind.i64.wrap (bitsTo b c i + 8 * ((c.length : Int) - b.length)) = bitsTo b c i + 8 * ((c.length : Int) - b.length) := by rw [wrap64] <;> omega
      simp only [w5, w6, e]
      repeat' split
      all_goals first | omega | (congr 3; omega)

theorem f16_loop (b c : List UInt8) (m : Nat) (hm : m = min b.length c.length) (hb : b.length ≤ 1048576) (hc : c.length ≤ 1048576) : ∀ (n i : Nat), i ≤ m → m < i + n →
    (vLoop E16 0 ss_i Try.f16 [.r, .r, .r, .l, .r, .b] n (H16 b c (8 * ((max b.length c.length - m : Nat) : Int) + bitsTo b c i) m i)).eval = some [.int .i64 (bitsOf b c)] := by
  intro n
  induction n with
  | zero => intro i h1 h2; omega
  | succ n ih =>
    intro i h1 h2
    rw [vLoop_L _ _ _ _ _ _ _ (by kernel_rfl), f16_round]
    simp only [eval_must', eval_ask', eval_ret', decide_eq_true_eq, if_true, Bool.and_eq_true, Int.toNat_natCast, Int.ofNat_lt]
    have hz : (0 : Int) ≤ i := by omega
    have hr := bitsTo_range b c i
    by_cases hi : i < m
    · have hi1 : i < b.length := by omega
      have hi2 : i < c.length := by omega
      have hx := ixor8_range ((b.getD i 0).toNat : Int) ((c.getD i 0).toNat : Int)
      have hbc := bitCount_range 8 (ixor .u8 ((b.getD i 0).toNat : Int) ((c.getD i 0).toNat : Int))
      simp only [hi, hi1, hi2, hz, if_true, and_self, hx]
      rw [ones_eq _ hx.1 hx.2]
      have hw : IntKind.i64.wrap ((i : Int) + 1) = ((i + 1 : Nat) : Int) := by rw [wrap64] <;> omega
      rw [hw, wrap64 (by omega) (by omega), Int.add_assoc]
      exact ih (i + 1) (by omega) (by omega)
    · have hi' : i = m := by omega
      simp only [hi, if_false, bitsOf]
      subst hi'
      rw [← hm]
      congr 3
      omega

theorem f15_sound : Sound Try.prog 15 ss_i (ss_spec bitsOf) := vBody_sound (depth := 0) (E := E15) (mkE_sound (by simp)) Try.func15 (by kernel_rfl) fun cs outs _ h => by
  unfold ss_spec at h
  split at h
  · simp only [Option.some.injEq, Prod.mk.injEq, Bool.and_eq_true, decide_eq_true_eq] at h
    obtain ⟨⟨h1, h2⟩, rfl⟩ := h
    rename_i b c hk
    rw [vBody_L, f15_tree]
    simp only [eval_must', if_true]
    exact f15_loop b c h1 h2 _ 0 (by omega) (by omega)
  · cases h
theorem f16_sound : Sound Try.prog 16 ss_i (ss_spec bitsOf) := vBody_sound (depth := 0) (E := E16) (mkE_sound (by simp [f23_sound])) Try.func16 (by kernel_rfl) fun cs outs _ h => by
  unfold ss_spec at h
  split at h
  · simp only [Option.some.injEq, Prod.mk.injEq, Bool.and_eq_true, decide_eq_true_eq] at h
    obtain ⟨⟨h1, h2⟩, rfl⟩ := h
    rename_i b c hk
    rw [vBody_L, f16_tree]
    simp only [eval_must', if_true, imin_nat, imax_nat]
    have w1 : IntKind.i64.wrap (((max b.length c.length : Nat) : Int) - ((min b.length c.length : Nat) : Int)) = ((max b.length c.length - min b.length c.length : Nat) : Int) := by rw [wrap64] <;> omega
    rw [w1, wrap64 (by omega) (by omega)]
    have := f16_loop b c _ rfl h1 h2 9223372036854775808 0 (by omega) (by omega)
    simpa [bitsTo] using this
  · cases h
theorem f6_sound : Sound Try.prog 6 ss_b ssLaw := vBody_sound (depth := 0) (E := E6) (mkE_sound (by simp [f15_sound, f16_sound])) Try.func6 (by kernel_rfl) fun cs outs _ h => by
  unfold ssLaw at h
  split at h
  · simp only [Option.some.injEq, Prod.mk.injEq, true_and] at h
    rw [← h, vBody_L, f6_tree]
    simp only [eval_must', eval_ask', eval_ret', decide_eq_true_eq, if_true, Bool.and_eq_true, bne_self_eq_false, Bool.false_eq_true, if_false]
    repeat' split
    all_goals first | rfl | omega
  · cases h
end Go.Proofs.Ythpcibaeenlejaa.V

namespace Go.Proofs.Ythpcibaeenlejaa.V

def turnTo (b : List UInt8) (a m : Int) (i : Nat) : List UInt8 := (List.range i).foldl (turnStep a m) b
theorem turnTo_succ (b : List UInt8) (a m : Int) (i : Nat) : turnTo b a m (i + 1) = turnStep a m (turnTo b a m i) i := by
  simp [turnTo, List.range_succ, List.foldl_append]
theorem turnStep_length (l : List UInt8) (a m : Int) (i : Nat) : (turnStep a m l i).length = l.length := by
  unfold turnStep; split <;> simp
theorem turnTo_length (b : List UInt8) (a m : Int) : ∀ i, (turnTo b a m i).length = b.length
  | 0 => rfl
  | i + 1 => by rw [turnTo_succ, turnStep_length, turnTo_length b a m i]

theorem turn_store (l : List UInt8) (a m : Int) (i : Nat) (h1 : iand .i64 (ishr .i64 m i) 1 = 1) (h2 : 0 ≤ a) (h3 : a + i < 8 * l.length) :
    (rowsOfStr l).set ((a + i) / 8).toNat (C.int .u8 (ixor .u8 (((rowsOfStr l).getD ((a + i) / 8).toNat []).getD 0 (C.fn 0 [])).toInt (ishl .u8 1 ((a + i) % 8))) :: List.drop (0 + 1) ((rowsOfStr l).getD ((a + i) / 8).toNat [])) = rowsOfStr (turnStep a m l i) := by
  have hj : ((a + i) / 8).toNat < l.length := by omega
  rw [rows_get l _ hj]
  simp only [List.getD_cons_zero, C.toInt, List.drop_succ_cons, List.drop_nil, Nat.zero_add]
  rw [rows_set _ _ _ (ixor8_range _ _).1 (ixor8_range _ _).2]
  simp only [turnStep, h1, h2, h3, and_self, if_true]

theorem f13_loop (b : List UInt8) (a m : Int) (ha : 0 ≤ a) (hb : b.length ≤ 1048576) (ha2 : a ≤ 9223372036854775807) : ∀ (n i : Nat), i ≤ 32 → 32 < i + n →
    (vLoop E13 0 sii_s Try.f13 [.r, .r, .r, .l, .r, .b] n (H13 a m (rowsOfStr (turnTo b a m i)) b.length i)).eval = some [.str (turnOf b a m)] := by
  intro n
  induction n with
  | zero => intro i h1 h2; omega
  | succ n ih =>
    intro i h1 h2
    have hl := turnTo_length b a m i
    rw [vLoop_L _ _ _ _ _ _ _ (by kernel_rfl), f13_round]
    by_cases hi : i < 32
    · have hi' : (i : Int) < 32 := by omega
      have e := ih (i + 1) (by omega) (by omega)
      rw [turnTo_succ] at e
      have w1 : IntKind.i64.wrap ((i : Int) + 1) = ((i + 1 : Nat) : Int) := by rw [wrap64] <;> omega
      have w2 : IntKind.u64.wrap (i : Int) = i := by rw [wrapU64] <;> omega
      have w3 : IntKind.i64.wrap (8 * (b.length : Int)) = 8 * (b.length : Int) := by rw [wrap64] <;> omega
      have w4 : IntKind.i64.wrap (8 * (b.length : Int) - i) = 8 * (b.length : Int) - i := by rw [wrap64] <;> omega
      have hz : (0 : Int) ≤ i := by omega
      simp only [eval_must', eval_ask', decide_eq_true_eq, if_true, w1, w2, w3, w4, hi', hz, rows_length, hl, Bool.and_eq_true, Nat.zero_add]
      by_cases h3 : iand .i64 (ishr .i64 m i) 1 = 1
      · by_cases h4 : a < 8 * (b.length : Int) - i
        · have w5 : IntKind.i64.wrap (a + i) = a + i := by rw [wrap64] <;> omega
          have w6 : (a + i).tdiv 8 = (a + i) / 8 := by rw [Int.tdiv_eq_ediv_of_nonneg (by omega)]
          have w7 : (a + i).tmod 8 = (a + i) % 8 := by rw [Int.tmod_eq_emod_of_nonneg (by omega)]
          have w8 : IntKind.i64.wrap ((a + i) / 8) = (a + i) / 8 := by rw [wrap64] <;> omega
          have w9 : IntKind.u64.wrap ((a + i) % 8) = (a + i) % 8 := by rw [wrapU64] <;> omega
          have c1 : (0 : Int) ≤ (a + i) / 8 := by omega
          have c2 : (a + i) / 8 < (b.length : Int) := by omega
          have c3 : ((a + i) / 8).toNat < b.length := by omega
          have c4 : (0 : Int) ≤ (a + i) % 8 := by omega
          have st := turn_store (turnTo b a m i) a m i h3 ha (by omega)
          have hg := rows_get (turnTo b a m i) ((a + i) / 8).toNat (by omega)
          have hg1 : 0 < ((rowsOfStr (turnTo b a m i)).getD ((a + i) / 8).toNat []).length := by rw [hg]; exact Nat.zero_lt_one
          have hg2 : C.is (K.int .u8) (((rowsOfStr (turnTo b a m i)).getD ((a + i) / 8).toNat []).getD 0 (C.fn 0 [])) = true := by rw [hg]; rfl
          simp only [Nat.zero_add] at st
          simp only [h3, h4, if_true, w5, w6, w7, w8, w9, c1, c2, c3, c4, hg1, hg2, and_self, st]
          exact e
        · have : turnStep a m (turnTo b a m i) i = turnTo b a m i := by
            unfold turnStep; rw [if_neg (by rw [hl]; omega)]
          rw [this] at e
          simp only [h3, h4, if_true, if_false]
          exact e
      · have : turnStep a m (turnTo b a m i) i = turnTo b a m i := by
          unfold turnStep; rw [if_neg (fun h => h3 h.1)]
        rw [this] at e
        simp only [h3, if_false]
        exact e
    · have hi2 : i = 32 := by omega
      subst hi2
      simp only [eval_must', eval_ask', eval_ret', decide_eq_true_eq]
      rw [if_neg (by omega), List.take_of_length_le (by rw [rows_length, hl]; omega), rows_bytes, str_rows]
      rfl

theorem f14_loop (b : List UInt8) (a m : Int) (hb : b.length ≤ 1048576) (ha1 : -9223372036854775808 ≤ a) (ha2 : a ≤ 9223372036854775807) : ∀ (n i : Nat), i ≤ 32 → 32 < i + n →
    (vLoop E14 0 sii_s Try.f14 [.r, .r, .l, .r, .b] n (H14 a m (rowsOfStr (turnTo b a m i)) b.length i)).eval = some [.str (turnOf b a m)] := by
  intro n
  induction n with
  | zero => intro i h1 h2; omega
  | succ n ih =>
    intro i h1 h2
    have hl := turnTo_length b a m i
    rw [vLoop_L _ _ _ _ _ _ _ (by kernel_rfl), f14_round]
    by_cases hi : i < 32
    · have hi' : (i : Int) < 32 := by omega
      have e := ih (i + 1) (by omega) (by omega)
      rw [turnTo_succ] at e
      have w1 : IntKind.i64.wrap ((i : Int) + 1) = ((i + 1 : Nat) : Int) := by rw [wrap64] <;> omega
      have w3 : IntKind.i64.wrap (8 * (b.length : Int)) = 8 * (b.length : Int) := by rw [wrap64] <;> omega
      have hz : (0 : Int) ≤ i := by omega
      simp only [eval_must', eval_ask', decide_eq_true_eq, if_true, w1, w3, hi', hz, rows_length, hl, Bool.and_eq_true, Nat.zero_add]
      by_cases h3 : iand .i64 (ishr .i64 m i) 1 = 1
      · by_cases h4 : 0 ≤ a ∧ a + i < 8 * (b.length : Int)
        · obtain ⟨ha, h4⟩ := h4
          have w5 : IntKind.i64.wrap (a + i) = a + i := by rw [wrap64] <;> omega
          have w6 : (a + i).tdiv 8 = (a + i) / 8 := by rw [Int.tdiv_eq_ediv_of_nonneg (by omega)]
          have w7 : (a + i).tmod 8 = (a + i) % 8 := by rw [Int.tmod_eq_emod_of_nonneg (by omega)]
          have w8 : IntKind.i64.wrap ((a + i) / 8) = (a + i) / 8 := by rw [wrap64] <;> omega
          have c0 : a < 8 * (b.length : Int) := by omega
          have c1 : (0 : Int) ≤ (a + i) / 8 := by omega
          have c2 : (a + i) / 8 < (b.length : Int) := by omega
          have c3 : ((a + i) / 8).toNat < b.length := by omega
          have c4 : (0 : Int) ≤ (a + i) % 8 := by omega
          have st := turn_store (turnTo b a m i) a m i h3 ha (by omega)
          have hg := rows_get (turnTo b a m i) ((a + i) / 8).toNat (by omega)
          have hg1 : 0 < ((rowsOfStr (turnTo b a m i)).getD ((a + i) / 8).toNat []).length := by rw [hg]; exact Nat.zero_lt_one
          have hg2 : C.is (K.int .u8) (((rowsOfStr (turnTo b a m i)).getD ((a + i) / 8).toNat []).getD 0 (C.fn 0 [])) = true := by rw [hg]; rfl
          simp only [Nat.zero_add] at st
          simp only [h3, h4, ha, c0, if_true, w5, w6, w7, w8, c1, c2, c3, c4, hg1, hg2, and_self, st]
          exact e
        · have : turnStep a m (turnTo b a m i) i = turnTo b a m i := by
            unfold turnStep; rw [if_neg (by rw [hl]; omega)]
          rw [this] at e
          simp only [h3, if_true]
          by_cases ha : 0 ≤ a
          · by_cases hc : a < 8 * (b.length : Int)
            · have w5 : IntKind.i64.wrap (a + i) = a + i := by rw [wrap64] <;> omega
              have h5 : ¬ (a + i < 8 * (b.length : Int)) := by omega
              simp only [ha, hc, w5, h5, if_true, if_false]
              exact e
            · simp only [ha, hc, if_true, if_false]
              exact e
          · simp only [ha, if_false]
            exact e
      · have : turnStep a m (turnTo b a m i) i = turnTo b a m i := by
          unfold turnStep; rw [if_neg (fun h => h3 h.1)]
        rw [this] at e
        simp only [h3, if_false]
        exact e
    · have hi2 : i = 32 := by omega
      subst hi2
      simp only [eval_must', eval_ask', eval_ret', decide_eq_true_eq]
      rw [if_neg (by omega), List.take_of_length_le (by rw [rows_length, hl]; omega), rows_bytes, str_rows]
      rfl

theorem turn_neg (b : List UInt8) (a m : Int) (h : a < 0) : turnOf b a m = b := by
  have : ∀ i, turnTo b a m i = b := by
    intro i
    induction i with
    | zero => rfl
    | succ i ih => rw [turnTo_succ, ih]; unfold turnStep; rw [if_neg (by omega)]
  exact this 32

theorem f13_sound : Sound Try.prog 13 sii_s turnSpec := vBody_sound (depth := 0) (E := E13) (mkE_sound (by simp)) Try.func13 (by kernel_rfl) fun cs outs _ h => by
  unfold turnSpec at h
  split at h
  · simp only [Option.some.injEq, Prod.mk.injEq, Bool.and_eq_true, decide_eq_true_eq] at h
    obtain ⟨⟨⟨h1, h2⟩, h3⟩, rfl⟩ := h
    rename_i b a m hk
    rw [vBody_L, f13_tree]
    simp only [eval_must', eval_ask', eval_ret', if_true, decide_eq_true_eq]
    split
    · rename_i h; rw [turn_neg b a m h]
    · exact f13_loop b a m (by omega) h1 h3 _ 0 (by omega) (by omega)
  · cases h
theorem f14_sound : Sound Try.prog 14 sii_s turnSpec := vBody_sound (depth := 0) (E := E14) (mkE_sound (by simp)) Try.func14 (by kernel_rfl) fun cs outs _ h => by
  unfold turnSpec at h
  split at h
  · simp only [Option.some.injEq, Prod.mk.injEq, Bool.and_eq_true, decide_eq_true_eq] at h
    obtain ⟨⟨⟨h1, h2⟩, h3⟩, rfl⟩ := h
    rename_i b a m hk
    rw [vBody_L, f14_tree]
    simp only [eval_must', eval_ask', eval_ret', if_true, decide_eq_true_eq]
    exact f14_loop b a m h1 h2 h3 _ 0 (by omega) (by omega)
  · cases h
def siiLaw : Spec := fun cs => match cs with
  | [.str _, .int .i64 a, .int .i64 _] => some (decide (-9223372036854775808 ≤ a) && decide (a ≤ 9223372036854775807), [.bool true])
  | _ => none
theorem f5_sound : Sound Try.prog 5 sii_b siiLaw := vBody_sound (depth := 0) (E := E5) (mkE_sound (by simp [f13_sound, f14_sound])) Try.func5 (by kernel_rfl) fun cs outs _ h => by
  unfold siiLaw at h
  split at h
  · simp only [Option.some.injEq, Prod.mk.injEq, Bool.and_eq_true, decide_eq_true_eq] at h
    obtain ⟨⟨h1, h2⟩, rfl⟩ := h
    rw [vBody_L, f5_tree]
    simp only [eval_must', eval_ask', eval_ret', decide_eq_true_eq, if_true, Bool.and_eq_true, h1, h2, and_true]
    repeat' split
    all_goals first | rfl | omega | (simp_all; done)
  · cases h
end Go.Proofs.Ythpcibaeenlejaa.V
