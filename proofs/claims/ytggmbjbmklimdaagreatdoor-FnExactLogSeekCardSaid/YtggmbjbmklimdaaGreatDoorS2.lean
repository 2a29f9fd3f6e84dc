/- Functions of the given program and of its reference: what each returns, as an equation over data; by the interpreter. -/
import Derived.Test.YtggmbjbmklimdaaGreatDoorS
import Derived.Test.YtggmbjbmklimdaaGreatDoorProg
import Derived.KernelRfl
set_option linter.unusedVariables false
set_option linter.unusedSimpArgs false
set_option linter.unusedSectionVars false
set_option linter.deprecated false
namespace Go.Proofs.YtggmbjbmklimdaaGreatDoor.V
noncomputable section

def tz16Spec : Spec := fun cs => match cs with
  | [.int .u64 n] => some (decide (n = 16), [.int .i64 4])
  | _ => none
def pow16Spec : Spec := fun cs => match cs with
  | [.int .i64 n] => some (decide (n = 16), [.bool true])
  | _ => none
abbrev pU64 : PTy := .val false [.int .u64]
/-- a figure of a number to the base 16 -/
def fig16 (n : Nat) : UInt8 := ([48, 49, 50, 51, 52, 53, 54, 55, 56, 57, 97, 98, 99, 100, 101, 102] : List UInt8).getD (n % 16) 0
/-- the figures behind which 'acc' stands -/
def hexGo : Nat → Nat → List UInt8 → List UInt8
  | 0, _, acc => acc
  | f + 1, n, acc => if 16 ≤ n then hexGo f (n / 16) (fig16 n :: acc) else fig16 n :: acc
def hexOf (n : Nat) : List UInt8 := hexGo 16 n []
def bits16Spec : Spec := fun cs => match cs with
  | [.sl [], .int .u64 u, .int .i64 base, .bool false, .bool false] => some (decide (base = 16) && (decide (0 ≤ u) && decide (u ≤ 1000000000)), [.sl [], .str (hexOf u.toNat)])
  | _ => none
def fmt16Spec : Spec := fun cs => match cs with
  | [.int .i64 n, .int .i64 base] => some (decide (base = 16) && (decide (0 ≤ n) && decide (n ≤ 1000000000)), [.str (hexOf n.toNat)])
  | _ => none
def H_fmtBits (u i s b m : Int) (r : List (List C)) : St := st1 [(0, .l (.sl [])), (1, .l (.i .u64 u)), (3, .l (.b false)), (4, .l (.b false)), (10, .l .nil), (11, .l (.s [])), (12, .l (.eptr 0 0 0)), (13, int64 i), (14, .l (.i .u64 s)), (15, .l (.i .u64 b)), (16, .l (.i .u64 m))] 1 r
def E_tz64 : Env := mkE [] []
def E_tz : Env := mkE [] [(293, (sg [pU64] [rI]), tz16Spec)]
def E_isPow : Env := mkE [] []
def E_fmtBits : Env := mkE [(11, [0, 1, 3, 4, 10, 11, 12, 13, 14, 15, 16]), (18, [0, 1, 3, 4, 10, 11, 12, 13, 17])] [(280, (sg [pU64] [rI]), tz16Spec), (279, (sg [pI] [rB]), pow16Spec)]

def E_fmtInt : Env := mkE [] [(251, (sg [pSl 5, pU64, pI, pB, pB] [rSl 5, rS]), bits16Spec)]
def E_fmtIntW : Env := mkE [] [(207, (sg [pI, pI] [rS]), fmt16Spec)]
def mul1Spec : Spec := fun cs => match cs with
  | [.int .u64 a, .int .u64 n] => some (decide (a = 1) && (decide (0 ≤ n) && decide (n ≤ 8)), [.int .u64 0, .int .u64 n])
  | _ => none
abbrev rU64 : RTy := ⟨false, [(.int .u64, false)]⟩
def E_mul64 : Env := mkE [] []
def E_mulW : Env := mkE [] [(253, (sg [pU64, pU64] [rU64, rU64]), mul1Spec)]
def rep0Spec : Spec := fun cs => match cs with
  | [.str s, .int .i64 n] => some (decide (s = [48]) && (decide (0 ≤ n) && decide (n ≤ 8)), [.str (List.replicate n.toNat 48)])
  | _ => none
def E_rep0 : Env := mkE [(38, [7, 8, 9])] [(209, (sg [pS, pS] [rB]), prefixSpec), (208, (sg [pU64, pU64] [rU64, rU64]), mul1Spec)]

def digK : Nat → Nat → List UInt8
  | 0, _ => []
  | k + 1, n => digK k (n / 16) ++ [fig16 n]
def segName (n : Int) : List UInt8 := if inB n 0 1000000000 then [115] ++ digK 8 n.toNat ++ [46, 115, 101, 103] else []
def segSpec : Spec := fun cs => match cs with
  | [.int .i64 n] => some (true, [.str (segName n)])
  | _ => none
def H_sSegmentName (n : Int) (q : Nat) (r : List (List C)) (i : Int) : St := st1 [(0, int64 n), (3, .l (.ref 0 0 q)), (4, int64 i)] 1 r
def E_sSegmentName : Env := mkE [(5, [0, 3, 4])] [(105, (sg [pI, pI, pI] [rB]), inSpec)]
def E_iSegmentName : Env := mkE [] [(136, (sg [pI] [rB]), isNumberSpec), (167, (sg [pI, pI] [rS]), fmt16Spec), (168, (sg [pS, pI] [rS]), rep0Spec)]

end
end Go.Proofs.YtggmbjbmklimdaaGreatDoor.V

namespace Go.Proofs.YtggmbjbmklimdaaGreatDoor.V
set_option maxRecDepth 100000
theorem tz64_tree (H : List Pt → Nat → St → T (List C)) : (vBodyL E_tz64 noInl (sg [pU64] [rI]) Tryz.f293 H [C.int IntKind.u64 (16 : Int)]).eval =
 ((.ret [C.int IntKind.i64 (IntKind.i64.wrap (4 : Int))]) : T (List C)).eval := evalEq (by kernel_rfl)
theorem tz_tree (H : List Pt → Nat → St → T (List C)) : (vBodyL E_tz noInl (sg [pU64] [rI]) Tryz.f280 H [C.int IntKind.u64 (16 : Int)]).eval =
 ((.ret [C.int IntKind.i64 ((4 : Int))]) : T (List C)).eval := evalEq (by kernel_rfl)
theorem isPow_tree (H : List Pt → Nat → St → T (List C)) : (vBodyL E_isPow noInl (sg [pI] [rB]) Tryz.f279 H [C.int IntKind.i64 (16 : Int)]).eval =
 ((.ret [C.bool true]) : T (List C)).eval := evalEq (by kernel_rfl)
theorem fmtBits_tree (H : List Pt → Nat → St → T (List C)) (u : Int) : (vBodyL E_fmtBits noInl (sg [pSl (5 : TypeId), pU64, pI, pB, pB] [rSl (5 : TypeId), rS]) Tryz.f251 H
  [C.sl [], C.int IntKind.u64 u, C.int IntKind.i64 (16 : Int), C.bool false, C.bool false]).eval =
 ((H [Pt.r, Pt.r, Pt.r, Pt.r, Pt.r, Pt.l, Pt.r, Pt.l, Pt.r, Pt.r, Pt.r, Pt.l, Pt.b] (9223372036854775808 : Nat) (H_fmtBits (u) ((65 : Int)) (IntKind.u64.wrap ((4 : Int))) (IntKind.u64.wrap ((16 : Int))) (IntKind.u64.wrap (IntKind.u64.wrap ((16 : Int)) - (1 : Int))) ([[C.int IntKind.u8 (0 : Int)], [C.int IntKind.u8 (0 : Int)], [C.int IntKind.u8 (0 : Int)], [C.int IntKind.u8 (0 : Int)],
  [C.int IntKind.u8 (0 : Int)], [C.int IntKind.u8 (0 : Int)], [C.int IntKind.u8 (0 : Int)],
  [C.int IntKind.u8 (0 : Int)], [C.int IntKind.u8 (0 : Int)], [C.int IntKind.u8 (0 : Int)],
  [C.int IntKind.u8 (0 : Int)], [C.int IntKind.u8 (0 : Int)], [C.int IntKind.u8 (0 : Int)],
  [C.int IntKind.u8 (0 : Int)], [C.int IntKind.u8 (0 : Int)], [C.int IntKind.u8 (0 : Int)],
  [C.int IntKind.u8 (0 : Int)], [C.int IntKind.u8 (0 : Int)], [C.int IntKind.u8 (0 : Int)],
  [C.int IntKind.u8 (0 : Int)], [C.int IntKind.u8 (0 : Int)], [C.int IntKind.u8 (0 : Int)],
  [C.int IntKind.u8 (0 : Int)], [C.int IntKind.u8 (0 : Int)], [C.int IntKind.u8 (0 : Int)],
  [C.int IntKind.u8 (0 : Int)], [C.int IntKind.u8 (0 : Int)], [C.int IntKind.u8 (0 : Int)],
  [C.int IntKind.u8 (0 : Int)], [C.int IntKind.u8 (0 : Int)], [C.int IntKind.u8 (0 : Int)],
  [C.int IntKind.u8 (0 : Int)], [C.int IntKind.u8 (0 : Int)], [C.int IntKind.u8 (0 : Int)],
  [C.int IntKind.u8 (0 : Int)], [C.int IntKind.u8 (0 : Int)], [C.int IntKind.u8 (0 : Int)],
  [C.int IntKind.u8 (0 : Int)], [C.int IntKind.u8 (0 : Int)], [C.int IntKind.u8 (0 : Int)],
  [C.int IntKind.u8 (0 : Int)], [C.int IntKind.u8 (0 : Int)], [C.int IntKind.u8 (0 : Int)],
  [C.int IntKind.u8 (0 : Int)], [C.int IntKind.u8 (0 : Int)], [C.int IntKind.u8 (0 : Int)],
  [C.int IntKind.u8 (0 : Int)], [C.int IntKind.u8 (0 : Int)], [C.int IntKind.u8 (0 : Int)],
  [C.int IntKind.u8 (0 : Int)], [C.int IntKind.u8 (0 : Int)], [C.int IntKind.u8 (0 : Int)],
  [C.int IntKind.u8 (0 : Int)], [C.int IntKind.u8 (0 : Int)], [C.int IntKind.u8 (0 : Int)],
  [C.int IntKind.u8 (0 : Int)], [C.int IntKind.u8 (0 : Int)], [C.int IntKind.u8 (0 : Int)],
  [C.int IntKind.u8 (0 : Int)], [C.int IntKind.u8 (0 : Int)], [C.int IntKind.u8 (0 : Int)],
  [C.int IntKind.u8 (0 : Int)], [C.int IntKind.u8 (0 : Int)], [C.int IntKind.u8 (0 : Int)],
  [C.int IntKind.u8 (0 : Int)]]))) : T (List C)).eval := evalEq (by kernel_rfl)
theorem fmtBits_round0 (H : List Pt → Nat → St → T (List C)) (u : Int) (i : Int) (s : Int) (b : Int) (m : Int) (r : List (List C)) (k : Nat) : vRound E_fmtBits noInl (sg [pSl (5 : TypeId), pU64, pI, pB, pB] [rSl (5 : TypeId), rS]) Tryz.f251 H
  [Pt.r, Pt.r, Pt.r, Pt.r, Pt.r, Pt.l, Pt.r, Pt.l, Pt.r, Pt.r, Pt.r, Pt.l, Pt.b] k (H_fmtBits u i s b m r) =
 (.ask (decide (b ≤ u))
 (.must (decide ((0 : Int) ≤ iand IntKind.u64 u m) && decide (iand IntKind.u64 u m < (↑(36 : Nat) : Int)))
  (.must (decide ((0 : Int) ≤ IntKind.i64.wrap (i - (1 : Int))) && decide (IntKind.i64.wrap (i - (1 : Int)) < (↑(65 : Nat) : Int)))
   (.must (decide ((IntKind.i64.wrap (i - (1 : Int))).toNat < r.length))
    (.must (decide ((0 : Int) ≤ s))
     (H [Pt.r, Pt.r, Pt.r, Pt.r, Pt.r, Pt.l, Pt.r, Pt.l, Pt.r, Pt.r, Pt.r, Pt.l, Pt.b] k (H_fmtBits (ishr IntKind.u64 u s) (IntKind.i64.wrap (i - (1 : Int))) (s) (b) (m) (r.set (IntKind.i64.wrap (i - (1 : Int))).toNat
  (C.int IntKind.u8
      (↑([(48 : UInt8), (49 : UInt8), (50 : UInt8), (51 : UInt8), (52 : UInt8), (53 : UInt8), (54 : UInt8),
                  (55 : UInt8), (56 : UInt8), (57 : UInt8), (97 : UInt8), (98 : UInt8), (99 : UInt8), (100 : UInt8),
                  (101 : UInt8), (102 : UInt8), (103 : UInt8), (104 : UInt8), (105 : UInt8), (106 : UInt8),
                  (107 : UInt8), (108 : UInt8), (109 : UInt8), (110 : UInt8), (111 : UInt8), (112 : UInt8),
                  (113 : UInt8), (114 : UInt8), (115 : UInt8), (116 : UInt8), (117 : UInt8), (118 : UInt8),
                  (119 : UInt8), (120 : UInt8), (121 : UInt8), (122 : UInt8)].getD
              (iand IntKind.u64 u m).toNat (0 : UInt8)).toNat :
        Int) ::
    List.drop ((0 : Nat) + (1 : Nat)) (r.getD (IntKind.i64.wrap (i - (1 : Int))).toNat [])))))))))
 (.must (decide ((0 : Int) ≤ u) && decide (u < (↑(36 : Nat) : Int)))
  (.must (decide ((0 : Int) ≤ IntKind.i64.wrap (i - (1 : Int))) && decide (IntKind.i64.wrap (i - (1 : Int)) < (↑(65 : Nat) : Int)))
   (.must (decide ((IntKind.i64.wrap (i - (1 : Int))).toNat < r.length))
    (.must (decide
  ((65 : Nat) =
    (r.set (IntKind.i64.wrap (i - (1 : Int))).toNat
        (C.int IntKind.u8
            (↑([(48 : UInt8), (49 : UInt8), (50 : UInt8), (51 : UInt8), (52 : UInt8), (53 : UInt8), (54 : UInt8),
                        (55 : UInt8), (56 : UInt8), (57 : UInt8), (97 : UInt8), (98 : UInt8), (99 : UInt8),
                        (100 : UInt8), (101 : UInt8), (102 : UInt8), (103 : UInt8), (104 : UInt8), (105 : UInt8),
                        (106 : UInt8), (107 : UInt8), (108 : UInt8), (109 : UInt8), (110 : UInt8), (111 : UInt8),
                        (112 : UInt8), (113 : UInt8), (114 : UInt8), (115 : UInt8), (116 : UInt8), (117 : UInt8),
                        (118 : UInt8), (119 : UInt8), (120 : UInt8), (121 : UInt8), (122 : UInt8)].getD
                    u.toNat (0 : UInt8)).toNat :
              Int) ::
          List.drop ((0 : Nat) + (1 : Nat)) (r.getD (IntKind.i64.wrap (i - (1 : Int))).toNat []))).length))
     (.must (decide ((0 : Int) ≤ IntKind.i64.wrap (i - (1 : Int))) && decide (IntKind.i64.wrap (i - (1 : Int)) ≤ (↑(65 : Nat) : Int)))
      (.must ((List.take ((65 : Nat) - (IntKind.i64.wrap (i - (1 : Int))).toNat)
      (List.drop (IntKind.i64.wrap (i - (1 : Int))).toNat
        (r.set (IntKind.i64.wrap (i - (1 : Int))).toNat
          (C.int IntKind.u8
              (↑([(48 : UInt8), (49 : UInt8), (50 : UInt8), (51 : UInt8), (52 : UInt8), (53 : UInt8), (54 : UInt8),
                          (55 : UInt8), (56 : UInt8), (57 : UInt8), (97 : UInt8), (98 : UInt8), (99 : UInt8),
                          (100 : UInt8), (101 : UInt8), (102 : UInt8), (103 : UInt8), (104 : UInt8), (105 : UInt8),
                          (106 : UInt8), (107 : UInt8), (108 : UInt8), (109 : UInt8), (110 : UInt8), (111 : UInt8),
                          (112 : UInt8), (113 : UInt8), (114 : UInt8), (115 : UInt8), (116 : UInt8), (117 : UInt8),
                          (118 : UInt8), (119 : UInt8), (120 : UInt8), (121 : UInt8), (122 : UInt8)].getD
                      u.toNat (0 : UInt8)).toNat :
                Int) ::
            List.drop ((0 : Nat) + (1 : Nat)) (r.getD (IntKind.i64.wrap (i - (1 : Int))).toNat []))))).all
  byteRow)
       (.must true
        (.ret [C.sl [],
  C.str
    (strOfRows
      (List.take ((65 : Nat) - (IntKind.i64.wrap (i - (1 : Int))).toNat)
        (List.drop (IntKind.i64.wrap (i - (1 : Int))).toNat
          (r.set (IntKind.i64.wrap (i - (1 : Int))).toNat
            (C.int IntKind.u8
                (↑([(48 : UInt8), (49 : UInt8), (50 : UInt8), (51 : UInt8), (52 : UInt8), (53 : UInt8), (54 : UInt8),
                            (55 : UInt8), (56 : UInt8), (57 : UInt8), (97 : UInt8), (98 : UInt8), (99 : UInt8),
                            (100 : UInt8), (101 : UInt8), (102 : UInt8), (103 : UInt8), (104 : UInt8), (105 : UInt8),
                            (106 : UInt8), (107 : UInt8), (108 : UInt8), (109 : UInt8), (110 : UInt8), (111 : UInt8),
                            (112 : UInt8), (113 : UInt8), (114 : UInt8), (115 : UInt8), (116 : UInt8), (117 : UInt8),
                            (118 : UInt8), (119 : UInt8), (120 : UInt8), (121 : UInt8), (122 : UInt8)].getD
                        u.toNat (0 : UInt8)).toNat :
                  Int) ::
              List.drop ((0 : Nat) + (1 : Nat)) (r.getD (IntKind.i64.wrap (i - (1 : Int))).toNat []))))))]))))))))) := by kernel_rfl
theorem fmtInt_tree (H : List Pt → Nat → St → T (List C)) (n : Int) : (vBodyL E_fmtInt noInl (sg [pI, pI] [rS]) Tryz.f207 H [C.int IntKind.i64 n, C.int IntKind.i64 (16 : Int)]).eval =
 ((.ask (decide (n < (0 : Int)))
 .bad
 (.must (decide ((16 : Int) = (16 : Int)) &&
  (decide ((0 : Int) ≤ IntKind.u64.wrap n) && decide (IntKind.u64.wrap n ≤ (1000000000 : Int))))
  (.ret [C.str (hexOf (IntKind.u64.wrap n).toNat)]))) : T (List C)).eval := evalEq (by kernel_rfl)
theorem fmtIntW_tree (H : List Pt → Nat → St → T (List C)) (n : Int) : (vBodyL E_fmtIntW noInl (sg [pI, pI] [rS]) Tryz.f167 H [C.int IntKind.i64 n, C.int IntKind.i64 (16 : Int)]).eval =
 ((.must (decide ((16 : Int) = (16 : Int)) && (decide ((0 : Int) ≤ n) && decide (n ≤ (1000000000 : Int))))
 (.ret [C.str (hexOf n.toNat)])) : T (List C)).eval := evalEq (by kernel_rfl)
theorem mul64_tree (H : List Pt → Nat → St → T (List C)) (n : Int) : (vBodyL E_mul64 noInl (sg [pU64, pU64] [rU64, rU64]) Tryz.f253 H [C.int IntKind.u64 (1 : Int), C.int IntKind.u64 n]).eval =
 ((.ret [C.int IntKind.u64
    (IntKind.u64.wrap
      (IntKind.u64.wrap
          (IntKind.u64.wrap (ishr IntKind.u64 ((1 : Int)) (32 : Int) * ishr IntKind.u64 n (32 : Int)) +
            ishr IntKind.u64
              (IntKind.u64.wrap
                (IntKind.u64.wrap
                    (ishr IntKind.u64 ((1 : Int)) (32 : Int) * iand IntKind.u64 n (4294967295 : Int)) +
                  ishr IntKind.u64
                    (IntKind.u64.wrap
                      (iand IntKind.u64 ((1 : Int)) (4294967295 : Int) *
                        iand IntKind.u64 n (4294967295 : Int)))
                    (32 : Int)))
              (32 : Int)) +
        ishr IntKind.u64
          (IntKind.u64.wrap
            (iand IntKind.u64
                (IntKind.u64.wrap
                  (IntKind.u64.wrap
                      (ishr IntKind.u64 ((1 : Int)) (32 : Int) * iand IntKind.u64 n (4294967295 : Int)) +
                    ishr IntKind.u64
                      (IntKind.u64.wrap
                        (iand IntKind.u64 ((1 : Int)) (4294967295 : Int) *
                          iand IntKind.u64 n (4294967295 : Int)))
                      (32 : Int)))
                (4294967295 : Int) +
              IntKind.u64.wrap
                (iand IntKind.u64 ((1 : Int)) (4294967295 : Int) * ishr IntKind.u64 n (32 : Int))))
          (32 : Int))),
  C.int IntKind.u64 (IntKind.u64.wrap ((1 : Int) * n))]) : T (List C)).eval := evalEq (by kernel_rfl)
theorem mulW_tree (H : List Pt → Nat → St → T (List C)) (n : Int) : (vBodyL E_mulW noInl (sg [pU64, pU64] [rU64, rU64]) Tryz.f208 H [C.int IntKind.u64 (1 : Int), C.int IntKind.u64 n]).eval =
 ((.must (decide ((1 : Int) = (1 : Int)) && (decide ((0 : Int) ≤ n) && decide (n ≤ (8 : Int))))
 (.ret [C.int IntKind.u64 ((0 : Int)), C.int IntKind.u64 n])) : T (List C)).eval := evalEq (by kernel_rfl)
theorem rep0_tree (H : List Pt → Nat → St → T (List C)) (n : Int) : (vBodyL E_rep0 noInl (sg [pS, pI] [rS]) Tryz.f168 H [C.str [(48 : UInt8)], C.int IntKind.i64 n]).eval =
 ((.ask (decide (n = (0 : Int)))
 (.ret [C.str []])
 (.ask (decide (n = (1 : Int)))
  (.ret [C.str [(48 : UInt8)]])
  (.ask (decide (n < (0 : Int)))
   .bad
   (.must (decide (IntKind.u64.wrap (↑[(48 : UInt8)].length : Int) = (1 : Int)) &&
  (decide ((0 : Int) ≤ IntKind.u64.wrap n) && decide (IntKind.u64.wrap n ≤ (8 : Int))))
    (.ask (decide ((9223372036854775807 : Int) < IntKind.u64.wrap n))
     .bad
     (.ask (decide (IntKind.i64.wrap (IntKind.u64.wrap n) ≤ (128 : Int)))
      (.ask (decide (IntKind.i64.wrap (IntKind.u64.wrap n) ≤ (128 : Int)))
       (.ask (decide (IntKind.i64.wrap (IntKind.u64.wrap n) ≤ (64 : Int)))
        (.must (decide ((0 : Int) ≤ IntKind.i64.wrap (IntKind.u64.wrap n)) &&
  decide (IntKind.i64.wrap (IntKind.u64.wrap n) ≤ (↑(64 : Nat) : Int)))
         (.ret [C.str
    (List.drop (0 : Nat)
      (List.take (IntKind.i64.wrap (IntKind.u64.wrap n)).toNat
        [(48 : UInt8), (48 : UInt8), (48 : UInt8), (48 : UInt8), (48 : UInt8), (48 : UInt8), (48 : UInt8), (48 : UInt8),
          (48 : UInt8), (48 : UInt8), (48 : UInt8), (48 : UInt8), (48 : UInt8), (48 : UInt8), (48 : UInt8),
          (48 : UInt8), (48 : UInt8), (48 : UInt8), (48 : UInt8), (48 : UInt8), (48 : UInt8), (48 : UInt8),
          (48 : UInt8), (48 : UInt8), (48 : UInt8), (48 : UInt8), (48 : UInt8), (48 : UInt8), (48 : UInt8),
          (48 : UInt8), (48 : UInt8), (48 : UInt8), (48 : UInt8), (48 : UInt8), (48 : UInt8), (48 : UInt8),
          (48 : UInt8), (48 : UInt8), (48 : UInt8), (48 : UInt8), (48 : UInt8), (48 : UInt8), (48 : UInt8),
          (48 : UInt8), (48 : UInt8), (48 : UInt8), (48 : UInt8), (48 : UInt8), (48 : UInt8), (48 : UInt8),
          (48 : UInt8), (48 : UInt8), (48 : UInt8), (48 : UInt8), (48 : UInt8), (48 : UInt8), (48 : UInt8),
          (48 : UInt8), (48 : UInt8), (48 : UInt8), (48 : UInt8), (48 : UInt8), (48 : UInt8), (48 : UInt8)]))]))
        (.ask (decide (IntKind.i64.wrap (IntKind.u64.wrap n) ≤ (128 : Int)))
         (.ask (decide (IntKind.i64.wrap (IntKind.u64.wrap n) ≤ (64 : Int)))
          (.ask (decide ((8192 : Int) < IntKind.i64.wrap (IntKind.u64.wrap n)))
           .bad
           .bad)
          (.ask (decide ((8192 : Int) < IntKind.i64.wrap (IntKind.u64.wrap n)))
           .bad
           .bad))
         (.ask (decide (IntKind.i64.wrap (IntKind.u64.wrap n) ≤ (64 : Int)))
          (.ask (decide ((8192 : Int) < IntKind.i64.wrap (IntKind.u64.wrap n)))
           .bad
           .bad)
          (.ask (decide ((8192 : Int) < IntKind.i64.wrap (IntKind.u64.wrap n)))
           .bad
           .bad))))
       (.ask (decide (IntKind.i64.wrap (IntKind.u64.wrap n) ≤ (64 : Int)))
        (.must (decide ((0 : Int) ≤ IntKind.i64.wrap (IntKind.u64.wrap n)) &&
  decide (IntKind.i64.wrap (IntKind.u64.wrap n) ≤ (↑(64 : Nat) : Int)))
         (.ret [C.str
    (List.drop (0 : Nat)
      (List.take (IntKind.i64.wrap (IntKind.u64.wrap n)).toNat
        [(48 : UInt8), (48 : UInt8), (48 : UInt8), (48 : UInt8), (48 : UInt8), (48 : UInt8), (48 : UInt8), (48 : UInt8),
          (48 : UInt8), (48 : UInt8), (48 : UInt8), (48 : UInt8), (48 : UInt8), (48 : UInt8), (48 : UInt8),
          (48 : UInt8), (48 : UInt8), (48 : UInt8), (48 : UInt8), (48 : UInt8), (48 : UInt8), (48 : UInt8),
          (48 : UInt8), (48 : UInt8), (48 : UInt8), (48 : UInt8), (48 : UInt8), (48 : UInt8), (48 : UInt8),
          (48 : UInt8), (48 : UInt8), (48 : UInt8), (48 : UInt8), (48 : UInt8), (48 : UInt8), (48 : UInt8),
          (48 : UInt8), (48 : UInt8), (48 : UInt8), (48 : UInt8), (48 : UInt8), (48 : UInt8), (48 : UInt8),
          (48 : UInt8), (48 : UInt8), (48 : UInt8), (48 : UInt8), (48 : UInt8), (48 : UInt8), (48 : UInt8),
          (48 : UInt8), (48 : UInt8), (48 : UInt8), (48 : UInt8), (48 : UInt8), (48 : UInt8), (48 : UInt8),
          (48 : UInt8), (48 : UInt8), (48 : UInt8), (48 : UInt8), (48 : UInt8), (48 : UInt8), (48 : UInt8)]))]))
        (.ask (decide (IntKind.i64.wrap (IntKind.u64.wrap n) ≤ (128 : Int)))
         (.ask (decide (IntKind.i64.wrap (IntKind.u64.wrap n) ≤ (64 : Int)))
          (.ask (decide ((8192 : Int) < IntKind.i64.wrap (IntKind.u64.wrap n)))
           .bad
           .bad)
          (.ask (decide ((8192 : Int) < IntKind.i64.wrap (IntKind.u64.wrap n)))
           .bad
           .bad))
         (.ask (decide (IntKind.i64.wrap (IntKind.u64.wrap n) ≤ (64 : Int)))
          (.ask (decide ((8192 : Int) < IntKind.i64.wrap (IntKind.u64.wrap n)))
           .bad
           .bad)
          (.ask (decide ((8192 : Int) < IntKind.i64.wrap (IntKind.u64.wrap n)))
           .bad
           .bad)))))
      (.ask (decide (IntKind.i64.wrap (IntKind.u64.wrap n) ≤ (128 : Int)))
       (.ask (decide (IntKind.i64.wrap (IntKind.u64.wrap n) ≤ (64 : Int)))
        (.must (decide ((0 : Int) ≤ IntKind.i64.wrap (IntKind.u64.wrap n)) &&
  decide (IntKind.i64.wrap (IntKind.u64.wrap n) ≤ (↑(64 : Nat) : Int)))
         (.ret [C.str
    (List.drop (0 : Nat)
      (List.take (IntKind.i64.wrap (IntKind.u64.wrap n)).toNat
        [(48 : UInt8), (48 : UInt8), (48 : UInt8), (48 : UInt8), (48 : UInt8), (48 : UInt8), (48 : UInt8), (48 : UInt8),
          (48 : UInt8), (48 : UInt8), (48 : UInt8), (48 : UInt8), (48 : UInt8), (48 : UInt8), (48 : UInt8),
          (48 : UInt8), (48 : UInt8), (48 : UInt8), (48 : UInt8), (48 : UInt8), (48 : UInt8), (48 : UInt8),
          (48 : UInt8), (48 : UInt8), (48 : UInt8), (48 : UInt8), (48 : UInt8), (48 : UInt8), (48 : UInt8),
          (48 : UInt8), (48 : UInt8), (48 : UInt8), (48 : UInt8), (48 : UInt8), (48 : UInt8), (48 : UInt8),
          (48 : UInt8), (48 : UInt8), (48 : UInt8), (48 : UInt8), (48 : UInt8), (48 : UInt8), (48 : UInt8),
          (48 : UInt8), (48 : UInt8), (48 : UInt8), (48 : UInt8), (48 : UInt8), (48 : UInt8), (48 : UInt8),
          (48 : UInt8), (48 : UInt8), (48 : UInt8), (48 : UInt8), (48 : UInt8), (48 : UInt8), (48 : UInt8),
          (48 : UInt8), (48 : UInt8), (48 : UInt8), (48 : UInt8), (48 : UInt8), (48 : UInt8), (48 : UInt8)]))]))
        (.ask (decide (IntKind.i64.wrap (IntKind.u64.wrap n) ≤ (128 : Int)))
         (.ask (decide (IntKind.i64.wrap (IntKind.u64.wrap n) ≤ (64 : Int)))
          (.ask (decide ((8192 : Int) < IntKind.i64.wrap (IntKind.u64.wrap n)))
           .bad
           .bad)
          (.ask (decide ((8192 : Int) < IntKind.i64.wrap (IntKind.u64.wrap n)))
           .bad
           .bad))
         (.ask (decide (IntKind.i64.wrap (IntKind.u64.wrap n) ≤ (64 : Int)))
          (.ask (decide ((8192 : Int) < IntKind.i64.wrap (IntKind.u64.wrap n)))
           .bad
           .bad)
          (.ask (decide ((8192 : Int) < IntKind.i64.wrap (IntKind.u64.wrap n)))
           .bad
           .bad))))
       (.ask (decide (IntKind.i64.wrap (IntKind.u64.wrap n) ≤ (64 : Int)))
        (.must (decide ((0 : Int) ≤ IntKind.i64.wrap (IntKind.u64.wrap n)) &&
  decide (IntKind.i64.wrap (IntKind.u64.wrap n) ≤ (↑(64 : Nat) : Int)))
         (.ret [C.str
    (List.drop (0 : Nat)
      (List.take (IntKind.i64.wrap (IntKind.u64.wrap n)).toNat
        [(48 : UInt8), (48 : UInt8), (48 : UInt8), (48 : UInt8), (48 : UInt8), (48 : UInt8), (48 : UInt8), (48 : UInt8),
          (48 : UInt8), (48 : UInt8), (48 : UInt8), (48 : UInt8), (48 : UInt8), (48 : UInt8), (48 : UInt8),
          (48 : UInt8), (48 : UInt8), (48 : UInt8), (48 : UInt8), (48 : UInt8), (48 : UInt8), (48 : UInt8),
          (48 : UInt8), (48 : UInt8), (48 : UInt8), (48 : UInt8), (48 : UInt8), (48 : UInt8), (48 : UInt8),
          (48 : UInt8), (48 : UInt8), (48 : UInt8), (48 : UInt8), (48 : UInt8), (48 : UInt8), (48 : UInt8),
          (48 : UInt8), (48 : UInt8), (48 : UInt8), (48 : UInt8), (48 : UInt8), (48 : UInt8), (48 : UInt8),
          (48 : UInt8), (48 : UInt8), (48 : UInt8), (48 : UInt8), (48 : UInt8), (48 : UInt8), (48 : UInt8),
          (48 : UInt8), (48 : UInt8), (48 : UInt8), (48 : UInt8), (48 : UInt8), (48 : UInt8), (48 : UInt8),
          (48 : UInt8), (48 : UInt8), (48 : UInt8), (48 : UInt8), (48 : UInt8), (48 : UInt8), (48 : UInt8)]))]))
        (.ask (decide (IntKind.i64.wrap (IntKind.u64.wrap n) ≤ (128 : Int)))
         (.ask (decide (IntKind.i64.wrap (IntKind.u64.wrap n) ≤ (64 : Int)))
          (.ask (decide ((8192 : Int) < IntKind.i64.wrap (IntKind.u64.wrap n)))
           .bad
           .bad)
          (.ask (decide ((8192 : Int) < IntKind.i64.wrap (IntKind.u64.wrap n)))
           .bad
           .bad))
         (.ask (decide (IntKind.i64.wrap (IntKind.u64.wrap n) ≤ (64 : Int)))
          (.ask (decide ((8192 : Int) < IntKind.i64.wrap (IntKind.u64.wrap n)))
           .bad
           .bad)
          (.ask (decide ((8192 : Int) < IntKind.i64.wrap (IntKind.u64.wrap n)))
           .bad
           .bad))))))))))) : T (List C)).eval := evalEq (by kernel_rfl)
theorem sSegmentName_tree (H : List Pt → Nat → St → T (List C)) (n : Int) : (vBodyL E_sSegmentName noInl (sg [pI] [rS]) Tryz.f101 H [C.int IntKind.i64 n]).eval =
 ((.ask (inB n (0 : Int) (1000000000 : Int))
 (H [Pt.r, Pt.r, Pt.r, Pt.l, Pt.r, Pt.b] (9223372036854775808 : Nat) (H_sSegmentName (n) ((0 : Nat)) ([]) ((7 : Int))))
 (.ret [C.str []])) : T (List C)).eval := evalEq (by kernel_rfl)
theorem iSegmentName_tree (H : List Pt → Nat → St → T (List C)) (n : Int) : (vBodyL E_iSegmentName noInl (sg [pI] [rS]) Tryz.f110 H [C.int IntKind.i64 n]).eval =
 ((.ask (inB n (0 : Int) (1000000000 : Int))
 (.must (decide ((16 : Int) = (16 : Int)) && (decide ((0 : Int) ≤ n) && decide (n ≤ (1000000000 : Int))))
  (.must (decide ([(48 : UInt8)] = [(48 : UInt8)]) &&
  (decide ((0 : Int) ≤ IntKind.i64.wrap ((8 : Int) - (↑(hexOf n.toNat).length : Int))) &&
    decide (IntKind.i64.wrap ((8 : Int) - (↑(hexOf n.toNat).length : Int)) ≤ (8 : Int))))
   (.must (decide
  ((1 : Nat) +
      (List.replicate (IntKind.i64.wrap ((8 : Int) - (↑(hexOf n.toNat).length : Int))).toNat (48 : UInt8)).length ≤
    (9223372036854775807 : Nat)))
    (.must (decide
  (([(115 : UInt8)] ++
          List.replicate (IntKind.i64.wrap ((8 : Int) - (↑(hexOf n.toNat).length : Int))).toNat (48 : UInt8)).length +
      (hexOf n.toNat).length ≤
    (9223372036854775807 : Nat)))
     (.must (decide
  (([(115 : UInt8)] ++
            List.replicate (IntKind.i64.wrap ((8 : Int) - (↑(hexOf n.toNat).length : Int))).toNat (48 : UInt8) ++
          hexOf n.toNat).length +
      (4 : Nat) ≤
    (9223372036854775807 : Nat)))
      (.ret [C.str
    ([(115 : UInt8)] ++
          List.replicate (IntKind.i64.wrap ((8 : Int) - (↑(hexOf n.toNat).length : Int))).toNat (48 : UInt8) ++
        hexOf n.toNat ++
      [(46 : UInt8), (115 : UInt8), (101 : UInt8), (103 : UInt8)])]))))))
 (.ret [C.str []])) : T (List C)).eval := evalEq (by kernel_rfl)
theorem sSegmentName_round0 (H : List Pt → Nat → St → T (List C)) (n : Int) (q : Nat) (r : List (List C)) (i : Int) (k : Nat) : (vRound E_sSegmentName noInl (sg [pI] [rS]) Tryz.f101 H [Pt.r, Pt.r, Pt.r, Pt.l, Pt.r, Pt.b] k (H_sSegmentName n q r i)).eval =
 ((.ask (decide ((0 : Int) ≤ i))
 (.must (decide ((0 : Int) ≤ IntKind.u64.wrap (IntKind.i64.wrap ((4 : Int) * i))))
  (.must (decide
    ((0 : Int) ≤
      iand IntKind.i64 (ishr IntKind.i64 n (IntKind.u64.wrap (IntKind.i64.wrap ((4 : Int) * i)))) (15 : Int)) &&
  decide
    (iand IntKind.i64 (ishr IntKind.i64 n (IntKind.u64.wrap (IntKind.i64.wrap ((4 : Int) * i)))) (15 : Int) <
      (↑(16 : Nat) : Int)))
   (.must (decide (q = r.length) && roomy (r.length + (1 : Nat)) (1 : Nat) && (decide ((1 : Nat) = (1 : Nat)) && true))
    (H [Pt.r, Pt.r, Pt.r, Pt.l, Pt.r, Pt.b] k (H_sSegmentName (n) (r.length + (1 : Nat)) (r.append
  [[C.int IntKind.u8
        (↑([(48 : UInt8), (49 : UInt8), (50 : UInt8), (51 : UInt8), (52 : UInt8), (53 : UInt8), (54 : UInt8),
                    (55 : UInt8), (56 : UInt8), (57 : UInt8), (97 : UInt8), (98 : UInt8), (99 : UInt8), (100 : UInt8),
                    (101 : UInt8), (102 : UInt8)].getD
                (iand IntKind.i64 (ishr IntKind.i64 n (IntKind.u64.wrap (IntKind.i64.wrap ((4 : Int) * i))))
                    (15 : Int)).toNat
                (0 : UInt8)).toNat :
          Int)]]) (IntKind.i64.wrap (i - (1 : Int))))))))
 (.must ((List.take q r).all byteRow)
  (.must (decide ((1 : Nat) + (strOfRows (List.take q r)).length ≤ (9223372036854775807 : Nat)))
   (.must (decide (([(115 : UInt8)] ++ strOfRows (List.take q r)).length + (4 : Nat) ≤ (9223372036854775807 : Nat)))
    (.ret [C.str ([(115 : UInt8)] ++ strOfRows (List.take q r) ++ [(46 : UInt8), (115 : UInt8), (101 : UInt8), (103 : UInt8)])]))))) : T (List C)).eval := evalEq (by kernel_rfl)
end Go.Proofs.YtggmbjbmklimdaaGreatDoor.V

namespace Go.Proofs.YtggmbjbmklimdaaGreatDoor.V

theorem iand15 (n : Nat) (hn : n < 18446744073709551616) : iand .u64 (n : Int) 15 = ((n % 16 : Nat) : Int) := by
  have e : (BitVec.ofInt 64 (n : Int) &&& BitVec.ofInt 64 15).toNat = n % 16 := by
    rw [BitVec.toNat_and]
    have h1 : (BitVec.ofInt 64 (n : Int)).toNat = n := by simp; omega
    have h2 : (BitVec.ofInt 64 (15 : Int)).toNat = 15 := by decide
    rw [h1, h2]
    exact Nat.and_two_pow_sub_one_eq_mod n 4
  show IntKind.u64.wrap ((BitVec.ofInt 64 (n : Int) &&& BitVec.ofInt 64 15).toNat : Int) = _
  rw [e, wrapU64] <;> omega
theorem ishr4 (n : Nat) : ishr .u64 (n : Int) 4 = ((n / 16 : Nat) : Int) := by
  unfold ishr
  simp [IntKind.bits]
  rw [Int.fdiv_eq_ediv_of_nonneg _ (by decide)]
theorem fig_store (k : Nat) (hk : k < 16) : ((([48, 49, 50, 51, 52, 53, 54, 55, 56, 57, 97, 98, 99, 100, 101, 102, 103, 104, 105, 106, 107, 108, 109, 110, 111, 112, 113, 114, 115, 116, 117, 118, 119, 120, 121, 122] : List UInt8).getD k 0).toNat : Int) = ((fig16 k).toNat : Int) := by
  revert hk; revert k; decide
theorem fig_mod (n : Nat) : fig16 (n % 16) = fig16 n := by unfold fig16; rw [Nat.mod_mod]
theorem rows_set1 (l : List UInt8) (j : Nat) (hj : j < l.length) (v : UInt8) : (rowsOfStr l).set j (C.int .u8 ((v.toNat : Nat) : Int) :: List.drop (0 + 1) ((rowsOfStr l).getD j [])) = rowsOfStr (l.set j v) := by
  rw [rows_get l j hj]
  simp [rowsOfStr, List.map_set]
theorem set_drop (l : List UInt8) (j : Nat) (hj : j < l.length) (v : UInt8) : (l.set j v).drop j = v :: l.drop (j + 1) := by
  rw [List.drop_eq_getElem_cons (by simpa using hj)]
  simp [List.drop_set]
theorem tz64_E : EnvSound Tryz.prog E_tz64 := mkE_sound (by simp [])
theorem tz64_sound : Sound Tryz.prog 293 (sg [pU64] [rI]) tz16Spec := vBody_sound tz64_E noInl_ok Tryz.func293 (by kernel_rfl) fun cs outs hk h => by
  unfold tz16Spec at h
  split at h
  · simp only [Option.some.injEq, Prod.mk.injEq, decide_eq_true_eq] at h
    obtain ⟨rfl, rfl⟩ := h
    rw [vBody_L, tz64_tree]
    rfl
  · cases h
theorem tz_E : EnvSound Tryz.prog E_tz := mkE_sound (by simp [tz64_sound])
theorem tz_sound : Sound Tryz.prog 280 (sg [pU64] [rI]) tz16Spec := vBody_sound tz_E noInl_ok Tryz.func280 (by kernel_rfl) fun cs outs hk h => by
  unfold tz16Spec at h
  split at h
  · simp only [Option.some.injEq, Prod.mk.injEq, decide_eq_true_eq] at h
    obtain ⟨rfl, rfl⟩ := h
    rw [vBody_L, tz_tree]
    rfl
  · cases h
theorem isPow_E : EnvSound Tryz.prog E_isPow := mkE_sound (by simp [])
theorem isPow_sound : Sound Tryz.prog 279 (sg [pI] [rB]) pow16Spec := vBody_sound isPow_E noInl_ok Tryz.func279 (by kernel_rfl) fun cs outs hk h => by
  unfold pow16Spec at h
  split at h
  · simp only [Option.some.injEq, Prod.mk.injEq, decide_eq_true_eq] at h
    obtain ⟨rfl, rfl⟩ := h
    rw [vBody_L, isPow_tree]
    rfl
  · cases h
theorem fmtBits_last (n f i u : Nat) (l : List UInt8) (h1 : u < 16) (h2 : 1 ≤ i) (h3 : i ≤ 65) (h4 : l.length = 65) (h6 : 0 < n) (h7 : 0 < f) :
    (vLoop E_fmtBits noInl (sg [pSl 5, pU64, pI, pB, pB] [rSl 5, rS]) Tryz.f251 [.r, .r, .r, .r, .r, .l, .r, .l, .r, .r, .r, .l, .b] n (H_fmtBits u i 4 16 15 (rowsOfStr l))).eval = some [.sl [], .str (hexGo f u (l.drop i))] := by
    obtain ⟨n, rfl⟩ : ∃ g, n = g + 1 := ⟨n - 1, by omega⟩
    obtain ⟨f, rfl⟩ : ∃ g, f = g + 1 := ⟨f - 1, by omega⟩
    rw [vLoop_L _ _ _ _ _ _ _ (by kernel_rfl), fmtBits_round0]
    obtain ⟨j, rfl⟩ : ∃ j, i = j + 1 := ⟨i - 1, by omega⟩
    have w : IntKind.i64.wrap (((j + 1 : Nat) : Int) - 1) = (j : Int) := by rw [wrap64] <;> omega
    have c1 : ¬ (16 : Int) ≤ (u : Int) := by omega
    have hj : j < l.length := by omega
    have fs := fig_store u h1
    have rs := rows_set1 l j hj (fig16 u)
    rw [← fs] at rs
    have ln : (l.set j (fig16 u)).length = 65 := by simpa using h4
    have hx : ¬ 16 ≤ u := by omega
    simp only [hexGo, if_neg hx]
    have tk : List.take (65 - j) (rowsOfStr (List.drop j (l.set j (fig16 u)))) = rowsOfStr (fig16 u :: l.drop (j + 1)) := by
      rw [set_drop l j hj, List.take_of_length_le]
      simp [rows_length]; omega
    have b1 : (u : Int) < (↑(36 : Nat) : Int) := by omega
    have b2 : (j : Int) < (↑(65 : Nat) : Int) := by omega
    have b3 : (j : Int) ≤ (↑(65 : Nat) : Int) := by omega
    have z1 : (0 : Int) ≤ (u : Int) := by omega
    have z2 : (0 : Int) ≤ (j : Int) := by omega
    simp only [eval_must', eval_ask', eval_ret', w, Int.toNat_natCast, rs, decide_eq_true_eq, c1, if_false, b1, b2, b3, z1, z2, decide_true, Bool.and_self, if_true, rows_length, ln, hj, rows_drop, tk, rows_bytes, str_rows]
theorem fmtBits_loop : ∀ (k n f i u : Nat) (l : List UInt8), u < 16 ^ (k + 1) → k + 1 ≤ i → i ≤ 65 → l.length = 65 → k < 15 → k < n → k < f →
    (vLoop E_fmtBits noInl (sg [pSl 5, pU64, pI, pB, pB] [rSl 5, rS]) Tryz.f251 [.r, .r, .r, .r, .r, .l, .r, .l, .r, .r, .r, .l, .b] n (H_fmtBits u i 4 16 15 (rowsOfStr l))).eval = some [.sl [], .str (hexGo f u (l.drop i))] := by
  intro k
  induction k with
  | zero =>
    intro n f i u l h1 h2 h3 h4 h5 h6 h7
    exact fmtBits_last n f i u l (by simpa using h1) h2 h3 h4 h6 h7
  | succ k ih =>
    intro n f i u l h1 h2 h3 h4 h5 h6 h7
    by_cases hu : u < 16
    · exact fmtBits_last n f i u l hu (by omega) h3 h4 (by omega) (by omega)
    · obtain ⟨n, rfl⟩ : ∃ g, n = g + 1 := ⟨n - 1, by omega⟩
      obtain ⟨f, rfl⟩ : ∃ g, f = g + 1 := ⟨f - 1, by omega⟩
      have h8 : u < 18446744073709551616 := by
        have : 16 ^ (k + 1 + 1) ≤ 16 ^ 16 := Nat.pow_le_pow_right (by omega) (by omega)
        have e : (16 : Nat) ^ 16 = 18446744073709551616 := by decide
        omega
      obtain ⟨j, rfl⟩ : ∃ j, i = j + 1 := ⟨i - 1, by omega⟩
      have hj : j < l.length := by omega
      have e := ih n f j (u / 16) (l.set j (fig16 (u % 16))) (by rw [Nat.div_lt_iff_lt_mul (by omega)]; rw [Nat.pow_succ] at h1; exact h1) (by omega) (by omega) (by simpa using h4) (by omega) (by omega) (by omega)
      rw [vLoop_L _ _ _ _ _ _ _ (by kernel_rfl), fmtBits_round0]
      have w : IntKind.i64.wrap (((j + 1 : Nat) : Int) - 1) = (j : Int) := by rw [wrap64] <;> omega
      have c1 : (16 : Int) ≤ (u : Int) := by omega
      have fs := fig_store (u % 16) (by omega)
      have rs := rows_set1 l j hj (fig16 (u % 16))
      rw [← fs, fig_mod] at rs
      have hx : 16 ≤ u := by omega
      simp only [hexGo, if_pos hx]
      rw [set_drop l j hj, fig_mod] at e
      have b1 : ((u % 16 : Nat) : Int) < (↑(36 : Nat) : Int) := by omega
      have b2 : (j : Int) < (↑(65 : Nat) : Int) := by omega
      have z1 : (0 : Int) ≤ ((u % 16 : Nat) : Int) := by omega
      have z2 : (0 : Int) ≤ (j : Int) := by omega
      have z4 : (0 : Int) ≤ 4 := by omega
      simp only [eval_must', eval_ask', w, iand15 u h8, ishr4, Int.toNat_natCast, rs, decide_eq_true_eq, c1, if_true, b1, b2, z1, z2, z4, decide_true, Bool.and_self, rows_length, hj]
      exact e
theorem fmtBits_E : EnvSound Tryz.prog E_fmtBits := mkE_sound (by simp [tz_sound, isPow_sound])
theorem fmtBits_sound : Sound Tryz.prog 251 (sg [pSl 5, pU64, pI, pB, pB] [rSl 5, rS]) bits16Spec := vBody_sound fmtBits_E noInl_ok Tryz.func251 (by kernel_rfl) fun cs outs hk h => by
  unfold bits16Spec at h
  split at h
  · simp only [Option.some.injEq, Prod.mk.injEq, Bool.and_eq_true, decide_eq_true_eq] at h
    obtain ⟨⟨rfl, h1, h2⟩, rfl⟩ := h
    rename_i u
    obtain ⟨n, rfl⟩ := Int.eq_ofNat_of_zero_le h1
    rw [vBody_L, fmtBits_tree]
    have lp := fmtBits_loop 7 9223372036854775808 16 65 n (List.replicate 65 0) (by omega) (by omega) (by omega) (by simp) (by omega) (by omega) (by omega)
    have e1 : List.drop 65 (List.replicate 65 (0 : UInt8)) = [] := rfl
    rw [e1] at lp
    have d1 : decide (Int.ofNat 16 < (2 : Int)) = false := by decide
    have d2 : decide ((36 : Int) < Int.ofNat 16) = false := by decide
    simp only [eval_must', eval_ask', d1, d2, if_true, Bool.false_eq_true, if_false]
    exact Eq.trans (congrArg (fun s => (vLoop E_fmtBits noInl (sg [pSl 5, pU64, pI, pB, pB] [rSl 5, rS]) Tryz.f251 [.r, .r, .r, .r, .r, .l, .r, .l, .r, .r, .r, .l, .b] 9223372036854775808 s).eval) (rfl : _ = H_fmtBits n ((65 : Nat) : Int) 4 16 15 (rowsOfStr (List.replicate 65 0)))) lp
  · cases h

theorem wrapU64_small {n : Int} (h1 : 0 ≤ n) (h2 : n ≤ 1000000000) : IntKind.u64.wrap n = n := by rw [wrapU64] <;> omega
theorem fmtInt_E : EnvSound Tryz.prog E_fmtInt := mkE_sound (by simp [fmtBits_sound])
theorem fmtInt_sound : Sound Tryz.prog 207 (sg [pI, pI] [rS]) fmt16Spec := vBody_sound fmtInt_E noInl_ok Tryz.func207 (by kernel_rfl) fun cs outs hk h => by
  unfold fmt16Spec at h
  split at h
  · simp only [Option.some.injEq, Prod.mk.injEq, Bool.and_eq_true, decide_eq_true_eq] at h
    obtain ⟨⟨rfl, h1, h2⟩, rfl⟩ := h
    rename_i n
    rw [vBody_L, fmtInt_tree, wrapU64_small h1 h2]
    have c : ¬ n < 0 := by omega
    have d : decide (Int.ofNat 16 = (16 : Int)) = true := by decide
    simp only [eval_must', eval_ask', eval_ret', decide_eq_true_eq, c, if_false, d, h1, h2, decide_true, Bool.and_self, if_true]
  · cases h
theorem fmtIntW_E : EnvSound Tryz.prog E_fmtIntW := mkE_sound (by simp [fmtInt_sound])
theorem fmtIntW_sound : Sound Tryz.prog 167 (sg [pI, pI] [rS]) fmt16Spec := vBody_sound fmtIntW_E noInl_ok Tryz.func167 (by kernel_rfl) fun cs outs hk h => by
  unfold fmt16Spec at h
  split at h
  · simp only [Option.some.injEq, Prod.mk.injEq, Bool.and_eq_true, decide_eq_true_eq] at h
    obtain ⟨⟨rfl, h1, h2⟩, rfl⟩ := h
    rename_i n
    rw [vBody_L, fmtIntW_tree]
    have d : decide (Int.ofNat 16 = (16 : Int)) = true := by decide
    simp only [eval_must', eval_ask', eval_ret', d, h1, h2, decide_true, Bool.and_self, if_true]
  · cases h
theorem mul64_E : EnvSound Tryz.prog E_mul64 := mkE_sound (by simp [])
theorem mul64_sound : Sound Tryz.prog 253 (sg [pU64, pU64] [rU64, rU64]) mul1Spec := vBody_sound mul64_E noInl_ok Tryz.func253 (by kernel_rfl) fun cs outs hk h => by
  unfold mul1Spec at h
  split at h
  · simp only [Option.some.injEq, Prod.mk.injEq, Bool.and_eq_true, decide_eq_true_eq] at h
    obtain ⟨⟨rfl, h1, h2⟩, rfl⟩ := h
    rename_i n
    rw [vBody_L, mul64_tree]
    obtain ⟨k, rfl⟩ := Int.eq_ofNat_of_zero_le h1
    have hk : k ≤ 8 := by omega
    have : k = 0 ∨ k = 1 ∨ k = 2 ∨ k = 3 ∨ k = 4 ∨ k = 5 ∨ k = 6 ∨ k = 7 ∨ k = 8 := by omega
    rcases this with rfl | rfl | rfl | rfl | rfl | rfl | rfl | rfl | rfl <;> rfl
  · cases h
theorem mulW_E : EnvSound Tryz.prog E_mulW := mkE_sound (by simp [mul64_sound])
theorem mulW_sound : Sound Tryz.prog 208 (sg [pU64, pU64] [rU64, rU64]) mul1Spec := vBody_sound mulW_E noInl_ok Tryz.func208 (by kernel_rfl) fun cs outs hk h => by
  unfold mul1Spec at h
  split at h
  · simp only [Option.some.injEq, Prod.mk.injEq, Bool.and_eq_true, decide_eq_true_eq] at h
    obtain ⟨⟨rfl, h1, h2⟩, rfl⟩ := h
    rename_i n
    rw [vBody_L, mulW_tree]
    have d : decide (Int.ofNat 1 = (1 : Int)) = true := by decide
    simp only [eval_must', eval_ask', eval_ret', d, h1, h2, decide_true, Bool.and_self, if_true]
  · cases h
theorem rep0_E : EnvSound Tryz.prog E_rep0 := mkE_sound (by simp [sHasPrefix_sound, mulW_sound])
theorem rep0_sound : Sound Tryz.prog 168 (sg [pS, pI] [rS]) rep0Spec := vBody_sound rep0_E noInl_ok Tryz.func168 (by kernel_rfl) fun cs outs hk h => by
  unfold rep0Spec at h
  split at h
  · simp only [Option.some.injEq, Prod.mk.injEq, Bool.and_eq_true, decide_eq_true_eq] at h
    obtain ⟨⟨rfl, h1, h2⟩, rfl⟩ := h
    rename_i n
    rw [vBody_L, rep0_tree]
    obtain ⟨k, rfl⟩ := Int.eq_ofNat_of_zero_le h1
    have : k = 0 ∨ k = 1 ∨ k = 2 ∨ k = 3 ∨ k = 4 ∨ k = 5 ∨ k = 6 ∨ k = 7 ∨ k = 8 := by omega
    rcases this with rfl | rfl | rfl | rfl | rfl | rfl | rfl | rfl | rfl <;> rfl
  · cases h

theorem digK_len : ∀ (k n : Nat), (digK k n).length = k
  | 0, _ => rfl
  | k + 1, n => by simp [digK, digK_len k]
theorem hexGo_digK : ∀ (f k n : Nat) (acc : List UInt8), n < 16 ^ (k + 1) → k < f → ∃ m, 1 ≤ m ∧ m ≤ k + 1 ∧ n < 16 ^ m ∧ hexGo f n acc = digK m n ++ acc
  | 0, k, n, acc, _, h => by omega
  | f + 1, k, n, acc, h1, h2 => by
    by_cases hn : 16 ≤ n
    · obtain ⟨k, rfl⟩ : ∃ j, k = j + 1 := ⟨k - 1, by
        cases k with
        | zero => simp at h1; omega
        | succ k => omega⟩
      obtain ⟨m, a1, a2, a3, a4⟩ := hexGo_digK f k (n / 16) (fig16 n :: acc) (by rw [Nat.div_lt_iff_lt_mul (by omega)]; rw [Nat.pow_succ] at h1; exact h1) (by omega)
      refine ⟨m + 1, by omega, by omega, ?_, ?_⟩
      · rw [Nat.pow_succ]; rw [Nat.div_lt_iff_lt_mul (by omega)] at a3; exact a3
      · simp only [hexGo, if_pos hn, a4, digK, List.append_assoc, List.cons_append, List.nil_append]
    · exact ⟨1, by omega, by omega, by omega, by simp [hexGo, if_neg hn, digK]⟩
theorem digK_zero : ∀ k, digK k 0 = List.replicate k 48
  | 0 => rfl
  | k + 1 => by
    rw [digK, Nat.zero_div, digK_zero k, List.replicate_succ']
    rfl
theorem digK_pad : ∀ (m k n : Nat), n < 16 ^ m → digK (k + m) n = List.replicate k 48 ++ digK m n
  | 0, k, n, h => by
    have : n = 0 := by simpa using h
    subst this
    simp [digK, digK_zero]
  | m + 1, k, n, h => by
    have := digK_pad m k (n / 16) (by rw [Nat.div_lt_iff_lt_mul (by omega)]; rw [Nat.pow_succ] at h; exact h)
    rw [← Nat.add_assoc, digK, this, digK, List.append_assoc]
theorem hex_pad (n : Nat) (h : n ≤ 1000000000) : (hexOf n).length ≤ 8 ∧ List.replicate (8 - (hexOf n).length) 48 ++ hexOf n = digK 8 n := by
  obtain ⟨m, a1, a2, a3, a4⟩ := hexGo_digK 16 7 n [] (by omega) (by omega)
  rw [List.append_nil] at a4
  unfold hexOf
  rw [a4, digK_len]
  refine ⟨by omega, ?_⟩
  rw [← digK_pad m (8 - m) n a3, Nat.sub_add_cancel (by omega)]
theorem iand15i (n : Nat) (hn : n < 9223372036854775808) : iand .i64 (n : Int) 15 = ((n % 16 : Nat) : Int) := by
  have e : (BitVec.ofInt 64 (n : Int) &&& BitVec.ofInt 64 15).toNat = n % 16 := by
    rw [BitVec.toNat_and]
    have h1 : (BitVec.ofInt 64 (n : Int)).toNat = n := by simp; omega
    have h2 : (BitVec.ofInt 64 (15 : Int)).toNat = 15 := by decide
    rw [h1, h2]
    exact Nat.and_two_pow_sub_one_eq_mod n 4
  show IntKind.i64.wrap ((BitVec.ofInt 64 (n : Int) &&& BitVec.ofInt 64 15).toNat : Int) = _
  rw [e, wrap64] <;> omega
theorem fig_get (k : Nat) (hk : k < 16) : (([48, 49, 50, 51, 52, 53, 54, 55, 56, 57, 97, 98, 99, 100, 101, 102] : List UInt8).getD k 0) = fig16 k := by
  revert hk; revert k; decide
theorem sSegmentName_loop (b : Nat) (hb : b ≤ 1000000000) : ∀ (j n : Nat), j ≤ 8 → j < n →
    (vLoop E_sSegmentName noInl (sg [pI] [rS]) Tryz.f101 [.r, .r, .r, .l, .r, .b] n (H_sSegmentName b (8 - j) (rowsOfStr (digK (8 - j) (b / 16 ^ j))) ((j : Int) - 1))).eval = some [.str ([115] ++ digK 8 b ++ [46, 115, 101, 103])] := by
  intro j
  induction j with
  | zero =>
    intro n h1 h2
    obtain ⟨n, rfl⟩ : ∃ g, n = g + 1 := ⟨n - 1, by omega⟩
    rw [vLoop_L _ _ _ _ _ _ _ (by kernel_rfl), sSegmentName_round0]
    have c : ¬ (0 : Int) ≤ ((0 : Nat) : Int) - 1 := by omega
    have tk : List.take (8 - 0) (rowsOfStr (digK (8 - 0) (b / 16 ^ 0))) = rowsOfStr (digK 8 b) := by
      rw [List.take_of_length_le]
      · simp
      · simp [rows_length, digK_len]
    have l1 : (1 + (digK 8 b).length ≤ 9223372036854775807) := by rw [digK_len]; omega
    have l2 : (([115] ++ digK 8 b).length + 4 ≤ 9223372036854775807) := by simp [digK_len]
    simp only [eval_must', eval_ask', eval_ret', decide_eq_true_eq, c, if_false, tk, rows_bytes, str_rows, if_true, l1, l2]
  | succ j ih =>
    intro n h1 h2
    obtain ⟨n, rfl⟩ : ∃ g, n = g + 1 := ⟨n - 1, by omega⟩
    have e := ih n (by omega) (by omega)
    rw [vLoop_L _ _ _ _ _ _ _ (by kernel_rfl), sSegmentName_round0]
    have w0 : ((j + 1 : Nat) : Int) - 1 = (j : Int) := by omega
    have w1 : IntKind.i64.wrap ((4 : Int) * (j : Int)) = ((4 * j : Nat) : Int) := by rw [wrap64] <;> omega
    have w2 : IntKind.u64.wrap ((4 * j : Nat) : Int) = ((4 * j : Nat) : Int) := by rw [wrapU64] <;> omega
    have s1 : ishr IntKind.i64 (b : Int) ((4 * j : Nat) : Int) = ((b / 16 ^ j : Nat) : Int) := by
      rw [ishr64_nat _ _ (by omega), Nat.pow_mul]
    have hlt : b / 16 ^ j ≤ b := Nat.div_le_self _ _
    have s2 := iand15i (b / 16 ^ j) (by omega)
    have c : (0 : Int) ≤ (j : Int) := by omega
    have z1 : (0 : Int) ≤ ((4 * j : Nat) : Int) := by omega
    have z2 : (0 : Int) ≤ ((b / 16 ^ j % 16 : Nat) : Int) := by omega
    have z3 : ((b / 16 ^ j % 16 : Nat) : Int) < (↑(16 : Nat) : Int) := by omega
    have fg := fig_get (b / 16 ^ j % 16) (by omega)
    have ra := row_append (digK (8 - (j + 1)) (b / 16 ^ (j + 1))) (fig16 (b / 16 ^ j % 16)).toNat (UInt8.toNat_lt _)
    have dk : digK (8 - (j + 1)) (b / 16 ^ (j + 1)) ++ [UInt8.ofNat (fig16 (b / 16 ^ j % 16)).toNat] = digK (8 - j) (b / 16 ^ j) := by
      rw [UInt8.ofNat_toNat, fig_mod]
      have e1 : 8 - j = (8 - (j + 1)) + 1 := by omega
      rw [e1, digK, Nat.div_div_eq_div_mul, ← Nat.pow_succ]
    have ro : roomy (8 - j) 1 = true := by simp only [roomy, decide_eq_true_eq]; omega
    have w3 : IntKind.i64.wrap ((j : Int) - 1) = (j : Int) - 1 := by rw [wrap64] <;> omega
    have e8 : 8 - (j + 1) + 1 = 8 - j := by omega
    rw [w0]
    simp only [eval_must', eval_ask', w1, w2, w3, s1, s2, z1, z2, z3, c, Int.toNat_natCast, fg, ra, dk, ro, rows_length, digK_len, decide_true, Bool.and_self, if_true, e8]
    exact e
theorem sSegmentName_E : EnvSound Tryz.prog E_sSegmentName := mkE_sound (by simp [sIn_sound])
theorem sSegmentName_sound : Sound Tryz.prog 101 (sg [pI] [rS]) segSpec := vBody_sound sSegmentName_E noInl_ok Tryz.func101 (by kernel_rfl) fun cs outs hk h => by
  unfold segSpec at h
  split at h
  · simp only [Option.some.injEq, Prod.mk.injEq, true_and] at h
    subst h
    rename_i n
    rw [vBody_L, sSegmentName_tree]
    by_cases hn : inB n 0 1000000000 = true
    · obtain ⟨h1, h2⟩ := (in_iff _ _ _).1 hn
      obtain ⟨b, rfl⟩ := Int.eq_ofNat_of_zero_le h1
      simp only [eval_ask', hn, if_true, segName, Int.toNat_natCast]
      have hb : b / 16 ^ 8 = 0 := Nat.div_eq_of_lt (by omega)
      have lp := sSegmentName_loop b (by omega) 8 9223372036854775808 (by omega) (by omega)
      rw [hb] at lp
      exact lp
    · simp only [eval_ask', eval_ret', hn, segName, Bool.false_eq_true, if_false]
  · cases h
theorem iSegmentName_E : EnvSound Tryz.prog E_iSegmentName := mkE_sound (by simp [iIsNumber_sound, fmtIntW_sound, rep0_sound])
theorem iSegmentName_sound : Sound Tryz.prog 110 (sg [pI] [rS]) segSpec := vBody_sound iSegmentName_E noInl_ok Tryz.func110 (by kernel_rfl) fun cs outs hk h => by
  unfold segSpec at h
  split at h
  · simp only [Option.some.injEq, Prod.mk.injEq, true_and] at h
    subst h
    rename_i n
    rw [vBody_L, iSegmentName_tree]
    by_cases hn : inB n 0 1000000000 = true
    · obtain ⟨h1, h2⟩ := (in_iff _ _ _).1 hn
      obtain ⟨b, rfl⟩ := Int.eq_ofNat_of_zero_le h1
      obtain ⟨p1, p2⟩ := hex_pad b (by omega)
      have w : IntKind.i64.wrap ((8 : Int) - ((hexOf b).length : Int)) = ((8 - (hexOf b).length : Nat) : Int) := by rw [wrap64] <;> omega
      have z1 : (0 : Int) ≤ ((8 - (hexOf b).length : Nat) : Int) := by omega
      have z2 : ((8 - (hexOf b).length : Nat) : Int) ≤ 8 := by omega
      have z3 : (0 : Int) ≤ (b : Int) := by omega
      have l1 : (1 + (8 - (hexOf b).length) ≤ 9223372036854775807) := by omega
      have l2 : (0 + 1 + (8 - (hexOf b).length) + (hexOf b).length ≤ 9223372036854775807) := by omega
      have l3 : (0 + 1 + (8 - (hexOf b).length) + (hexOf b).length + 4 ≤ 9223372036854775807) := by omega
      simp only [eval_ask', eval_must', eval_ret', hn, if_true, segName, Int.toNat_natCast, w, z1, z2, z3, h2, decide_true, Bool.and_self, List.length_replicate, List.length_append, List.length_cons, List.length_nil, l1, l2, l3]
      rw [← p2]
      simp
    · simp only [eval_ask', eval_ret', hn, segName, Bool.false_eq_true, if_false]
  · cases h

end Go.Proofs.YtggmbjbmklimdaaGreatDoor.V

namespace Go.Proofs.YtggmbjbmklimdaaGreatDoor.V
noncomputable section

structure Nd where
  id : Int
  text : List UInt8
  sure : Int
  deriving DecidableEq
structure En where
  name : List UInt8
  id : Int
  deriving DecidableEq
abbrev eNd (x : Nd) : List C := [.int .i64 x.id, .str x.text, .int .i64 x.sure]
abbrev eEn (x : En) : List C := [.str x.name, .int .i64 x.id]
abbrev kNd : List K := [.int .i64, .str, .int .i64]
abbrev kEn : List K := [.str, .int .i64]
def rowNd (r : List C) : Nd := ⟨(r.getD 0 (.fn 0 [])).toInt, (r.getD 1 (.fn 0 [])).toStr, (r.getD 2 (.fn 0 [])).toInt⟩
def rowEn (r : List C) : En := ⟨(r.getD 0 (.fn 0 [])).toStr, (r.getD 1 (.fn 0 [])).toInt⟩
def nds (rows : List (List C)) : List Nd := rows.map rowNd
def ens (rows : List (List C)) : List En := rows.map rowEn
/-- no text in the rows is longer than memory -/
def textsOk (rows : List (List C)) : Bool := rows.all fun r => r.all fun c => match c with | .str s => decide (s.length ≤ 281474976710656) | _ => true
def szOne (n : Nat) (left : Int) : Int := if left - n < 0 then -1 else left - n
/-- what is left of a size -/
def szEach : List Nat → Int → Int
  | [], left => left
  | n :: r, left => if left - n < 0 then -1 else szEach r (left - n)
def szList (ns : List Nat) (left : Int) : Int := if left - ns.length < 0 then -1 else szEach ns (left - ns.length)

def szStrSpec : Spec := fun cs => match cs with
  | [.sl rows, .int .i64 left] => some (decide (0 ≤ left) && decide (left ≤ 1048576) && (decide (rows.length ≤ 281474976710656) && (rowsOk [.str] rows && textsOk rows)), [.int .i64 (szList ((strs rows).map List.length) left)])
  | _ => none
def H_szStringS (r : List (List C)) (left : Int) (i : Int) : St := st0 [(0, .l (.sl r)), (1, int64 left), (5, int64 i)]
def E_szStringS : Env := mkE [(5, [0, 1, 5])] []

def toStrSpec : Spec := fun cs => match cs with
  | [.sl rows] => some (decide (rows.length ≤ 1048576) && rowsOk [.str] rows, [.sl rows])
  | _ => none
def H_toStringS (r : List (List C)) (n : Nat) (out : List (List C)) (i : Int) : St := st1 [(0, .l (.sl r)), (3, .l (.ref 0 0 n)), (4, int64 i)] 1 out
def E_toStringS : Env := mkE [(3, [0, 3, 4])] []

def eqStrSpec : Spec := fun cs => match cs with
  | [.sl x, .sl y] => some (decide (x.length ≤ 1073741824) && (rowsOk [.str] x && rowsOk [.str] y), [.bool (decide (strs x = strs y))])
  | _ => none
def H_eqStringS (x y : List (List C)) (i : Int) : St := st0 [(0, .l (.sl x)), (1, .l (.sl y)), (5, int64 i)]
def E_eqStringS : Env := mkE [(4, [0, 1, 5])] []

end
end Go.Proofs.YtggmbjbmklimdaaGreatDoor.V

namespace Go.Proofs.YtggmbjbmklimdaaGreatDoor.V
set_option maxRecDepth 100000
theorem szStringS_tree (H : List Pt → Nat → St → T (List C)) (r : List (List C)) (n : Int) : (vBodyL E_szStringS noInl (sg [pSl (9 : TypeId), pI] [rI]) Tryz.f44 H [C.sl r, C.int IntKind.i64 n]).eval =
 ((.ask (decide (IntKind.i64.wrap (n - (↑r.length : Int)) < (0 : Int)))
 (.ret [C.int IntKind.i64 (-1 : Int)])
 (H [Pt.r, Pt.r, Pt.r, Pt.l, Pt.r, Pt.b] (9223372036854775808 : Nat) (H_szStringS (r) (IntKind.i64.wrap (n - (↑r.length : Int))) ((0 : Int))))) : T (List C)).eval := evalEq (by kernel_rfl)
theorem szStringS_round0 (H : List Pt → Nat → St → T (List C)) (r : List (List C)) (n : Int) (i : Int) (k : Nat) : (vRound E_szStringS noInl (sg [pSl (9 : TypeId), pI] [rI]) Tryz.f44 H [Pt.r, Pt.r, Pt.r, Pt.l, Pt.r, Pt.b] k
  (H_szStringS r n i)).eval =
 ((.ask (decide (i < (↑r.length : Int)))
 (.must (decide ((0 : Int) ≤ i) && decide (i < (↑r.length : Int)) && decide ((r.getD i.toNat []).length = (1 : Nat)))
  (.must (decide ((0 : Nat) < (r.getD i.toNat []).length) &&
    C.is K.str ((r.getD i.toNat []).getD (0 : Nat) (C.fn (0 : FuncId) [])) &&
  true)
   (.ask (decide
  (IntKind.i64.wrap (n - (↑((r.getD i.toNat []).getD (0 : Nat) (C.fn (0 : FuncId) [])).toStr.length : Int)) < (0 : Int)))
    (.ret [C.int IntKind.i64 (-1 : Int)])
    (H [Pt.r, Pt.r, Pt.r, Pt.l, Pt.r, Pt.b] k (H_szStringS (r) (IntKind.i64.wrap (n - (↑((r.getD i.toNat []).getD (0 : Nat) (C.fn (0 : FuncId) [])).toStr.length : Int))) (IntKind.i64.wrap (i + (1 : Int))))))))
 (.ret [C.int IntKind.i64 n])) : T (List C)).eval := evalEq (by kernel_rfl)
theorem toStringS_tree (H : List Pt → Nat → St → T (List C)) (r : List (List C)) : (vBodyL E_toStringS noInl (sg [pSl (9 : TypeId)] [rSl (9 : TypeId)]) Tryz.f50 H [C.sl r]).eval =
 ((.must (decide ((0 : Int) ≤ (↑r.length : Int)) && decide ((↑r.length : Int) ≤ (↑r.length : Int)) &&
  decide ((↑(16 : Nat) : Int) * (↑r.length : Int) ≤ (281474976710656 : Int)))
 (H [Pt.r, Pt.r, Pt.l, Pt.r, Pt.b] (9223372036854775808 : Nat) (H_toStringS (r) ((↑r.length : Int).toNat) (List.replicate (↑r.length : Int).toNat [C.str []]) ((0 : Int))))) : T (List C)).eval := evalEq (by kernel_rfl)
theorem toStringS_round0 (H : List Pt → Nat → St → T (List C)) (r : List (List C)) (n : Nat) (o : List (List C)) (i : Int) (k : Nat) : (vRound E_toStringS noInl (sg [pSl (9 : TypeId)] [rSl (9 : TypeId)]) Tryz.f50 H [Pt.r, Pt.r, Pt.l, Pt.r, Pt.b] k
  (H_toStringS r n o i)).eval =
 ((.ask (decide (i < (↑r.length : Int)))
 (.must (decide ((0 : Int) ≤ i) && decide (i < (↑r.length : Int)) && decide ((r.getD i.toNat []).length = (1 : Nat)))
  (.must (decide ((0 : Nat) < (r.getD i.toNat []).length) &&
    C.is K.str ((r.getD i.toNat []).getD (0 : Nat) (C.fn (0 : FuncId) [])) &&
  true)
   (.must (decide ((0 : Int) ≤ i) && decide (i < (↑n : Int)))
    (.must (decide ((0 : Nat) + i.toNat < o.length))
     (H [Pt.r, Pt.r, Pt.l, Pt.r, Pt.b] k (H_toStringS (r) (n) (o.set ((0 : Nat) + i.toNat)
  (C.str ((r.getD i.toNat []).getD (0 : Nat) (C.fn (0 : FuncId) [])).toStr ::
    List.drop ((0 : Nat) + (1 : Nat)) (o.getD ((0 : Nat) + i.toNat) []))) (IntKind.i64.wrap (i + (1 : Int)))))))))
 (.must (decide (n = o.length) && (false || o.all fun r => r.all C.flat) && true && true && true)
  (.ret [C.sl o]))) : T (List C)).eval := evalEq (by kernel_rfl)
theorem eqStringS_tree (H : List Pt → Nat → St → T (List C)) (x : List (List C)) (y : List (List C)) : (vBodyL E_eqStringS noInl (sg [pSl (9 : TypeId), pSl (9 : TypeId)] [rB]) Tryz.f56 H [C.sl x, C.sl y]).eval =
 ((.ask ((↑x.length : Int) != (↑y.length : Int))
 (.ret [C.bool false])
 (H [Pt.r, Pt.r, Pt.l, Pt.r, Pt.b] (9223372036854775808 : Nat) (H_eqStringS (x) (y) ((0 : Int))))) : T (List C)).eval := evalEq (by kernel_rfl)
theorem eqStringS_round0 (H : List Pt → Nat → St → T (List C)) (x : List (List C)) (y : List (List C)) (i : Int) (k : Nat) : (vRound E_eqStringS noInl (sg [pSl (9 : TypeId), pSl (9 : TypeId)] [rB]) Tryz.f56 H [Pt.r, Pt.r, Pt.l, Pt.r, Pt.b] k
  (H_eqStringS x y i)).eval =
 ((.ask (decide (i < (↑x.length : Int)))
 (.must (decide ((0 : Int) ≤ i) && decide (i < (↑x.length : Int)) && decide ((x.getD i.toNat []).length = (1 : Nat)))
  (.must (decide ((0 : Nat) < (x.getD i.toNat []).length) &&
    C.is K.str ((x.getD i.toNat []).getD (0 : Nat) (C.fn (0 : FuncId) [])) &&
  true)
   (.must (decide ((0 : Int) ≤ i) && decide (i < (↑y.length : Int)) && decide ((y.getD i.toNat []).length = (1 : Nat)))
    (.must (decide ((0 : Nat) < (y.getD i.toNat []).length) &&
    C.is K.str ((y.getD i.toNat []).getD (0 : Nat) (C.fn (0 : FuncId) [])) &&
  true)
     (.ask (!((x.getD i.toNat []).getD (0 : Nat) (C.fn (0 : FuncId) [])).toStr ==
    ((y.getD i.toNat []).getD (0 : Nat) (C.fn (0 : FuncId) [])).toStr)
      (.ret [C.bool false])
      (H [Pt.r, Pt.r, Pt.l, Pt.r, Pt.b] k (H_eqStringS (x) (y) (IntKind.i64.wrap (i + (1 : Int))))))))))
 (.ret [C.bool true])) : T (List C)).eval := evalEq (by kernel_rfl)
end Go.Proofs.YtggmbjbmklimdaaGreatDoor.V

namespace Go.Proofs.YtggmbjbmklimdaaGreatDoor.V

theorem is_int {k : IntKind} {c : C} (h : c.is (.int k) = true) : c = .int k c.toInt := by
  cases c <;> simp [C.is] at h
  subst h; rfl
theorem is_str {c : C} (h : c.is .str = true) : c = .str c.toStr := by
  cases c <;> simp [C.is] at h
  rfl
theorem row_nd {r : List C} (h : kindsOk r kNd = true) : r = eNd (rowNd r) := by
  match r, h with
  | [a, b, c], h =>
    simp only [kindsOk, Bool.and_eq_true, and_true] at h
    obtain ⟨h1, h2, h3⟩ := h
    have e1 := is_int h1
    have e2 := is_str h2
    have e3 := is_int h3
    show [a, b, c] = [.int .i64 a.toInt, .str b.toStr, .int .i64 c.toInt]
    rw [← e1, ← e2, ← e3]
  | [], h => simp [kindsOk] at h
  | [_], h => simp [kindsOk] at h
  | [_, _], h => simp [kindsOk] at h
  | _ :: _ :: _ :: _ :: _, h => simp [kindsOk] at h
theorem row_en {r : List C} (h : kindsOk r kEn = true) : r = eEn (rowEn r) := by
  match r, h with
  | [a, b], h =>
    simp only [kindsOk, Bool.and_eq_true, and_true] at h
    obtain ⟨h1, h2⟩ := h
    have e1 := is_str h1
    have e2 := is_int h2
    show [a, b] = [.str a.toStr, .int .i64 b.toInt]
    rw [← e1, ← e2]
  | [], h => simp [kindsOk] at h
  | [_], h => simp [kindsOk] at h
  | _ :: _ :: _ :: _, h => simp [kindsOk] at h
theorem rows_nds {rows : List (List C)} (h : rowsOk kNd rows = true) : rows = (nds rows).map eNd := by
  simp only [rowsOk, List.all_eq_true] at h
  simp only [nds, List.map_map]
  rw [List.map_congr_left (g := id)]
  · simp
  · intro r hr; exact (row_nd (h r hr)).symm
theorem rows_ens {rows : List (List C)} (h : rowsOk kEn rows = true) : rows = (ens rows).map eEn := by
  simp only [rowsOk, List.all_eq_true] at h
  simp only [ens, List.map_map]
  rw [List.map_congr_left (g := id)]
  · simp
  · intro r hr; exact (row_en (h r hr)).symm
@[simp] theorem nds_map (l : List Nd) : nds (l.map eNd) = l := by simp [nds, rowNd, Function.comp_def, C.toInt, C.toStr]
@[simp] theorem ens_map (l : List En) : ens (l.map eEn) = l := by simp [ens, rowEn, Function.comp_def, C.toInt, C.toStr]
@[simp] theorem rowsOk_nds (l : List Nd) : rowsOk kNd (l.map eNd) = true := by simp [rowsOk, kindsOk, C.is]
@[simp] theorem rowsOk_ens (l : List En) : rowsOk kEn (l.map eEn) = true := by simp [rowsOk, kindsOk, C.is]
theorem flat_nds (l : List Nd) : ((l.map eNd).all fun r => r.all C.flat) = true := by simp [C.flat]
theorem flat_ens (l : List En) : ((l.map eEn).all fun r => r.all C.flat) = true := by simp [C.flat]
theorem texts_strs (l : List (List UInt8)) : textsOk (l.map eStr) = true ↔ ∀ x ∈ l, x.length ≤ 281474976710656 := by simp [textsOk]
theorem texts_nds (l : List Nd) : textsOk (l.map eNd) = true ↔ ∀ x ∈ l, x.text.length ≤ 281474976710656 := by simp [textsOk]
theorem texts_ens (l : List En) : textsOk (l.map eEn) = true ↔ ∀ x ∈ l, x.name.length ≤ 281474976710656 := by simp [textsOk]
theorem fit_texts {E : Env} {e : TypeId} {x : C} (h : Fit E (.slice e) x) : ∃ rows, x = .sl rows ∧ textsOk rows = true := by
  cases h with
  | @sl _ te rows h1 h2 h3 h4 =>
    refine ⟨rows, rfl, ?_⟩
    simp only [textsOk, List.all_eq_true]
    intro r hr c hc
    split
    · rename_i s
      obtain ⟨j, hj⟩ := List.getElem?_of_mem hc
      have hjl := (List.getElem?_eq_some_iff.1 hj).1
      have hlen := h3 r hr
      obtain ⟨s', hs, hl⟩ : ∃ s', C.str s = .str s' ∧ s'.length ≤ 140737488351232 := by
        have hk : te.leaves[j]? = some (te.leaves[j]'(by omega)) := List.getElem?_eq_getElem (by omega)
        have hf := h4 r hr j _ _ hk hj
        generalize te.leaves[j]'(by omega) = kd at hf
        cases hf with
        | str a => exact ⟨_, rfl, a⟩
      obtain rfl := C.str.inj hs
      simp only [decide_eq_true_eq]
      omega
    · rfl
theorem szEach_neg (ns : List Nat) (left : Int) (h : left < 0) (h0 : ns = [] → left = -1) : szEach ns left = -1 := by
  cases ns with
  | nil => exact h0 rfl
  | cons n r => simp only [szEach]; rw [if_pos (by omega)]
theorem szList_le (ns : List Nat) (left : Int) : szEach ns left ≤ left ∨ szEach ns left = -1 := by
  induction ns generalizing left with
  | nil => exact .inl (Int.le_refl _)
  | cons n r ih =>
    simp only [szEach]
    split
    · exact .inr rfl
    · rcases ih (left - n) with h | h
      · exact .inl (by omega)
      · exact .inr h
theorem szEach_sum (ns : List Nat) (left : Int) (h0 : 0 ≤ left) (h : 0 ≤ szEach ns left) : szEach ns left + (ns.sum : Int) = left := by
  induction ns generalizing left with
  | nil => simp [szEach]
  | cons n r ih =>
    simp only [szEach] at h ⊢
    split at h
    · omega
    · rename_i hn
      rw [if_neg hn]
      have := ih (left - n) (by omega) h
      simp only [List.sum_cons, Int.natCast_add]
      omega
theorem szList_sum (ns : List Nat) (left : Int) (h : 0 ≤ szList ns left) : szList ns left + (ns.length : Int) + (ns.sum : Int) = left := by
  unfold szList at h ⊢
  split at h
  · omega
  · rename_i hn
    rw [if_neg hn]
    have := szEach_sum ns _ (by omega) h
    omega
theorem take_eq_step {A : Type} {x y : List A} {i : Nat} (d : A) (hx : i < x.length) (hy : i < y.length) (h : x.take i = y.take i) (hd : x.getD i d = y.getD i d) : x.take (i + 1) = y.take (i + 1) := by
  rw [List.take_add_one, List.take_add_one, h]
  simp [List.getD_eq_getElem?_getD, hx, hy] at hd
  simp [hx, hy, hd]

theorem szStringS_loop (l : List (List UInt8)) (hl : l.length ≤ 281474976710656) (ht : ∀ x ∈ l, x.length ≤ 281474976710656) : ∀ (n i : Nat) (left : Int), i ≤ l.length → l.length < i + n → 0 ≤ left → left ≤ 1048576 →
    (vLoop E_szStringS noInl (sg [pSl 9, pI] [rI]) Tryz.f44 [.r, .r, .r, .l, .r, .b] n (H_szStringS (l.map eStr) left i)).eval = some [.int .i64 (szEach ((l.drop i).map List.length) left)] := by
  intro n
  induction n with
  | zero => intro i left h1 h2; omega
  | succ n ih =>
    intro i left h1 h2 h3 h4
    rw [vLoop_L _ _ _ _ _ _ _ (by kernel_rfl), szStringS_round0]
    by_cases hi : i < l.length
    · have g := map_getD eStr l [] i hi
      have hd : l.drop i = l.getD i [] :: l.drop (i + 1) := by rw [List.drop_eq_getElem_cons hi]; simp [List.getD_eq_getElem?_getD, hi]
      have hm : l.getD i [] ∈ l := by rw [List.getD_eq_getElem?_getD, List.getElem?_eq_getElem hi]; exact List.getElem_mem hi
      have hx := ht _ hm
      have w1 : IntKind.i64.wrap (left - ((l.getD i []).length : Int)) = left - ((l.getD i []).length : Int) := by rw [wrap64] <;> omega
      have w : IntKind.i64.wrap ((i : Int) + 1) = ((i + 1 : Nat) : Int) := by rw [wrap64] <;> omega
      have hz : (0 : Int) ≤ i := by omega
      have hi' : (i : Int) < l.length := by omega
      rw [hd, List.map_cons]
      simp only [eval_must', eval_ask', eval_ret', if_true, decide_eq_true_eq, Bool.and_eq_true, w, hz, hi', Int.toNat_natCast, List.length_map, g, and_self, List.getD_cons_zero, C.toStr, C.is, List.length_cons, List.length_nil, Nat.zero_add, Nat.zero_lt_succ, w1, szEach]
      by_cases hn : left - ((l.getD i []).length : Int) < 0
      · simp only [hn, if_true]
      · simp only [hn, if_false]
        exact ih (i + 1) _ (by omega) (by omega) (by omega) (by omega)
    · have e : i = l.length := by omega
      subst e
      have hi' : ¬ ((l.length : Int) < (l.length : Int)) := by omega
      simp only [eval_ask', eval_ret', decide_eq_true_eq, List.length_map, hi', if_false, List.drop_length, List.map_nil, szEach]
theorem szStringS_E : EnvSound Tryz.prog E_szStringS := mkE_sound (by simp [])
theorem szStringS_sound : Sound Tryz.prog 44 (sg [pSl 9, pI] [rI]) szStrSpec := vBody_sound szStringS_E noInl_ok Tryz.func44 (by kernel_rfl) fun cs outs hk h => by
  unfold szStrSpec at h
  split at h
  · simp only [Option.some.injEq, Prod.mk.injEq, Bool.and_eq_true, decide_eq_true_eq] at h
    obtain ⟨⟨⟨h1, h2⟩, h3, h4, h5⟩, rfl⟩ := h
    rename_i rows left
    have hr := rows_strs h4
    generalize strs rows = l at hr ⊢
    subst hr
    rw [List.length_map] at h3
    rw [vBody_L, szStringS_tree]
    have w : IntKind.i64.wrap (left - (l.length : Int)) = left - l.length := by rw [wrap64] <;> omega
    simp only [eval_ask', eval_ret', decide_eq_true_eq, List.length_map, w, szList]
    split
    · rfl
    · exact szStringS_loop l h3 ((texts_strs l).1 h5) _ 0 _ (by omega) (by omega) (by omega) (by omega)
  · cases h

theorem toStringS_loop (l : List (List UInt8)) (hl : l.length ≤ 1048576) : ∀ (n i : Nat), i ≤ l.length → l.length < i + n →
    (vLoop E_toStringS noInl (sg [pSl 9] [rSl 9]) Tryz.f50 [.r, .r, .l, .r, .b] n (H_toStringS (l.map eStr) l.length ((l.take i ++ List.replicate (l.length - i) []).map eStr) i)).eval = some [.sl (l.map eStr)] := by
  intro n
  induction n with
  | zero => intro i h1 h2; omega
  | succ n ih =>
    intro i h1 h2
    rw [vLoop_L _ _ _ _ _ _ _ (by kernel_rfl), toStringS_round0]
    by_cases hi : i < l.length
    · have e := ih (i + 1) (by omega) (by omega)
      rw [← copy_set l [] [] i hi, List.map_set] at e
      have w : IntKind.i64.wrap ((i : Int) + 1) = ((i + 1 : Nat) : Int) := by rw [wrap64] <;> omega
      have hz : (0 : Int) ≤ i := by omega
      have hi' : (i : Int) < l.length := by omega
      have g := map_getD eStr l [] i hi
      have hlen : (l.take i ++ List.replicate (l.length - i) ([] : List UInt8)).length = l.length := by simp; omega
      have g2 := map_getD eStr (l.take i ++ List.replicate (l.length - i) []) [] i (by omega)
      simp only [eval_must', eval_ask', eval_ret', if_true, decide_eq_true_eq, Bool.and_eq_true, w, hz, hi', Int.toNat_natCast, List.length_map, Nat.zero_add, g, g2, hlen, hi, and_self, List.getD_cons_zero, C.toStr, C.is, List.length_cons, List.length_nil, Nat.zero_lt_succ, List.drop_succ_cons, List.drop_nil]
      exact e
    · have : i = l.length := by omega
      subst this
      have f := flat_strs l
      simp [eval_must', eval_ask', eval_ret', C.flat]
theorem toStringS_E : EnvSound Tryz.prog E_toStringS := mkE_sound (by simp [])
theorem toStringS_sound : Sound Tryz.prog 50 (sg [pSl 9] [rSl 9]) toStrSpec := vBody_sound toStringS_E noInl_ok Tryz.func50 (by kernel_rfl) fun cs outs hk h => by
  unfold toStrSpec at h
  split at h
  · simp only [Option.some.injEq, Prod.mk.injEq, Bool.and_eq_true, decide_eq_true_eq] at h
    obtain ⟨⟨h1, h2⟩, rfl⟩ := h
    rename_i rows
    have hr := rows_strs h2
    generalize strs rows = l at hr
    subst hr
    rw [List.length_map] at h1
    rw [vBody_L, toStringS_tree]
    have c2 : (0 : Int) ≤ l.length := by omega
    have := toStringS_loop l h1 9223372036854775808 0 (by omega) (by omega)
    simp only [List.take_zero, List.nil_append, Nat.sub_zero, List.map_replicate] at this
    simp only [eval_must', if_true, decide_eq_true_eq, Bool.and_eq_true, List.length_map, Int.toNat_natCast, c2, Int.le_refl, and_self, true_and]
    rw [if_pos (by omega)]
    exact this
  · cases h

theorem eqStringS_loop (x y : List (List UInt8)) (hx : x.length ≤ 1073741824) (hl : x.length = y.length) : ∀ (n i : Nat), i ≤ x.length → x.length < i + n → x.take i = y.take i →
    (vLoop E_eqStringS noInl (sg [pSl 9, pSl 9] [rB]) Tryz.f56 [.r, .r, .l, .r, .b] n (H_eqStringS (x.map eStr) (y.map eStr) i)).eval = some [.bool (decide (x = y))] := by
  intro n
  induction n with
  | zero => intro i h1 h2; omega
  | succ n ih =>
    intro i h1 h2 h3
    rw [vLoop_L _ _ _ _ _ _ _ (by kernel_rfl), eqStringS_round0]
    by_cases hi : i < x.length
    · have hi2 : i < y.length := by omega
      have w : IntKind.i64.wrap ((i : Int) + 1) = ((i + 1 : Nat) : Int) := by rw [wrap64] <;> omega
      have hz : (0 : Int) ≤ i := by omega
      have g := map_getD eStr x [] i hi
      have g2 := map_getD eStr y [] i hi2
      simp only [eval_must', eval_ask', eval_ret', if_true, decide_eq_true_eq, Bool.and_eq_true, w, hz, Int.toNat_natCast, Int.ofNat_lt, List.length_map, g, g2, hi, hi2, and_self, List.getD_cons_zero, C.toStr, C.is, List.length_cons, List.length_nil, Nat.zero_add, Nat.zero_lt_succ, Bool.not_eq_true', beq_eq_false_iff_ne, ne_eq]
      by_cases hxy : x.getD i [] = y.getD i []
      · have e := ih (i + 1) (by omega) (by omega) (take_eq_step [] hi hi2 h3 hxy)
        simp only [hxy, not_true_eq_false, if_false]
        exact e
      · have : x ≠ y := fun h => hxy (by rw [h])
        simp only [hxy, not_false_eq_true, if_true, this, decide_false]
    · have e1 : i = x.length := by omega
      have : x = y := by
        rw [e1, List.take_length, hl, List.take_length] at h3
        exact h3
      have e2 : decide (x = y) = true := by simp [this]
      simp only [eval_must', eval_ask', eval_ret', decide_eq_true_eq, List.length_map, Int.ofNat_lt, hi, if_false, if_true, e2]
theorem eqStringS_E : EnvSound Tryz.prog E_eqStringS := mkE_sound (by simp [])
theorem eqStringS_sound : Sound Tryz.prog 56 (sg [pSl 9, pSl 9] [rB]) eqStrSpec := vBody_sound eqStringS_E noInl_ok Tryz.func56 (by kernel_rfl) fun cs outs hk h => by
  unfold eqStrSpec at h
  split at h
  · simp only [Option.some.injEq, Prod.mk.injEq, Bool.and_eq_true, decide_eq_true_eq] at h
    obtain ⟨⟨h1, h2, h3⟩, rfl⟩ := h
    rename_i x y
    have hx := rows_strs h2
    have hy := rows_strs h3
    generalize strs x = l at hx ⊢
    generalize strs y = m at hy ⊢
    subst hx; subst hy
    rw [List.length_map] at h1
    rw [vBody_L, eqStringS_tree]
    simp only [eval_must', eval_ask', eval_ret', if_true, bne_iff_ne, ne_eq, List.length_map, Int.ofNat_inj]
    by_cases hl : l.length = m.length
    · simp only [hl, not_true_eq_false, if_false]
      exact eqStringS_loop l m h1 hl _ 0 (by omega) (by omega) rfl
    · have : l ≠ m := fun h => hl (by rw [h])
      simp [hl, this]
  · cases h

end Go.Proofs.YtggmbjbmklimdaaGreatDoor.V

namespace Go.Proofs.YtggmbjbmklimdaaGreatDoor.V
noncomputable section

def pNode : PTy := .val true kNd
def rNode : RTy := ⟨true, [(.int .i64, false), (.str, false), (.int .i64, false)]⟩

def szNodeSpec : Spec := fun cs => match cs with
  | [.int .i64 i1, .str t1, .int .i64 s1, .int .i64 left] => some (decide (0 ≤ left) && decide (left ≤ 1048576) && decide (t1.length ≤ 281474976710656), [.int .i64 (szOne t1.length left)])
  | _ => none
def szNodeSSpec : Spec := fun cs => match cs with
  | [.sl rows, .int .i64 left] => some (decide (0 ≤ left) && decide (left ≤ 1048576) && (decide (rows.length ≤ 281474976710656) && (rowsOk kNd rows && textsOk rows)), [.int .i64 (szList ((nds rows).map fun x => x.text.length) left)])
  | _ => none
def H_szNodeS (r : List (List C)) (left : Int) (i : Int) : St := st0 [(0, .l (.sl r)), (1, int64 left), (5, int64 i)]
def E_szNode : Env := mkE [] []
def E_szNodeS : Env := mkE [(5, [0, 1, 5])] [(118, (sg [pNode, pI] [rI]), szNodeSpec)]

def toNodeSpec : Spec := fun cs => match cs with
  | [.int .i64 i1, .str t1, .int .i64 s1] => some (true, [.int .i64 i1, .str t1, .int .i64 s1])
  | _ => none
def toNodeSSpec : Spec := fun cs => match cs with
  | [.sl rows] => some (decide (rows.length ≤ 1048576) && rowsOk kNd rows, [.sl rows])
  | _ => none
def H_toNodeS (r : List (List C)) (n : Nat) (out : List (List C)) (i : Int) : St := st1 [(0, .l (.sl r)), (3, .l (.ref 0 0 n)), (4, int64 i)] 3 out
def E_toNode : Env := mkE [] []
def E_toNodeS : Env := mkE [(3, [0, 3, 4])] [(122, (sg [pNode] [rNode]), toNodeSpec)]

def eqNd (i1 : Int) (t1 : List UInt8) (s1 i2 : Int) (t2 : List UInt8) (s2 : Int) : Bool := decide ((⟨i1, t1, s1⟩ : Nd) = ⟨i2, t2, s2⟩)
def eqNodeSpec : Spec := fun cs => match cs with
  | [.int .i64 i1, .str t1, .int .i64 s1, .int .i64 i2, .str t2, .int .i64 s2] => some (true, [.bool (eqNd i1 t1 s1 i2 t2 s2)])
  | _ => none
def eqNodeSSpec : Spec := fun cs => match cs with
  | [.sl x, .sl y] => some (decide (x.length ≤ 1048576) && (rowsOk kNd x && rowsOk kNd y), [.bool (decide (nds x = nds y))])
  | _ => none
def H_eqNodeS (x y : List (List C)) (i : Int) : St := st0 [(0, .l (.sl x)), (1, .l (.sl y)), (5, int64 i)]
def E_eqNode : Env := mkE [] []
def E_eqNodeS : Env := mkE [(4, [0, 1, 5])] [(126, (sg [pNode, pNode] [rB]), eqNodeSpec)]

def pEntry : PTy := .val true kEn
def rEntry : RTy := ⟨true, [(.str, false), (.int .i64, false)]⟩

def szEntrySpec : Spec := fun cs => match cs with
  | [.str t1, .int .i64 i1, .int .i64 left] => some (decide (0 ≤ left) && decide (left ≤ 1048576) && decide (t1.length ≤ 281474976710656), [.int .i64 (szOne t1.length left)])
  | _ => none
def szEntrySSpec : Spec := fun cs => match cs with
  | [.sl rows, .int .i64 left] => some (decide (0 ≤ left) && decide (left ≤ 1048576) && (decide (rows.length ≤ 281474976710656) && (rowsOk kEn rows && textsOk rows)), [.int .i64 (szList ((ens rows).map fun x => x.name.length) left)])
  | _ => none
def H_szEntryS (r : List (List C)) (left : Int) (i : Int) : St := st0 [(0, .l (.sl r)), (1, int64 left), (5, int64 i)]
def E_szEntry : Env := mkE [] []
def E_szEntryS : Env := mkE [(5, [0, 1, 5])] [(119, (sg [pEntry, pI] [rI]), szEntrySpec)]

def toEntrySpec : Spec := fun cs => match cs with
  | [.str t1, .int .i64 i1] => some (true, [.str t1, .int .i64 i1])
  | _ => none
def toEntrySSpec : Spec := fun cs => match cs with
  | [.sl rows] => some (decide (rows.length ≤ 1048576) && rowsOk kEn rows, [.sl rows])
  | _ => none
def H_toEntryS (r : List (List C)) (n : Nat) (out : List (List C)) (i : Int) : St := st1 [(0, .l (.sl r)), (3, .l (.ref 0 0 n)), (4, int64 i)] 2 out
def E_toEntry : Env := mkE [] []
def E_toEntryS : Env := mkE [(3, [0, 3, 4])] [(123, (sg [pEntry] [rEntry]), toEntrySpec)]

def eqEn (t1 : List UInt8) (i1 : Int) (t2 : List UInt8) (i2 : Int) : Bool := decide ((⟨t1, i1⟩ : En) = ⟨t2, i2⟩)
def eqEntrySpec : Spec := fun cs => match cs with
  | [.str t1, .int .i64 i1, .str t2, .int .i64 i2] => some (true, [.bool (eqEn t1 i1 t2 i2)])
  | _ => none
def eqEntrySSpec : Spec := fun cs => match cs with
  | [.sl x, .sl y] => some (decide (x.length ≤ 1048576) && (rowsOk kEn x && rowsOk kEn y), [.bool (decide (ens x = ens y))])
  | _ => none
def H_eqEntryS (x y : List (List C)) (i : Int) : St := st0 [(0, .l (.sl x)), (1, .l (.sl y)), (5, int64 i)]
def E_eqEntry : Env := mkE [] []
def E_eqEntryS : Env := mkE [(4, [0, 1, 5])] [(127, (sg [pEntry, pEntry] [rB]), eqEntrySpec)]

end
end Go.Proofs.YtggmbjbmklimdaaGreatDoor.V

namespace Go.Proofs.YtggmbjbmklimdaaGreatDoor.V
set_option maxRecDepth 100000
theorem szNode_tree (H : List Pt → Nat → St → T (List C)) (i1 : Int) (t1 : List UInt8) (s1 : Int) (left : Int) : (vBodyL E_szNode noInl (sg [pNode, pI] [rI]) Tryz.f118 H
  [C.int IntKind.i64 i1, C.str t1, C.int IntKind.i64 s1, C.int IntKind.i64 left]).eval =
 ((.ask (decide (IntKind.i64.wrap (left - (↑t1.length : Int)) < (0 : Int)))
 (.ret [C.int IntKind.i64 (-1 : Int)])
 (.ret [C.int IntKind.i64 (IntKind.i64.wrap (left - (↑t1.length : Int)))])) : T (List C)).eval := evalEq (by kernel_rfl)
theorem szNodeS_tree (H : List Pt → Nat → St → T (List C)) (r : List (List C)) (n : Int) : (vBodyL E_szNodeS noInl (sg [pSl (120 : TypeId), pI] [rI]) Tryz.f42 H [C.sl r, C.int IntKind.i64 n]).eval =
 ((.ask (decide (IntKind.i64.wrap (n - (↑r.length : Int)) < (0 : Int)))
 (.ret [C.int IntKind.i64 (-1 : Int)])
 (H [Pt.r, Pt.r, Pt.r, Pt.l, Pt.r, Pt.b] (9223372036854775808 : Nat) (H_szNodeS (r) (IntKind.i64.wrap (n - (↑r.length : Int))) ((0 : Int))))) : T (List C)).eval := evalEq (by kernel_rfl)
theorem szNodeS_round0 (H : List Pt → Nat → St → T (List C)) (r : List (List C)) (n : Int) (i : Int) (k : Nat) : (vRound E_szNodeS noInl (sg [pSl (120 : TypeId), pI] [rI]) Tryz.f42 H [Pt.r, Pt.r, Pt.r, Pt.l, Pt.r, Pt.b] k
  (H_szNodeS r n i)).eval =
 ((.ask (decide (i < (↑r.length : Int)))
 (.must (decide ((0 : Int) ≤ i) && decide (i < (↑r.length : Int)) && decide ((r.getD i.toNat []).length = (3 : Nat)))
  (.must (decide ((0 : Nat) < (r.getD i.toNat []).length) &&
    C.is (K.int IntKind.i64) ((r.getD i.toNat []).getD (0 : Nat) (C.fn (0 : FuncId) [])) &&
  (decide ((0 : Nat) + (1 : Nat) < (r.getD i.toNat []).length) &&
      C.is K.str ((r.getD i.toNat []).getD ((0 : Nat) + (1 : Nat)) (C.fn (0 : FuncId) [])) &&
    (decide ((0 : Nat) + (1 : Nat) + (1 : Nat) < (r.getD i.toNat []).length) &&
        C.is (K.int IntKind.i64)
          ((r.getD i.toNat []).getD ((0 : Nat) + (1 : Nat) + (1 : Nat)) (C.fn (0 : FuncId) [])) &&
      true)))
   (.must (decide ((0 : Int) ≤ n) && decide (n ≤ (1048576 : Int)) &&
  decide
    (((r.getD i.toNat []).getD ((0 : Nat) + (1 : Nat)) (C.fn (0 : FuncId) [])).toStr.length ≤ (281474976710656 : Nat)))
    (.ask (decide (szOne ((r.getD i.toNat []).getD ((0 : Nat) + (1 : Nat)) (C.fn (0 : FuncId) [])).toStr.length n < (0 : Int)))
     (.ret [C.int IntKind.i64 (-1 : Int)])
     (H [Pt.r, Pt.r, Pt.r, Pt.l, Pt.r, Pt.b] k (H_szNodeS (r) (szOne ((r.getD i.toNat []).getD ((0 : Nat) + (1 : Nat)) (C.fn (0 : FuncId) [])).toStr.length n) (IntKind.i64.wrap (i + (1 : Int)))))))))
 (.ret [C.int IntKind.i64 n])) : T (List C)).eval := evalEq (by kernel_rfl)
theorem toNode_tree (H : List Pt → Nat → St → T (List C)) (i1 : Int) (t1 : List UInt8) (s1 : Int) : (vBodyL E_toNode noInl (sg [pNode] [rNode]) Tryz.f122 H [C.int IntKind.i64 i1, C.str t1, C.int IntKind.i64 s1]).eval =
 ((.ret [C.int IntKind.i64 i1, C.str t1, C.int IntKind.i64 s1]) : T (List C)).eval := evalEq (by kernel_rfl)
theorem toNodeS_tree (H : List Pt → Nat → St → T (List C)) (r : List (List C)) : (vBodyL E_toNodeS noInl (sg [pSl (120 : TypeId)] [rSl (93 : TypeId)]) Tryz.f48 H [C.sl r]).eval =
 ((.must (decide ((0 : Int) ≤ (↑r.length : Int)) && decide ((↑r.length : Int) ≤ (↑r.length : Int)) &&
  decide ((↑(32 : Nat) : Int) * (↑r.length : Int) ≤ (281474976710656 : Int)))
 (H [Pt.r, Pt.r, Pt.l, Pt.r, Pt.b] (9223372036854775808 : Nat) (H_toNodeS (r) ((↑r.length : Int).toNat) (List.replicate (↑r.length : Int).toNat [C.int IntKind.i64 (0 : Int), C.str [], C.int IntKind.i64 (0 : Int)]) ((0 : Int))))) : T (List C)).eval := evalEq (by kernel_rfl)
theorem toNodeS_round0 (H : List Pt → Nat → St → T (List C)) (r : List (List C)) (n : Nat) (o : List (List C)) (i : Int) (k : Nat) : (vRound E_toNodeS noInl (sg [pSl (120 : TypeId)] [rSl (93 : TypeId)]) Tryz.f48 H [Pt.r, Pt.r, Pt.l, Pt.r, Pt.b] k
  (H_toNodeS r n o i)).eval =
 ((.ask (decide (i < (↑r.length : Int)))
 (.must (decide ((0 : Int) ≤ i) && decide (i < (↑r.length : Int)) && decide ((r.getD i.toNat []).length = (3 : Nat)))
  (.must (decide ((0 : Nat) < (r.getD i.toNat []).length) &&
    C.is (K.int IntKind.i64) ((r.getD i.toNat []).getD (0 : Nat) (C.fn (0 : FuncId) [])) &&
  (decide ((0 : Nat) + (1 : Nat) < (r.getD i.toNat []).length) &&
      C.is K.str ((r.getD i.toNat []).getD ((0 : Nat) + (1 : Nat)) (C.fn (0 : FuncId) [])) &&
    (decide ((0 : Nat) + (1 : Nat) + (1 : Nat) < (r.getD i.toNat []).length) &&
        C.is (K.int IntKind.i64)
          ((r.getD i.toNat []).getD ((0 : Nat) + (1 : Nat) + (1 : Nat)) (C.fn (0 : FuncId) [])) &&
      true)))
   (.must (decide ((0 : Int) ≤ i) && decide (i < (↑n : Int)))
    (.must (decide ((0 : Nat) + i.toNat < o.length))
     (H [Pt.r, Pt.r, Pt.l, Pt.r, Pt.b] k (H_toNodeS (r) (n) (o.set ((0 : Nat) + i.toNat)
  (C.int IntKind.i64 (C.int IntKind.i64 ((r.getD i.toNat []).getD (0 : Nat) (C.fn (0 : FuncId) [])).toInt).toInt ::
    C.str (C.str ((r.getD i.toNat []).getD ((0 : Nat) + (1 : Nat)) (C.fn (0 : FuncId) [])).toStr).toStr ::
      C.int IntKind.i64
          (C.int IntKind.i64
              ((r.getD i.toNat []).getD ((0 : Nat) + (1 : Nat) + (1 : Nat)) (C.fn (0 : FuncId) [])).toInt).toInt ::
        List.drop ((0 : Nat) + ((Nat.add (1 : Nat) (0 : Nat)).succ.add (0 : Nat)).succ)
          (o.getD ((0 : Nat) + i.toNat) []))) (IntKind.i64.wrap (i + (1 : Int)))))))))
 (.must (decide (n = o.length) && (false || o.all fun r => r.all C.flat) && true && true && true)
  (.ret [C.sl o]))) : T (List C)).eval := evalEq (by kernel_rfl)
theorem eqNode_tree (H : List Pt → Nat → St → T (List C)) (i1 : Int) (t1 : List UInt8) (s1 : Int) (i2 : Int) (t2 : List UInt8) (s2 : Int) : (vBodyL E_eqNode noInl (sg [pNode, pNode] [rB]) Tryz.f126 H
  [C.int IntKind.i64 i1, C.str t1, C.int IntKind.i64 s1, C.int IntKind.i64 i2, C.str t2, C.int IntKind.i64 s2]).eval =
 ((.ask (i1 != i2)
 (.ret [C.bool false])
 (.ask (!t1 == t2)
  (.ret [C.bool false])
  (.ask (s1 != s2)
   (.ret [C.bool false])
   (.ret [C.bool true])))) : T (List C)).eval := evalEq (by kernel_rfl)
theorem eqNodeS_tree (H : List Pt → Nat → St → T (List C)) (x : List (List C)) (y : List (List C)) : (vBodyL E_eqNodeS noInl (sg [pSl (93 : TypeId), pSl (93 : TypeId)] [rB]) Tryz.f54 H [C.sl x, C.sl y]).eval =
 ((.ask ((↑x.length : Int) != (↑y.length : Int))
 (.ret [C.bool false])
 (H [Pt.r, Pt.r, Pt.l, Pt.r, Pt.b] (9223372036854775808 : Nat) (H_eqNodeS (x) (y) ((0 : Int))))) : T (List C)).eval := evalEq (by kernel_rfl)
theorem eqNodeS_round0 (H : List Pt → Nat → St → T (List C)) (x : List (List C)) (y : List (List C)) (i : Int) (k : Nat) : (vRound E_eqNodeS noInl (sg [pSl (93 : TypeId), pSl (93 : TypeId)] [rB]) Tryz.f54 H [Pt.r, Pt.r, Pt.l, Pt.r, Pt.b] k
  (H_eqNodeS x y i)).eval =
 ((.ask (decide (i < (↑x.length : Int)))
 (.must (decide ((0 : Int) ≤ i) && decide (i < (↑x.length : Int)) && decide ((x.getD i.toNat []).length = (3 : Nat)))
  (.must (decide ((0 : Nat) < (x.getD i.toNat []).length) &&
    C.is (K.int IntKind.i64) ((x.getD i.toNat []).getD (0 : Nat) (C.fn (0 : FuncId) [])) &&
  (decide ((0 : Nat) + (1 : Nat) < (x.getD i.toNat []).length) &&
      C.is K.str ((x.getD i.toNat []).getD ((0 : Nat) + (1 : Nat)) (C.fn (0 : FuncId) [])) &&
    (decide ((0 : Nat) + (1 : Nat) + (1 : Nat) < (x.getD i.toNat []).length) &&
        C.is (K.int IntKind.i64)
          ((x.getD i.toNat []).getD ((0 : Nat) + (1 : Nat) + (1 : Nat)) (C.fn (0 : FuncId) [])) &&
      true)))
   (.must (decide ((0 : Int) ≤ i) && decide (i < (↑y.length : Int)) && decide ((y.getD i.toNat []).length = (3 : Nat)))
    (.must (decide ((0 : Nat) < (y.getD i.toNat []).length) &&
    C.is (K.int IntKind.i64) ((y.getD i.toNat []).getD (0 : Nat) (C.fn (0 : FuncId) [])) &&
  (decide ((0 : Nat) + (1 : Nat) < (y.getD i.toNat []).length) &&
      C.is K.str ((y.getD i.toNat []).getD ((0 : Nat) + (1 : Nat)) (C.fn (0 : FuncId) [])) &&
    (decide ((0 : Nat) + (1 : Nat) + (1 : Nat) < (y.getD i.toNat []).length) &&
        C.is (K.int IntKind.i64)
          ((y.getD i.toNat []).getD ((0 : Nat) + (1 : Nat) + (1 : Nat)) (C.fn (0 : FuncId) [])) &&
      true)))
     (.ask (eqNd ((x.getD i.toNat []).getD (0 : Nat) (C.fn (0 : FuncId) [])).toInt
  ((x.getD i.toNat []).getD ((0 : Nat) + (1 : Nat)) (C.fn (0 : FuncId) [])).toStr
  ((x.getD i.toNat []).getD ((0 : Nat) + (1 : Nat) + (1 : Nat)) (C.fn (0 : FuncId) [])).toInt
  ((y.getD i.toNat []).getD (0 : Nat) (C.fn (0 : FuncId) [])).toInt
  ((y.getD i.toNat []).getD ((0 : Nat) + (1 : Nat)) (C.fn (0 : FuncId) [])).toStr
  ((y.getD i.toNat []).getD ((0 : Nat) + (1 : Nat) + (1 : Nat)) (C.fn (0 : FuncId) [])).toInt)
      (H [Pt.r, Pt.r, Pt.l, Pt.r, Pt.b] k (H_eqNodeS (x) (y) (IntKind.i64.wrap (i + (1 : Int)))))
      (.ret [C.bool false]))))))
 (.ret [C.bool true])) : T (List C)).eval := evalEq (by kernel_rfl)
theorem szEntry_tree (H : List Pt → Nat → St → T (List C)) (t1 : List UInt8) (i1 : Int) (left : Int) : (vBodyL E_szEntry noInl (sg [pEntry, pI] [rI]) Tryz.f119 H [C.str t1, C.int IntKind.i64 i1, C.int IntKind.i64 left]).eval =
 ((.ask (decide (IntKind.i64.wrap (left - (↑t1.length : Int)) < (0 : Int)))
 (.ret [C.int IntKind.i64 (-1 : Int)])
 (.ret [C.int IntKind.i64 (IntKind.i64.wrap (left - (↑t1.length : Int)))])) : T (List C)).eval := evalEq (by kernel_rfl)
theorem szEntryS_tree (H : List Pt → Nat → St → T (List C)) (r : List (List C)) (n : Int) : (vBodyL E_szEntryS noInl (sg [pSl (123 : TypeId), pI] [rI]) Tryz.f43 H [C.sl r, C.int IntKind.i64 n]).eval =
 ((.ask (decide (IntKind.i64.wrap (n - (↑r.length : Int)) < (0 : Int)))
 (.ret [C.int IntKind.i64 (-1 : Int)])
 (H [Pt.r, Pt.r, Pt.r, Pt.l, Pt.r, Pt.b] (9223372036854775808 : Nat) (H_szEntryS (r) (IntKind.i64.wrap (n - (↑r.length : Int))) ((0 : Int))))) : T (List C)).eval := evalEq (by kernel_rfl)
theorem szEntryS_round0 (H : List Pt → Nat → St → T (List C)) (r : List (List C)) (n : Int) (i : Int) (k : Nat) : (vRound E_szEntryS noInl (sg [pSl (123 : TypeId), pI] [rI]) Tryz.f43 H [Pt.r, Pt.r, Pt.r, Pt.l, Pt.r, Pt.b] k
  (H_szEntryS r n i)).eval =
 ((.ask (decide (i < (↑r.length : Int)))
 (.must (decide ((0 : Int) ≤ i) && decide (i < (↑r.length : Int)) && decide ((r.getD i.toNat []).length = (2 : Nat)))
  (.must (decide ((0 : Nat) < (r.getD i.toNat []).length) &&
    C.is K.str ((r.getD i.toNat []).getD (0 : Nat) (C.fn (0 : FuncId) [])) &&
  (decide ((0 : Nat) + (1 : Nat) < (r.getD i.toNat []).length) &&
      C.is (K.int IntKind.i64) ((r.getD i.toNat []).getD ((0 : Nat) + (1 : Nat)) (C.fn (0 : FuncId) [])) &&
    true))
   (.must (decide ((0 : Int) ≤ n) && decide (n ≤ (1048576 : Int)) &&
  decide (((r.getD i.toNat []).getD (0 : Nat) (C.fn (0 : FuncId) [])).toStr.length ≤ (281474976710656 : Nat)))
    (.ask (decide (szOne ((r.getD i.toNat []).getD (0 : Nat) (C.fn (0 : FuncId) [])).toStr.length n < (0 : Int)))
     (.ret [C.int IntKind.i64 (-1 : Int)])
     (H [Pt.r, Pt.r, Pt.r, Pt.l, Pt.r, Pt.b] k (H_szEntryS (r) (szOne ((r.getD i.toNat []).getD (0 : Nat) (C.fn (0 : FuncId) [])).toStr.length n) (IntKind.i64.wrap (i + (1 : Int)))))))))
 (.ret [C.int IntKind.i64 n])) : T (List C)).eval := evalEq (by kernel_rfl)
theorem toEntry_tree (H : List Pt → Nat → St → T (List C)) (t1 : List UInt8) (i1 : Int) : (vBodyL E_toEntry noInl (sg [pEntry] [rEntry]) Tryz.f123 H [C.str t1, C.int IntKind.i64 i1]).eval =
 ((.ret [C.str t1, C.int IntKind.i64 i1]) : T (List C)).eval := evalEq (by kernel_rfl)
theorem toEntryS_tree (H : List Pt → Nat → St → T (List C)) (r : List (List C)) : (vBodyL E_toEntryS noInl (sg [pSl (123 : TypeId)] [rSl (127 : TypeId)]) Tryz.f49 H [C.sl r]).eval =
 ((.must (decide ((0 : Int) ≤ (↑r.length : Int)) && decide ((↑r.length : Int) ≤ (↑r.length : Int)) &&
  decide ((↑(24 : Nat) : Int) * (↑r.length : Int) ≤ (281474976710656 : Int)))
 (H [Pt.r, Pt.r, Pt.l, Pt.r, Pt.b] (9223372036854775808 : Nat) (H_toEntryS (r) ((↑r.length : Int).toNat) (List.replicate (↑r.length : Int).toNat [C.str [], C.int IntKind.i64 (0 : Int)]) ((0 : Int))))) : T (List C)).eval := evalEq (by kernel_rfl)
theorem toEntryS_round0 (H : List Pt → Nat → St → T (List C)) (r : List (List C)) (n : Nat) (o : List (List C)) (i : Int) (k : Nat) : (vRound E_toEntryS noInl (sg [pSl (123 : TypeId)] [rSl (127 : TypeId)]) Tryz.f49 H [Pt.r, Pt.r, Pt.l, Pt.r, Pt.b] k
  (H_toEntryS r n o i)).eval =
 ((.ask (decide (i < (↑r.length : Int)))
 (.must (decide ((0 : Int) ≤ i) && decide (i < (↑r.length : Int)) && decide ((r.getD i.toNat []).length = (2 : Nat)))
  (.must (decide ((0 : Nat) < (r.getD i.toNat []).length) &&
    C.is K.str ((r.getD i.toNat []).getD (0 : Nat) (C.fn (0 : FuncId) [])) &&
  (decide ((0 : Nat) + (1 : Nat) < (r.getD i.toNat []).length) &&
      C.is (K.int IntKind.i64) ((r.getD i.toNat []).getD ((0 : Nat) + (1 : Nat)) (C.fn (0 : FuncId) [])) &&
    true))
   (.must (decide ((0 : Int) ≤ i) && decide (i < (↑n : Int)))
    (.must (decide ((0 : Nat) + i.toNat < o.length))
     (H [Pt.r, Pt.r, Pt.l, Pt.r, Pt.b] k (H_toEntryS (r) (n) (o.set ((0 : Nat) + i.toNat)
  (C.str (C.str ((r.getD i.toNat []).getD (0 : Nat) (C.fn (0 : FuncId) [])).toStr).toStr ::
    C.int IntKind.i64
        (C.int IntKind.i64 ((r.getD i.toNat []).getD ((0 : Nat) + (1 : Nat)) (C.fn (0 : FuncId) [])).toInt).toInt ::
      List.drop ((0 : Nat) + (Nat.add (1 : Nat) (0 : Nat)).succ) (o.getD ((0 : Nat) + i.toNat) []))) (IntKind.i64.wrap (i + (1 : Int)))))))))
 (.must (decide (n = o.length) && (false || o.all fun r => r.all C.flat) && true && true && true)
  (.ret [C.sl o]))) : T (List C)).eval := evalEq (by kernel_rfl)
theorem eqEntry_tree (H : List Pt → Nat → St → T (List C)) (t1 : List UInt8) (i1 : Int) (t2 : List UInt8) (i2 : Int) : (vBodyL E_eqEntry noInl (sg [pEntry, pEntry] [rB]) Tryz.f127 H
  [C.str t1, C.int IntKind.i64 i1, C.str t2, C.int IntKind.i64 i2]).eval =
 ((.ask (!t1 == t2)
 (.ret [C.bool false])
 (.ask (i1 != i2)
  (.ret [C.bool false])
  (.ret [C.bool true]))) : T (List C)).eval := evalEq (by kernel_rfl)
theorem eqEntryS_tree (H : List Pt → Nat → St → T (List C)) (x : List (List C)) (y : List (List C)) : (vBodyL E_eqEntryS noInl (sg [pSl (127 : TypeId), pSl (127 : TypeId)] [rB]) Tryz.f55 H [C.sl x, C.sl y]).eval =
 ((.ask ((↑x.length : Int) != (↑y.length : Int))
 (.ret [C.bool false])
 (H [Pt.r, Pt.r, Pt.l, Pt.r, Pt.b] (9223372036854775808 : Nat) (H_eqEntryS (x) (y) ((0 : Int))))) : T (List C)).eval := evalEq (by kernel_rfl)
theorem eqEntryS_round0 (H : List Pt → Nat → St → T (List C)) (x : List (List C)) (y : List (List C)) (i : Int) (k : Nat) : (vRound E_eqEntryS noInl (sg [pSl (127 : TypeId), pSl (127 : TypeId)] [rB]) Tryz.f55 H [Pt.r, Pt.r, Pt.l, Pt.r, Pt.b] k
  (H_eqEntryS x y i)).eval =
 ((.ask (decide (i < (↑x.length : Int)))
 (.must (decide ((0 : Int) ≤ i) && decide (i < (↑x.length : Int)) && decide ((x.getD i.toNat []).length = (2 : Nat)))
  (.must (decide ((0 : Nat) < (x.getD i.toNat []).length) &&
    C.is K.str ((x.getD i.toNat []).getD (0 : Nat) (C.fn (0 : FuncId) [])) &&
  (decide ((0 : Nat) + (1 : Nat) < (x.getD i.toNat []).length) &&
      C.is (K.int IntKind.i64) ((x.getD i.toNat []).getD ((0 : Nat) + (1 : Nat)) (C.fn (0 : FuncId) [])) &&
    true))
   (.must (decide ((0 : Int) ≤ i) && decide (i < (↑y.length : Int)) && decide ((y.getD i.toNat []).length = (2 : Nat)))
    (.must (decide ((0 : Nat) < (y.getD i.toNat []).length) &&
    C.is K.str ((y.getD i.toNat []).getD (0 : Nat) (C.fn (0 : FuncId) [])) &&
  (decide ((0 : Nat) + (1 : Nat) < (y.getD i.toNat []).length) &&
      C.is (K.int IntKind.i64) ((y.getD i.toNat []).getD ((0 : Nat) + (1 : Nat)) (C.fn (0 : FuncId) [])) &&
    true))
     (.ask (eqEn ((x.getD i.toNat []).getD (0 : Nat) (C.fn (0 : FuncId) [])).toStr
  ((x.getD i.toNat []).getD ((0 : Nat) + (1 : Nat)) (C.fn (0 : FuncId) [])).toInt
  ((y.getD i.toNat []).getD (0 : Nat) (C.fn (0 : FuncId) [])).toStr
  ((y.getD i.toNat []).getD ((0 : Nat) + (1 : Nat)) (C.fn (0 : FuncId) [])).toInt)
      (H [Pt.r, Pt.r, Pt.l, Pt.r, Pt.b] k (H_eqEntryS (x) (y) (IntKind.i64.wrap (i + (1 : Int)))))
      (.ret [C.bool false]))))))
 (.ret [C.bool true])) : T (List C)).eval := evalEq (by kernel_rfl)
end Go.Proofs.YtggmbjbmklimdaaGreatDoor.V

namespace Go.Proofs.YtggmbjbmklimdaaGreatDoor.V

theorem szNode_E : EnvSound Tryz.prog E_szNode := mkE_sound (by simp [])
theorem szNode_sound : Sound Tryz.prog 118 (sg [pNode, pI] [rI]) szNodeSpec := vBody_sound szNode_E noInl_ok Tryz.func118 (by kernel_rfl) fun cs outs hk h => by
  unfold szNodeSpec at h
  split at h
  · simp only [Option.some.injEq, Prod.mk.injEq, Bool.and_eq_true, decide_eq_true_eq] at h
    obtain ⟨⟨⟨h1, h2⟩, h3⟩, rfl⟩ := h
    rename_i i1 t1 s1 left
    rw [vBody_L, szNode_tree]
    have w : IntKind.i64.wrap (left - (t1.length : Int)) = left - t1.length := by rw [wrap64] <;> omega
    simp only [eval_ask', eval_must', eval_ret', decide_eq_true_eq, w, szOne]
    split <;> rfl
  · cases h
theorem szNodeS_loop (l : List Nd) (hl : l.length ≤ 281474976710656) (ht : ∀ x ∈ l, x.text.length ≤ 281474976710656) : ∀ (n i : Nat) (left : Int), i ≤ l.length → l.length < i + n → 0 ≤ left → left ≤ 1048576 →
    (vLoop E_szNodeS noInl (sg [pSl 120, pI] [rI]) Tryz.f42 [.r, .r, .r, .l, .r, .b] n (H_szNodeS (l.map eNd) left i)).eval = some [.int .i64 (szEach ((l.drop i).map fun x => x.text.length) left)] := by
  intro n
  induction n with
  | zero => intro i left h1 h2; omega
  | succ n ih =>
    intro i left h1 h2 h3 h4
    rw [vLoop_L _ _ _ _ _ _ _ (by kernel_rfl), szNodeS_round0]
    by_cases hi : i < l.length
    · have g := map_getD eNd l ⟨0, [], 0⟩ i hi
      have hd : l.drop i = l.getD i ⟨0, [], 0⟩ :: l.drop (i + 1) := by rw [List.drop_eq_getElem_cons hi]; simp [List.getD_eq_getElem?_getD, hi]
      have hm : l.getD i ⟨0, [], 0⟩ ∈ l := by rw [List.getD_eq_getElem?_getD, List.getElem?_eq_getElem hi]; exact List.getElem_mem hi
      have hx := ht _ hm
      have w : IntKind.i64.wrap ((i : Int) + 1) = ((i + 1 : Nat) : Int) := by rw [wrap64] <;> omega
      have hz : (0 : Int) ≤ i := by omega
      have hi' : (i : Int) < l.length := by omega
      rw [hd, List.map_cons]
      generalize l.getD i ⟨0, [], 0⟩ = y at g hx ⊢
      simp only [eval_must', eval_ask', eval_ret', if_true, decide_eq_true_eq, Bool.and_eq_true, w, hz, hi', Int.toNat_natCast, List.length_map, g, and_self, List.getD_cons_zero, List.getD_cons_succ, C.toStr, C.toInt, C.is, List.length_cons, List.length_nil, Nat.zero_add, Nat.reduceAdd, Nat.reduceLT, decide_true, beq_self_eq_true, szEach, h3, h4, hx]
      by_cases hn : left - (y.text.length : Int) < 0
      · have hs : szOne y.text.length left = -1 := if_pos hn
        simp [hs, hn]
      · have hs : szOne y.text.length left = left - y.text.length := if_neg hn
        simp only [hs, hn, if_false]
        exact ih (i + 1) _ (by omega) (by omega) (by omega) (by omega)
    · have e : i = l.length := by omega
      subst e
      have hi' : ¬ ((l.length : Int) < (l.length : Int)) := by omega
      simp only [eval_ask', eval_ret', decide_eq_true_eq, List.length_map, hi', if_false, List.drop_length, List.map_nil, szEach]
theorem szNodeS_E : EnvSound Tryz.prog E_szNodeS := mkE_sound (by simp [szNode_sound])
theorem szNodeS_sound : Sound Tryz.prog 42 (sg [pSl 120, pI] [rI]) szNodeSSpec := vBody_sound szNodeS_E noInl_ok Tryz.func42 (by kernel_rfl) fun cs outs hk h => by
  unfold szNodeSSpec at h
  split at h
  · simp only [Option.some.injEq, Prod.mk.injEq, Bool.and_eq_true, decide_eq_true_eq] at h
    obtain ⟨⟨⟨h1, h2⟩, h3, h4, h5⟩, rfl⟩ := h
    rename_i rows left
    have hr := rows_nds h4
    generalize nds rows = l at hr ⊢
    subst hr
    rw [List.length_map] at h3
    rw [vBody_L, szNodeS_tree]
    have w : IntKind.i64.wrap (left - (l.length : Int)) = left - l.length := by rw [wrap64] <;> omega
    simp only [eval_ask', eval_ret', decide_eq_true_eq, List.length_map, w, szList]
    split
    · rfl
    · exact szNodeS_loop l h3 ((texts_nds l).1 h5) _ 0 _ (by omega) (by omega) (by omega) (by omega)
  · cases h

theorem toNode_E : EnvSound Tryz.prog E_toNode := mkE_sound (by simp [])
theorem toNode_sound : Sound Tryz.prog 122 (sg [pNode] [rNode]) toNodeSpec := vBody_sound toNode_E noInl_ok Tryz.func122 (by kernel_rfl) fun cs outs hk h => by
  unfold toNodeSpec at h
  split at h
  · simp only [Option.some.injEq, Prod.mk.injEq, true_and] at h
    subst h
    rw [vBody_L, toNode_tree]
    rfl
  · cases h
theorem toNodeS_loop (l : List Nd) (hl : l.length ≤ 1048576) : ∀ (n i : Nat), i ≤ l.length → l.length < i + n →
    (vLoop E_toNodeS noInl (sg [pSl 120] [rSl 93]) Tryz.f48 [.r, .r, .l, .r, .b] n (H_toNodeS (l.map eNd) l.length ((l.take i ++ List.replicate (l.length - i) (⟨0, [], 0⟩ : Nd)).map eNd) i)).eval = some [.sl (l.map eNd)] := by
  intro n
  induction n with
  | zero => intro i h1 h2; omega
  | succ n ih =>
    intro i h1 h2
    rw [vLoop_L _ _ _ _ _ _ _ (by kernel_rfl), toNodeS_round0]
    by_cases hi : i < l.length
    · have e := ih (i + 1) (by omega) (by omega)
      rw [← copy_set l ⟨0, [], 0⟩ ⟨0, [], 0⟩ i hi, List.map_set] at e
      have w : IntKind.i64.wrap ((i : Int) + 1) = ((i + 1 : Nat) : Int) := by rw [wrap64] <;> omega
      have hz : (0 : Int) ≤ i := by omega
      have hi' : (i : Int) < l.length := by omega
      have g := map_getD eNd l ⟨0, [], 0⟩ i hi
      have hlen : (l.take i ++ List.replicate (l.length - i) (⟨0, [], 0⟩ : Nd)).length = l.length := by simp; omega
      have g2 := map_getD eNd (l.take i ++ List.replicate (l.length - i) (⟨0, [], 0⟩ : Nd)) (⟨0, [], 0⟩ : Nd) i (by omega)
      simp only [eval_must', eval_ask', eval_ret', if_true, decide_eq_true_eq, Bool.and_eq_true, w, hz, hi', Int.toNat_natCast, List.length_map, Nat.zero_add, g, g2, hlen, hi, and_self, List.getD_cons_zero, List.getD_cons_succ, C.toStr, C.toInt, C.is, List.length_cons, List.length_nil, Nat.reduceAdd, Nat.reduceLT, decide_true, beq_self_eq_true, List.drop_succ_cons, List.drop_nil, List.drop_zero]
      exact e
    · have : i = l.length := by omega
      subst this
      have f := flat_nds l
      simp [eval_must', eval_ask', eval_ret', C.flat]
theorem toNodeS_E : EnvSound Tryz.prog E_toNodeS := mkE_sound (by simp [toNode_sound])
theorem toNodeS_sound : Sound Tryz.prog 48 (sg [pSl 120] [rSl 93]) toNodeSSpec := vBody_sound toNodeS_E noInl_ok Tryz.func48 (by kernel_rfl) fun cs outs hk h => by
  unfold toNodeSSpec at h
  split at h
  · simp only [Option.some.injEq, Prod.mk.injEq, Bool.and_eq_true, decide_eq_true_eq] at h
    obtain ⟨⟨h1, h2⟩, rfl⟩ := h
    rename_i rows
    have hr := rows_nds h2
    generalize nds rows = l at hr
    subst hr
    rw [List.length_map] at h1
    rw [vBody_L, toNodeS_tree]
    have c2 : (0 : Int) ≤ l.length := by omega
    have := toNodeS_loop l h1 9223372036854775808 0 (by omega) (by omega)
    simp only [List.take_zero, List.nil_append, Nat.sub_zero, List.map_replicate] at this
    simp only [eval_must', if_true, decide_eq_true_eq, Bool.and_eq_true, List.length_map, Int.toNat_natCast, c2, Int.le_refl, and_self, true_and]
    rw [if_pos (by omega)]
    exact this
  · cases h

theorem eqNode_E : EnvSound Tryz.prog E_eqNode := mkE_sound (by simp [])
theorem eqNode_sound : Sound Tryz.prog 126 (sg [pNode, pNode] [rB]) eqNodeSpec := vBody_sound eqNode_E noInl_ok Tryz.func126 (by kernel_rfl) fun cs outs hk h => by
  unfold eqNodeSpec at h
  split at h
  · simp only [Option.some.injEq, Prod.mk.injEq, true_and] at h
    subst h
    rw [vBody_L, eqNode_tree]
    simp only [eval_ask', eval_must', eval_ret', bne_iff_ne, ne_eq, Bool.not_eq_true', beq_eq_false_iff_ne, eqNd, Nd.mk.injEq]
    repeat' split
    all_goals first | rfl | (simp_all; done)
  · cases h
theorem eqNodeS_loop (x y : List Nd) (hx : x.length ≤ 1048576) (hl : x.length = y.length) : ∀ (n i : Nat), i ≤ x.length → x.length < i + n → x.take i = y.take i →
    (vLoop E_eqNodeS noInl (sg [pSl 93, pSl 93] [rB]) Tryz.f54 [.r, .r, .l, .r, .b] n (H_eqNodeS (x.map eNd) (y.map eNd) i)).eval = some [.bool (decide (x = y))] := by
  intro n
  induction n with
  | zero => intro i h1 h2; omega
  | succ n ih =>
    intro i h1 h2 h3
    rw [vLoop_L _ _ _ _ _ _ _ (by kernel_rfl), eqNodeS_round0]
    by_cases hi : i < x.length
    · have hi2 : i < y.length := by omega
      have w : IntKind.i64.wrap ((i : Int) + 1) = ((i + 1 : Nat) : Int) := by rw [wrap64] <;> omega
      have hz : (0 : Int) ≤ i := by omega
      have g := map_getD eNd x ⟨0, [], 0⟩ i hi
      have g2 := map_getD eNd y ⟨0, [], 0⟩ i hi2
      simp only [eval_must', eval_ask', eval_ret', if_true, decide_eq_true_eq, Bool.and_eq_true, w, hz, Int.toNat_natCast, Int.ofNat_lt, List.length_map, g, g2, hi, hi2, and_self, List.getD_cons_zero, List.getD_cons_succ, C.toStr, C.toInt, C.is, List.length_cons, List.length_nil, Nat.zero_add, Nat.reduceAdd, Nat.reduceLT, decide_true, beq_self_eq_true]
      by_cases hxy : x.getD i ⟨0, [], 0⟩ = y.getD i ⟨0, [], 0⟩
      · have e := ih (i + 1) (by omega) (by omega) (take_eq_step ⟨0, [], 0⟩ hi hi2 h3 hxy)
        have he : eqNd (x.getD i ⟨0, [], 0⟩).id (x.getD i ⟨0, [], 0⟩).text (x.getD i ⟨0, [], 0⟩).sure (y.getD i ⟨0, [], 0⟩).id (y.getD i ⟨0, [], 0⟩).text (y.getD i ⟨0, [], 0⟩).sure = true := decide_eq_true hxy
        simp only [he, if_true]
        exact e
      · have : x ≠ y := fun h => hxy (by rw [h])
        have hne : eqNd (x.getD i ⟨0, [], 0⟩).id (x.getD i ⟨0, [], 0⟩).text (x.getD i ⟨0, [], 0⟩).sure (y.getD i ⟨0, [], 0⟩).id (y.getD i ⟨0, [], 0⟩).text (y.getD i ⟨0, [], 0⟩).sure = false := decide_eq_false hxy
        simp only [hne, decide_false, Bool.false_eq_true, if_false, this]
    · have e1 : i = x.length := by omega
      have : x = y := by
        rw [e1, List.take_length, hl, List.take_length] at h3
        exact h3
      have e2 : decide (x = y) = true := by simp [this]
      simp only [eval_must', eval_ask', eval_ret', decide_eq_true_eq, List.length_map, Int.ofNat_lt, hi, if_false, if_true, e2]
theorem eqNodeS_E : EnvSound Tryz.prog E_eqNodeS := mkE_sound (by simp [eqNode_sound])
theorem eqNodeS_sound : Sound Tryz.prog 54 (sg [pSl 93, pSl 93] [rB]) eqNodeSSpec := vBody_sound eqNodeS_E noInl_ok Tryz.func54 (by kernel_rfl) fun cs outs hk h => by
  unfold eqNodeSSpec at h
  split at h
  · simp only [Option.some.injEq, Prod.mk.injEq, Bool.and_eq_true, decide_eq_true_eq] at h
    obtain ⟨⟨h1, h2, h3⟩, rfl⟩ := h
    rename_i x y
    have hx := rows_nds h2
    have hy := rows_nds h3
    generalize nds x = l at hx ⊢
    generalize nds y = m at hy ⊢
    subst hx; subst hy
    rw [List.length_map] at h1
    rw [vBody_L, eqNodeS_tree]
    simp only [eval_must', eval_ask', eval_ret', if_true, bne_iff_ne, ne_eq, List.length_map, Int.ofNat_inj]
    by_cases hl : l.length = m.length
    · simp only [hl, not_true_eq_false, if_false]
      exact eqNodeS_loop l m h1 hl _ 0 (by omega) (by omega) rfl
    · have : l ≠ m := fun h => hl (by rw [h])
      simp [hl, this]
  · cases h

theorem szEntry_E : EnvSound Tryz.prog E_szEntry := mkE_sound (by simp [])
theorem szEntry_sound : Sound Tryz.prog 119 (sg [pEntry, pI] [rI]) szEntrySpec := vBody_sound szEntry_E noInl_ok Tryz.func119 (by kernel_rfl) fun cs outs hk h => by
  unfold szEntrySpec at h
  split at h
  · simp only [Option.some.injEq, Prod.mk.injEq, Bool.and_eq_true, decide_eq_true_eq] at h
    obtain ⟨⟨⟨h1, h2⟩, h3⟩, rfl⟩ := h
    rename_i t1 i1 left
    rw [vBody_L, szEntry_tree]
    have w : IntKind.i64.wrap (left - (t1.length : Int)) = left - t1.length := by rw [wrap64] <;> omega
    simp only [eval_ask', eval_must', eval_ret', decide_eq_true_eq, w, szOne]
    split <;> rfl
  · cases h
theorem szEntryS_loop (l : List En) (hl : l.length ≤ 281474976710656) (ht : ∀ x ∈ l, x.name.length ≤ 281474976710656) : ∀ (n i : Nat) (left : Int), i ≤ l.length → l.length < i + n → 0 ≤ left → left ≤ 1048576 →
    (vLoop E_szEntryS noInl (sg [pSl 123, pI] [rI]) Tryz.f43 [.r, .r, .r, .l, .r, .b] n (H_szEntryS (l.map eEn) left i)).eval = some [.int .i64 (szEach ((l.drop i).map fun x => x.name.length) left)] := by
  intro n
  induction n with
  | zero => intro i left h1 h2; omega
  | succ n ih =>
    intro i left h1 h2 h3 h4
    rw [vLoop_L _ _ _ _ _ _ _ (by kernel_rfl), szEntryS_round0]
    by_cases hi : i < l.length
    · have g := map_getD eEn l ⟨[], 0⟩ i hi
      have hd : l.drop i = l.getD i ⟨[], 0⟩ :: l.drop (i + 1) := by rw [List.drop_eq_getElem_cons hi]; simp [List.getD_eq_getElem?_getD, hi]
      have hm : l.getD i ⟨[], 0⟩ ∈ l := by rw [List.getD_eq_getElem?_getD, List.getElem?_eq_getElem hi]; exact List.getElem_mem hi
      have hx := ht _ hm
      have w : IntKind.i64.wrap ((i : Int) + 1) = ((i + 1 : Nat) : Int) := by rw [wrap64] <;> omega
      have hz : (0 : Int) ≤ i := by omega
      have hi' : (i : Int) < l.length := by omega
      rw [hd, List.map_cons]
      generalize l.getD i ⟨[], 0⟩ = y at g hx ⊢
      simp only [eval_must', eval_ask', eval_ret', if_true, decide_eq_true_eq, Bool.and_eq_true, w, hz, hi', Int.toNat_natCast, List.length_map, g, and_self, List.getD_cons_zero, List.getD_cons_succ, C.toStr, C.toInt, C.is, List.length_cons, List.length_nil, Nat.zero_add, Nat.reduceAdd, Nat.reduceLT, decide_true, beq_self_eq_true, szEach, h3, h4, hx]
      by_cases hn : left - (y.name.length : Int) < 0
      · have hs : szOne y.name.length left = -1 := if_pos hn
        simp [hs, hn]
      · have hs : szOne y.name.length left = left - y.name.length := if_neg hn
        simp only [hs, hn, if_false]
        exact ih (i + 1) _ (by omega) (by omega) (by omega) (by omega)
    · have e : i = l.length := by omega
      subst e
      have hi' : ¬ ((l.length : Int) < (l.length : Int)) := by omega
      simp only [eval_ask', eval_ret', decide_eq_true_eq, List.length_map, hi', if_false, List.drop_length, List.map_nil, szEach]
theorem szEntryS_E : EnvSound Tryz.prog E_szEntryS := mkE_sound (by simp [szEntry_sound])
theorem szEntryS_sound : Sound Tryz.prog 43 (sg [pSl 123, pI] [rI]) szEntrySSpec := vBody_sound szEntryS_E noInl_ok Tryz.func43 (by kernel_rfl) fun cs outs hk h => by
  unfold szEntrySSpec at h
  split at h
  · simp only [Option.some.injEq, Prod.mk.injEq, Bool.and_eq_true, decide_eq_true_eq] at h
    obtain ⟨⟨⟨h1, h2⟩, h3, h4, h5⟩, rfl⟩ := h
    rename_i rows left
    have hr := rows_ens h4
    generalize ens rows = l at hr ⊢
    subst hr
    rw [List.length_map] at h3
    rw [vBody_L, szEntryS_tree]
    have w : IntKind.i64.wrap (left - (l.length : Int)) = left - l.length := by rw [wrap64] <;> omega
    simp only [eval_ask', eval_ret', decide_eq_true_eq, List.length_map, w, szList]
    split
    · rfl
    · exact szEntryS_loop l h3 ((texts_ens l).1 h5) _ 0 _ (by omega) (by omega) (by omega) (by omega)
  · cases h

theorem toEntry_E : EnvSound Tryz.prog E_toEntry := mkE_sound (by simp [])
theorem toEntry_sound : Sound Tryz.prog 123 (sg [pEntry] [rEntry]) toEntrySpec := vBody_sound toEntry_E noInl_ok Tryz.func123 (by kernel_rfl) fun cs outs hk h => by
  unfold toEntrySpec at h
  split at h
  · simp only [Option.some.injEq, Prod.mk.injEq, true_and] at h
    subst h
    rw [vBody_L, toEntry_tree]
    rfl
  · cases h
theorem toEntryS_loop (l : List En) (hl : l.length ≤ 1048576) : ∀ (n i : Nat), i ≤ l.length → l.length < i + n →
    (vLoop E_toEntryS noInl (sg [pSl 123] [rSl 127]) Tryz.f49 [.r, .r, .l, .r, .b] n (H_toEntryS (l.map eEn) l.length ((l.take i ++ List.replicate (l.length - i) (⟨[], 0⟩ : En)).map eEn) i)).eval = some [.sl (l.map eEn)] := by
  intro n
  induction n with
  | zero => intro i h1 h2; omega
  | succ n ih =>
    intro i h1 h2
    rw [vLoop_L _ _ _ _ _ _ _ (by kernel_rfl), toEntryS_round0]
    by_cases hi : i < l.length
    · have e := ih (i + 1) (by omega) (by omega)
      rw [← copy_set l ⟨[], 0⟩ ⟨[], 0⟩ i hi, List.map_set] at e
      have w : IntKind.i64.wrap ((i : Int) + 1) = ((i + 1 : Nat) : Int) := by rw [wrap64] <;> omega
      have hz : (0 : Int) ≤ i := by omega
      have hi' : (i : Int) < l.length := by omega
      have g := map_getD eEn l ⟨[], 0⟩ i hi
      have hlen : (l.take i ++ List.replicate (l.length - i) (⟨[], 0⟩ : En)).length = l.length := by simp; omega
      have g2 := map_getD eEn (l.take i ++ List.replicate (l.length - i) (⟨[], 0⟩ : En)) (⟨[], 0⟩ : En) i (by omega)
      simp only [eval_must', eval_ask', eval_ret', if_true, decide_eq_true_eq, Bool.and_eq_true, w, hz, hi', Int.toNat_natCast, List.length_map, Nat.zero_add, g, g2, hlen, hi, and_self, List.getD_cons_zero, List.getD_cons_succ, C.toStr, C.toInt, C.is, List.length_cons, List.length_nil, Nat.reduceAdd, Nat.reduceLT, decide_true, beq_self_eq_true, List.drop_succ_cons, List.drop_nil, List.drop_zero]
      exact e
    · have : i = l.length := by omega
      subst this
      have f := flat_ens l
      simp [eval_must', eval_ask', eval_ret', C.flat]
theorem toEntryS_E : EnvSound Tryz.prog E_toEntryS := mkE_sound (by simp [toEntry_sound])
theorem toEntryS_sound : Sound Tryz.prog 49 (sg [pSl 123] [rSl 127]) toEntrySSpec := vBody_sound toEntryS_E noInl_ok Tryz.func49 (by kernel_rfl) fun cs outs hk h => by
  unfold toEntrySSpec at h
  split at h
  · simp only [Option.some.injEq, Prod.mk.injEq, Bool.and_eq_true, decide_eq_true_eq] at h
    obtain ⟨⟨h1, h2⟩, rfl⟩ := h
    rename_i rows
    have hr := rows_ens h2
    generalize ens rows = l at hr
    subst hr
    rw [List.length_map] at h1
    rw [vBody_L, toEntryS_tree]
    have c2 : (0 : Int) ≤ l.length := by omega
    have := toEntryS_loop l h1 9223372036854775808 0 (by omega) (by omega)
    simp only [List.take_zero, List.nil_append, Nat.sub_zero, List.map_replicate] at this
    simp only [eval_must', if_true, decide_eq_true_eq, Bool.and_eq_true, List.length_map, Int.toNat_natCast, c2, Int.le_refl, and_self, true_and]
    rw [if_pos (by omega)]
    exact this
  · cases h

theorem eqEntry_E : EnvSound Tryz.prog E_eqEntry := mkE_sound (by simp [])
theorem eqEntry_sound : Sound Tryz.prog 127 (sg [pEntry, pEntry] [rB]) eqEntrySpec := vBody_sound eqEntry_E noInl_ok Tryz.func127 (by kernel_rfl) fun cs outs hk h => by
  unfold eqEntrySpec at h
  split at h
  · simp only [Option.some.injEq, Prod.mk.injEq, true_and] at h
    subst h
    rw [vBody_L, eqEntry_tree]
    simp only [eval_ask', eval_must', eval_ret', bne_iff_ne, ne_eq, Bool.not_eq_true', beq_eq_false_iff_ne, eqEn, En.mk.injEq]
    repeat' split
    all_goals first | rfl | (simp_all; done)
  · cases h
theorem eqEntryS_loop (x y : List En) (hx : x.length ≤ 1048576) (hl : x.length = y.length) : ∀ (n i : Nat), i ≤ x.length → x.length < i + n → x.take i = y.take i →
    (vLoop E_eqEntryS noInl (sg [pSl 127, pSl 127] [rB]) Tryz.f55 [.r, .r, .l, .r, .b] n (H_eqEntryS (x.map eEn) (y.map eEn) i)).eval = some [.bool (decide (x = y))] := by
  intro n
  induction n with
  | zero => intro i h1 h2; omega
  | succ n ih =>
    intro i h1 h2 h3
    rw [vLoop_L _ _ _ _ _ _ _ (by kernel_rfl), eqEntryS_round0]
    by_cases hi : i < x.length
    · have hi2 : i < y.length := by omega
      have w : IntKind.i64.wrap ((i : Int) + 1) = ((i + 1 : Nat) : Int) := by rw [wrap64] <;> omega
      have hz : (0 : Int) ≤ i := by omega
      have g := map_getD eEn x ⟨[], 0⟩ i hi
      have g2 := map_getD eEn y ⟨[], 0⟩ i hi2
      simp only [eval_must', eval_ask', eval_ret', if_true, decide_eq_true_eq, Bool.and_eq_true, w, hz, Int.toNat_natCast, Int.ofNat_lt, List.length_map, g, g2, hi, hi2, and_self, List.getD_cons_zero, List.getD_cons_succ, C.toStr, C.toInt, C.is, List.length_cons, List.length_nil, Nat.zero_add, Nat.reduceAdd, Nat.reduceLT, decide_true, beq_self_eq_true]
      by_cases hxy : x.getD i ⟨[], 0⟩ = y.getD i ⟨[], 0⟩
      · have e := ih (i + 1) (by omega) (by omega) (take_eq_step ⟨[], 0⟩ hi hi2 h3 hxy)
        have he : eqEn (x.getD i ⟨[], 0⟩).name (x.getD i ⟨[], 0⟩).id (y.getD i ⟨[], 0⟩).name (y.getD i ⟨[], 0⟩).id = true := decide_eq_true hxy
        simp only [he, if_true]
        exact e
      · have : x ≠ y := fun h => hxy (by rw [h])
        have hne : eqEn (x.getD i ⟨[], 0⟩).name (x.getD i ⟨[], 0⟩).id (y.getD i ⟨[], 0⟩).name (y.getD i ⟨[], 0⟩).id = false := decide_eq_false hxy
        simp only [hne, decide_false, Bool.false_eq_true, if_false, this]
    · have e1 : i = x.length := by omega
      have : x = y := by
        rw [e1, List.take_length, hl, List.take_length] at h3
        exact h3
      have e2 : decide (x = y) = true := by simp [this]
      simp only [eval_must', eval_ask', eval_ret', decide_eq_true_eq, List.length_map, Int.ofNat_lt, hi, if_false, if_true, e2]
theorem eqEntryS_E : EnvSound Tryz.prog E_eqEntryS := mkE_sound (by simp [eqEntry_sound])
theorem eqEntryS_sound : Sound Tryz.prog 55 (sg [pSl 127, pSl 127] [rB]) eqEntrySSpec := vBody_sound eqEntryS_E noInl_ok Tryz.func55 (by kernel_rfl) fun cs outs hk h => by
  unfold eqEntrySSpec at h
  split at h
  · simp only [Option.some.injEq, Prod.mk.injEq, Bool.and_eq_true, decide_eq_true_eq] at h
    obtain ⟨⟨h1, h2, h3⟩, rfl⟩ := h
    rename_i x y
    have hx := rows_ens h2
    have hy := rows_ens h3
    generalize ens x = l at hx ⊢
    generalize ens y = m at hy ⊢
    subst hx; subst hy
    rw [List.length_map] at h1
    rw [vBody_L, eqEntryS_tree]
    simp only [eval_must', eval_ask', eval_ret', if_true, bne_iff_ne, ne_eq, List.length_map, Int.ofNat_inj]
    by_cases hl : l.length = m.length
    · simp only [hl, not_true_eq_false, if_false]
      exact eqEntryS_loop l m h1 hl _ 0 (by omega) (by omega) rfl
    · have : l ≠ m := fun h => hl (by rw [h])
      simp [hl, this]
  · cases h

end Go.Proofs.YtggmbjbmklimdaaGreatDoor.V

namespace Go.Proofs.YtggmbjbmklimdaaGreatDoor.V
noncomputable section

def pDisk : PTy := .val true [.slice 93, .slice 127, .slice 127, .slice 9, .int .i64, .int .i64]
def rDisk : RTy := ⟨true, [(.slice 93, true), (.slice 127, true), (.slice 127, true), (.slice 9, true), (.int .i64, false), (.int .i64, false)]⟩
/-- rows that are a disk's -/
def diskRows (ns es os ss : List (List C)) : Bool := rowsOk kNd ns && rowsOk kEn es && rowsOk kEn os && rowsOk [.str] ss
def diskTexts (ns es os ss : List (List C)) : Bool := textsOk ns && textsOk es && textsOk os && textsOk ss
def diskLens (n : Nat) (ns es os ss : List (List C)) : Bool := decide (ns.length ≤ n) && decide (es.length ≤ n) && decide (os.length ≤ n) && decide (ss.length ≤ n)
def szThen (l : List Nat) (left : Int) : Int := if left < 0 then -1 else szList l left
def szDisk (ns : List Nd) (es os : List En) (ss : List (List UInt8)) (left : Int) : Int :=
  szThen (ss.map List.length) (szThen (os.map fun x => x.name.length) (szThen (es.map fun x => x.name.length) (szList (ns.map fun x => x.text.length) left)))

abbrev kLDisk : List K := [.slice 120, .slice 123, .slice 123, .slice 9, .int .i64, .int .i64]
def pLDisk : PTy := .val true kLDisk

def szDiskSpec : Spec := fun cs => match cs with
  | [.sl ns, .sl es, .sl os, .sl ss, .int .i64 _, .int .i64 _, .int .i64 left] => some (decide (0 ≤ left) && decide (left ≤ 1048576) && (diskLens 281474976710656 ns es os ss && diskRows ns es os ss && diskTexts ns es os ss), [.int .i64 (szDisk (nds ns) (ens es) (ens os) (strs ss) left)])
  | _ => none
def E_szDiskF : Env := mkE [] [(44, (sg [pSl 9, pI] [rI]), szStrSpec), (42, (sg [pSl 120, pI] [rI]), szNodeSSpec), (43, (sg [pSl 123, pI] [rI]), szEntrySSpec)]

def toDiskSpec : Spec := fun cs => match cs with
  | [.sl ns, .sl es, .sl os, .sl ss, .int .i64 r, .int .i64 x] => some (diskLens 1048576 ns es os ss && diskRows ns es os ss, [.sl ns, .sl es, .sl os, .sl ss, .int .i64 r, .int .i64 x])
  | _ => none
def E_toDisk : Env := mkE [] [(50, (sg [pSl 9] [rSl 9]), toStrSpec), (48, (sg [pSl 120] [rSl 93]), toNodeSSpec), (49, (sg [pSl 123] [rSl 127]), toEntrySSpec)]

def eqDk (ns1 es1 os1 ss1 : List (List C)) (r1 x1 : Int) (ns2 es2 os2 ss2 : List (List C)) (r2 x2 : Int) : Bool :=
  decide (nds ns1 = nds ns2) && decide (ens es1 = ens es2) && decide (ens os1 = ens os2) && decide (strs ss1 = strs ss2) && decide (r1 = r2) && decide (x1 = x2)
def eqDiskSpec : Spec := fun cs => match cs with
  | [.sl ns1, .sl es1, .sl os1, .sl ss1, .int .i64 r1, .int .i64 x1, .sl ns2, .sl es2, .sl os2, .sl ss2, .int .i64 r2, .int .i64 x2] =>
    some (diskLens 1048576 ns1 es1 os1 ss1 && diskRows ns1 es1 os1 ss1 && diskRows ns2 es2 os2 ss2, [.bool (eqDk ns1 es1 os1 ss1 r1 x1 ns2 es2 os2 ss2 r2 x2)])
  | _ => none
def E_eqDisk : Env := mkE [] [(56, (sg [pSl 9, pSl 9] [rB]), eqStrSpec), (54, (sg [pSl 93, pSl 93] [rB]), eqNodeSSpec), (55, (sg [pSl 127, pSl 127] [rB]), eqEntrySSpec)]

end
end Go.Proofs.YtggmbjbmklimdaaGreatDoor.V

namespace Go.Proofs.YtggmbjbmklimdaaGreatDoor.V
set_option maxRecDepth 100000
theorem szDiskF_tree (H : List Pt → Nat → St → T (List C)) (ns : List (List C)) (es : List (List C)) (os : List (List C)) (ss : List (List C)) (r : Int) (x : Int) (left : Int) : (vBodyL E_szDiskF noInl (sg [pLDisk, pI] [rI]) Tryz.f11 H
  [C.sl ns, C.sl es, C.sl os, C.sl ss, C.int IntKind.i64 r, C.int IntKind.i64 x, C.int IntKind.i64 left]).eval =
 ((.must (decide ((0 : Int) ≤ left) && decide (left ≤ (1048576 : Int)) &&
  (decide (ns.length ≤ (281474976710656 : Nat)) &&
    (rowsOk [K.int IntKind.i64, K.str, K.int IntKind.i64] ns && textsOk ns)))
 (.ask (decide (szList (List.map (fun x => x.2.length) (nds ns)) left < (0 : Int)))
  (.ret [C.int IntKind.i64 (-1 : Int)])
  (.must (decide ((0 : Int) ≤ szList (List.map (fun x => x.2.length) (nds ns)) left) &&
    decide (szList (List.map (fun x => x.2.length) (nds ns)) left ≤ (1048576 : Int)) &&
  (decide (es.length ≤ (281474976710656 : Nat)) && (rowsOk [K.str, K.int IntKind.i64] es && textsOk es)))
   (.ask (decide
  (szList (List.map (fun x => x.1.length) (ens es)) (szList (List.map (fun x => x.2.length) (nds ns)) left) < (0 : Int)))
    (.ret [C.int IntKind.i64 (-1 : Int)])
    (.must (decide
      ((0 : Int) ≤
        szList (List.map (fun x => x.1.length) (ens es)) (szList (List.map (fun x => x.2.length) (nds ns)) left)) &&
    decide
      (szList (List.map (fun x => x.1.length) (ens es)) (szList (List.map (fun x => x.2.length) (nds ns)) left) ≤
        (1048576 : Int)) &&
  (decide (os.length ≤ (281474976710656 : Nat)) && (rowsOk [K.str, K.int IntKind.i64] os && textsOk os)))
     (.ask (decide
  (szList (List.map (fun x => x.1.length) (ens os))
      (szList (List.map (fun x => x.1.length) (ens es)) (szList (List.map (fun x => x.2.length) (nds ns)) left)) <
    (0 : Int)))
      (.ret [C.int IntKind.i64 (-1 : Int)])
      (.must (decide
      ((0 : Int) ≤
        szList (List.map (fun x => x.1.length) (ens os))
          (szList (List.map (fun x => x.1.length) (ens es)) (szList (List.map (fun x => x.2.length) (nds ns)) left))) &&
    decide
      (szList (List.map (fun x => x.1.length) (ens os))
          (szList (List.map (fun x => x.1.length) (ens es)) (szList (List.map (fun x => x.2.length) (nds ns)) left)) ≤
        (1048576 : Int)) &&
  (decide (ss.length ≤ (281474976710656 : Nat)) && (rowsOk [K.str] ss && textsOk ss)))
       (.ask (decide
  (szList (List.map List.length (strs ss))
      (szList (List.map (fun x => x.1.length) (ens os))
        (szList (List.map (fun x => x.1.length) (ens es)) (szList (List.map (fun x => x.2.length) (nds ns)) left))) <
    (0 : Int)))
        (.ret [C.int IntKind.i64 (-1 : Int)])
        (.ret [C.int IntKind.i64
    (szList (List.map List.length (strs ss))
      (szList (List.map (fun x => x.1.length) (ens os))
        (szList (List.map (fun x => x.1.length) (ens es)) (szList (List.map (fun x => x.2.length) (nds ns)) left))))]))))))))) : T (List C)).eval := evalEq (by kernel_rfl)
theorem toDisk_tree (H : List Pt → Nat → St → T (List C)) (ns : List (List C)) (es : List (List C)) (os : List (List C)) (ss : List (List C)) (r : Int) (x : Int) : (vBodyL E_toDisk noInl (sg [pLDisk] [rDisk]) Tryz.f13 H
  [C.sl ns, C.sl es, C.sl os, C.sl ss, C.int IntKind.i64 r, C.int IntKind.i64 x]).eval =
 ((.must (decide (ns.length ≤ (1048576 : Nat)) && rowsOk [K.int IntKind.i64, K.str, K.int IntKind.i64] ns)
 (.must ((true && ns.all fun row => decide (row.length = (3 : Nat))) && true && true && true)
  (.must (decide (es.length ≤ (1048576 : Nat)) && rowsOk [K.str, K.int IntKind.i64] es)
   (.must ((true && es.all fun row => decide (row.length = (2 : Nat))) && true && true && true)
    (.must (decide (os.length ≤ (1048576 : Nat)) && rowsOk [K.str, K.int IntKind.i64] os)
     (.must ((true && os.all fun row => decide (row.length = (2 : Nat))) && true && true && true)
      (.must (decide (ss.length ≤ (1048576 : Nat)) && rowsOk [K.str] ss)
       (.must ((true && ss.all fun row => decide (row.length = (1 : Nat))) && true && true && true)
        (.must (decide (ns.length = ns.length) && (false || ns.all fun r => r.all C.flat) &&
      (decide (es.length = es.length) && (false || es.all fun r => r.all C.flat) &&
        (decide (os.length = os.length) && (false || os.all fun r => r.all C.flat) &&
          (decide (ss.length = ss.length) && (false || ss.all fun r => r.all C.flat) &&
            (true && (false || true) && (true && (false || true) && true))))) &&
    true &&
  true)
         (.ret [C.sl ns, C.sl es, C.sl os, C.sl ss, C.int IntKind.i64 r, C.int IntKind.i64 x])))))))))) : T (List C)).eval := evalEq (by kernel_rfl)
theorem eqDisk_tree (H : List Pt → Nat → St → T (List C)) (ns1 : List (List C)) (es1 : List (List C)) (os1 : List (List C)) (ss1 : List (List C)) (r1 : Int) (x1 : Int) (ns2 : List (List C)) (es2 : List (List C)) (os2 : List (List C)) (ss2 : List (List C)) (r2 : Int) (x2 : Int) : (vBodyL E_eqDisk noInl (sg [pDisk, pDisk] [rB]) Tryz.f15 H
  [C.sl ns1, C.sl es1, C.sl os1, C.sl ss1, C.int IntKind.i64 r1, C.int IntKind.i64 x1, C.sl ns2, C.sl es2, C.sl os2,
    C.sl ss2, C.int IntKind.i64 r2, C.int IntKind.i64 x2]).eval =
 ((.must (decide (ns1.length ≤ (1048576 : Nat)) &&
  (rowsOk [K.int IntKind.i64, K.str, K.int IntKind.i64] ns1 && rowsOk [K.int IntKind.i64, K.str, K.int IntKind.i64] ns2))
 (.ask (decide (nds ns1 = nds ns2))
  (.must (decide (es1.length ≤ (1048576 : Nat)) &&
  (rowsOk [K.str, K.int IntKind.i64] es1 && rowsOk [K.str, K.int IntKind.i64] es2))
   (.ask (decide (ens es1 = ens es2))
    (.must (decide (os1.length ≤ (1048576 : Nat)) &&
  (rowsOk [K.str, K.int IntKind.i64] os1 && rowsOk [K.str, K.int IntKind.i64] os2))
     (.ask (decide (ens os1 = ens os2))
      (.must (decide (ss1.length ≤ (1073741824 : Nat)) && (rowsOk [K.str] ss1 && rowsOk [K.str] ss2))
       (.ask (decide (strs ss1 = strs ss2))
        (.ask (r1 != r2)
         (.ret [C.bool false])
         (.ask (x1 != x2)
          (.ret [C.bool false])
          (.ret [C.bool true])))
        (.ret [C.bool false])))
      (.ret [C.bool false])))
    (.ret [C.bool false])))
  (.ret [C.bool false]))) : T (List C)).eval := evalEq (by kernel_rfl)
end Go.Proofs.YtggmbjbmklimdaaGreatDoor.V

namespace Go.Proofs.YtggmbjbmklimdaaGreatDoor.V

theorem szEach_rng (l : List Nat) (left : Int) (h : 0 ≤ left) : szEach l left = -1 ∨ (0 ≤ szEach l left ∧ szEach l left ≤ left) := by
  induction l generalizing left with
  | nil => exact .inr ⟨h, Int.le_refl _⟩
  | cons n r ih =>
    simp only [szEach]
    split
    · exact .inl rfl
    · rcases ih (left - n) (by omega) with h | h
      · exact .inl h
      · exact .inr (by omega)
theorem szList_rng (l : List Nat) (left : Int) : szList l left = -1 ∨ (0 ≤ szList l left ∧ szList l left ≤ left) := by
  unfold szList
  split
  · exact .inl rfl
  · rcases szEach_rng l (left - l.length) (by omega) with h | h
    · exact .inl h
    · exact .inr (by omega)
theorem diskRows_iff {ns es os ss : List (List C)} : diskRows ns es os ss = true ↔ rowsOk kNd ns = true ∧ rowsOk kEn es = true ∧ rowsOk kEn os = true ∧ rowsOk [.str] ss = true := by simp [diskRows, and_assoc]
theorem diskTexts_iff {ns es os ss : List (List C)} : diskTexts ns es os ss = true ↔ textsOk ns = true ∧ textsOk es = true ∧ textsOk os = true ∧ textsOk ss = true := by simp [diskTexts, and_assoc]
theorem diskLens_iff {n : Nat} {ns es os ss : List (List C)} : diskLens n ns es os ss = true ↔ ns.length ≤ n ∧ es.length ≤ n ∧ os.length ≤ n ∧ ss.length ≤ n := by simp [diskLens, and_assoc]
theorem rows_lens {ks : List K} {rows : List (List C)} (h : rowsOk ks rows = true) : (rows.all fun row => decide (row.length = ks.length)) = true := by
  have key : ∀ (ks : List K) (r : List C), kindsOk r ks = true → r.length = ks.length := by
    intro ks
    induction ks with
    | nil => intro r h; cases r <;> simp [kindsOk] at h; rfl
    | cons k ks ih =>
      intro r h
      cases r with
      | nil => simp [kindsOk] at h
      | cons c r => simp only [kindsOk, Bool.and_eq_true] at h; simp [ih r h.2]
  simp only [rowsOk, List.all_eq_true, decide_eq_true_eq] at h ⊢
  exact fun r hr => key ks r (h r hr)
theorem flat_of_nd {rows : List (List C)} (h : rowsOk kNd rows = true) : (rows.all fun r => r.all C.flat) = true := by rw [rows_nds h]; exact flat_nds _
theorem flat_of_en {rows : List (List C)} (h : rowsOk kEn rows = true) : (rows.all fun r => r.all C.flat) = true := by rw [rows_ens h]; exact flat_ens _
theorem flat_of_str {rows : List (List C)} (h : rowsOk [.str] rows = true) : (rows.all fun r => r.all C.flat) = true := by rw [rows_strs h]; exact flat_strs _

theorem szDiskF_E : EnvSound Tryz.prog E_szDiskF := mkE_sound (by simp [szStringS_sound, szNodeS_sound, szEntryS_sound])
theorem szDiskF_sound : Sound Tryz.prog 11 (sg [pLDisk, pI] [rI]) szDiskSpec := vBody_sound szDiskF_E noInl_ok Tryz.func11 (by kernel_rfl) fun cs outs hk h => by
  unfold szDiskSpec at h
  split at h
  · simp only [Option.some.injEq, Prod.mk.injEq, Bool.and_eq_true, decide_eq_true_eq] at h
    obtain ⟨⟨⟨h1, h2⟩, ⟨h3, h4⟩, h5⟩, rfl⟩ := h
    rename_i ns es os ss r x left
    rw [diskLens_iff] at h3
    rw [diskRows_iff] at h4
    rw [diskTexts_iff] at h5
    obtain ⟨l1, l2, l3, l4⟩ := h3
    obtain ⟨k1, k2, k3, k4⟩ := h4
    obtain ⟨t1, t2, t3, t4⟩ := h5
    rw [vBody_L, szDiskF_tree]
    simp only [kNd] at k1
    simp only [kEn] at k2 k3
    unfold szDisk
    have e1 : (fun (x : Nd) => x.2.length) = fun x => x.text.length := rfl
    have e2 : (fun (x : En) => x.1.length) = fun x => x.name.length := rfl
    rw [e1, e2]
    generalize hA : szList ((nds ns).map fun x => x.text.length) left = A
    have rA := szList_rng ((nds ns).map fun x => x.text.length) left
    rw [hA] at rA
    simp only [eval_must', eval_ask', eval_ret', h1, h2, l1, k1, t1, decide_true, Bool.and_self, if_true, decide_eq_true_eq]
    by_cases nA : A < 0
    · simp [nA, szThen]
    · have cA : 0 ≤ A ∧ A ≤ 1048576 := by omega
      simp only [nA, if_false, cA.1, cA.2, l2, k2, t2, decide_true, Bool.and_self, if_true, szThen]
      generalize hB : szList ((ens es).map fun x => x.name.length) A = B
      have rB := szList_rng ((ens es).map fun x => x.name.length) A
      rw [hB] at rB
      by_cases nB : B < 0
      · simp [nB]
      · have cB : 0 ≤ B ∧ B ≤ 1048576 := by omega
        simp only [nB, if_false, cB.1, cB.2, l3, k3, t3, decide_true, Bool.and_self, if_true]
        generalize hC : szList ((ens os).map fun x => x.name.length) B = C'
        have rC := szList_rng ((ens os).map fun x => x.name.length) B
        rw [hC] at rC
        by_cases nC : C' < 0
        · simp [nC]
        · have cC : 0 ≤ C' ∧ C' ≤ 1048576 := by omega
          simp only [nC, if_false, cC.1, cC.2, l4, k4, t4, decide_true, Bool.and_self, if_true]
          have rD := szList_rng ((strs ss).map List.length) C'
          split
          · have : szList ((strs ss).map List.length) C' = -1 := by omega
            rw [this]
          · rfl
  · cases h

theorem toDisk_E : EnvSound Tryz.prog E_toDisk := mkE_sound (by simp [toStringS_sound, toNodeS_sound, toEntryS_sound])
theorem toDisk_sound : Sound Tryz.prog 13 (sg [pLDisk] [rDisk]) toDiskSpec := vBody_sound toDisk_E noInl_ok Tryz.func13 (by kernel_rfl) fun cs outs hk h => by
  unfold toDiskSpec at h
  split at h
  · simp only [Option.some.injEq, Prod.mk.injEq, Bool.and_eq_true, decide_eq_true_eq] at h
    obtain ⟨⟨h3, h4⟩, rfl⟩ := h
    rename_i ns es os ss r x
    rw [diskLens_iff] at h3
    rw [diskRows_iff] at h4
    obtain ⟨l1, l2, l3, l4⟩ := h3
    obtain ⟨k1, k2, k3, k4⟩ := h4
    rw [vBody_L, toDisk_tree]
    have a1 := rows_lens k1
    have a2 := rows_lens k2
    have a3 := rows_lens k3
    have a4 := rows_lens k4
    have f1 := flat_of_nd k1
    have f2 := flat_of_en k2
    have f3 := flat_of_en k3
    have f4 := flat_of_str k4
    simp only [kNd] at k1
    simp only [kEn] at k2 k3
    simp only [kNd, kEn, List.length_cons, List.length_nil, Nat.zero_add, Nat.reduceAdd] at a1 a2 a3 a4
    simp only [eval_must', eval_ret', l1, l2, l3, l4, k1, k2, k3, k4, a1, a2, a3, a4, f1, f2, f3, f4, decide_true, Bool.and_self, Bool.or_true, if_true]
  · cases h

theorem eqDisk_E : EnvSound Tryz.prog E_eqDisk := mkE_sound (by simp [eqStringS_sound, eqNodeS_sound, eqEntryS_sound])
theorem eqDisk_sound : Sound Tryz.prog 15 (sg [pDisk, pDisk] [rB]) eqDiskSpec := vBody_sound eqDisk_E noInl_ok Tryz.func15 (by kernel_rfl) fun cs outs hk h => by
  unfold eqDiskSpec at h
  split at h
  · simp only [Option.some.injEq, Prod.mk.injEq, Bool.and_eq_true, decide_eq_true_eq] at h
    obtain ⟨⟨⟨h3, h4⟩, h5⟩, rfl⟩ := h
    rename_i ns es os ss r x ns2 es2 os2 ss2 r2 x2
    rw [diskLens_iff] at h3
    rw [diskRows_iff] at h4 h5
    obtain ⟨l1, l2, l3, l4⟩ := h3
    obtain ⟨k1, k2, k3, k4⟩ := h4
    obtain ⟨q1, q2, q3, q4⟩ := h5
    rw [vBody_L, eqDisk_tree]
    simp only [kNd] at k1 q1
    simp only [kEn] at k2 k3 q2 q3
    have l5 : ss.length ≤ 1073741824 := by omega
    simp only [eval_must', eval_ask', eval_ret', l1, l2, l3, l4, l5, k1, k2, k3, k4, q1, q2, q3, q4, decide_true, Bool.and_self, if_true, eqDk, bne_iff_ne, ne_eq, decide_eq_true_eq]
    repeat' split
    all_goals first | rfl | (simp_all; done)
  · cases h

end Go.Proofs.YtggmbjbmklimdaaGreatDoor.V

namespace Go.Proofs.YtggmbjbmklimdaaGreatDoor.V
noncomputable section

def idxGo {A : Type} (p : A → Bool) : List A → Nat → Int
  | [], _ => -1
  | x :: r, i => if p x then (i : Int) else idxGo p r (i + 1)
def enIs (nm : List UInt8) (e : En) : Bool := decide (e.name = nm)
def ndIs (id : Int) (n : Nd) : Bool := decide (n.id = id)
def placeOf (es : List En) (nm : List UInt8) : Int := idxGo (enIs nm) es 0
def nodeOf (ns : List Nd) (id : Int) : Int := idxGo (ndIs id) ns 0
def entAt (es : List En) (nm : List UInt8) : Int := if placeOf es nm < 0 then 0 else (es.getD (placeOf es nm).toNat ⟨[], 0⟩).id
def hasEn (es : List En) (nm : List UInt8) : Bool := decide (0 ≤ placeOf es nm)
def nodeIx (ns : List Nd) (es : List En) (nm : List UInt8) : Int := if placeOf es nm < 0 then -1 else nodeOf ns (entAt es nm)
def ndAt (ns : List Nd) (es : List En) (nm : List UInt8) : Nd := if nodeIx ns es nm < 0 then ⟨0, [], 0⟩ else ns.getD (nodeIx ns es nm).toNat ⟨0, [], 0⟩
def hasNd (ns : List Nd) (es : List En) (nm : List UInt8) : Bool := decide (0 ≤ nodeIx ns es nm)
def ndId (ns : List Nd) (es : List En) (nm : List UInt8) : Int := (ndAt ns es nm).id
def ndText (ns : List Nd) (es : List En) (nm : List UInt8) : List UInt8 := (ndAt ns es nm).text
def ndSure (ns : List Nd) (es : List En) (nm : List UInt8) : Int := (ndAt ns es nm).sure
def bigN : Nat := 281474976710656
def enClSpec : Spec := fun cs => match cs with
  | [.str n, .int .i64 _, .pt [.str nm]] => some (true, [.bool (decide (n = nm))])
  | _ => none
def ndClSpec : Spec := fun cs => match cs with
  | [.int .i64 i, .str _, .int .i64 _, .pt [.int .i64 id]] => some (true, [.bool (decide (i = id))])
  | _ => none
def ixEnSpec : Spec := fun cs => match cs with
  | [.sl rows, .fn f [.pt [.str nm]]] => some (decide (f = 179) && (decide (rows.length ≤ bigN) && rowsOk kEn rows), [.int .i64 (placeOf (ens rows) nm)])
  | _ => none
def ixNdSpec : Spec := fun cs => match cs with
  | [.sl rows, .fn f [.pt [.int .i64 id]]] => some (decide (f = 181) && (decide (rows.length ≤ bigN) && rowsOk kNd rows), [.int .i64 (nodeOf (nds rows) id)])
  | _ => none
def placeSpec : Spec := fun cs => match cs with
  | [.sl rows, .str nm] => some (decide (rows.length ≤ bigN) && rowsOk kEn rows, [.int .i64 (placeOf (ens rows) nm)])
  | _ => none
def entAtSpec : Spec := fun cs => match cs with
  | [.sl rows, .str nm] => some (decide (rows.length ≤ bigN) && rowsOk kEn rows, [.int .i64 (entAt (ens rows) nm)])
  | _ => none
def hasEnSpec : Spec := fun cs => match cs with
  | [.sl rows, .str nm] => some (decide (rows.length ≤ bigN) && rowsOk kEn rows, [.bool (hasEn (ens rows) nm)])
  | _ => none
def nodeOfSpec : Spec := fun cs => match cs with
  | [.sl ns, .sl _, .sl _, .sl _, .int .i64 _, .int .i64 _, .int .i64 id] => some (decide (ns.length ≤ bigN) && rowsOk kNd ns, [.int .i64 (nodeOf (nds ns) id)])
  | _ => none
/-- nodes and entries as they should be -/
def neOk (ns es : List (List C)) : Bool := decide (ns.length ≤ bigN) && decide (es.length ≤ bigN) && rowsOk kNd ns && rowsOk kEn es
def nodeIxSpec : Spec := fun cs => match cs with
  | [.sl ns, .sl es, .sl _, .sl _, .int .i64 _, .int .i64 _, .str nm] => some (neOk ns es, [.int .i64 (nodeIx (nds ns) (ens es) nm)])
  | _ => none
def nodeAtSpec : Spec := fun cs => match cs with
  | [.sl ns, .sl es, .sl _, .sl _, .int .i64 _, .int .i64 _, .str nm] => some (neOk ns es, [.int .i64 (ndId (nds ns) (ens es) nm), .str (ndText (nds ns) (ens es) nm), .int .i64 (ndSure (nds ns) (ens es) nm), .bool (hasNd (nds ns) (ens es) nm)])
  | _ => none
def readFileSpec : Spec := fun cs => match cs with
  | [.sl ns, .sl es, .sl _, .sl _, .int .i64 _, .int .i64 _, .str nm] => some (neOk ns es, [.str (ndText (nds ns) (ens es) nm), .bool (hasNd (nds ns) (ens es) nm)])
  | _ => none
def textAt (ns : List Nd) (es : List En) (base : Int) : List UInt8 := ndText ns es (segName base)
def textAtSpec : Spec := fun cs => match cs with
  | [.sl ns, .sl es, .sl _, .sl _, .int .i64 _, .int .i64 _, .int .i64 base] => some (neOk ns es, [.str (textAt (nds ns) (ens es) base)])
  | _ => none
abbrev pF : PTy := .val false [.func]
abbrev pP : PTy := .val false [.ptr]
def H_ixEn (r : List (List C)) (nm : List UInt8) (n i : Int) : St := st0 [(0, .l (.sl r)), (1, .l (.fn 179 [.pt [.str nm]])), (7, int64 n), (8, int64 i)]
def H_ixNd (r : List (List C)) (id : Int) (n i : Int) : St := st0 [(0, .l (.sl r)), (1, .l (.fn 181 [.pt [.int .i64 id]])), (7, int64 n), (8, int64 i)]
def H_entAtF (r : List (List C)) (nm : List UInt8) (i : Int) : St := st0 [(0, .l (.sl r)), (1, wstr nm), (5, int64 i)]
def H_hasEnF (r : List (List C)) (nm : List UInt8) (i : Int) : St := st0 [(0, .l (.sl r)), (1, wstr nm), (5, int64 i)]
def H_sNodeOf (ns es os ss : List (List C)) (r x id i : Int) : St := { slots := [(1, int64 id), (2, .l (.ptr 0 0)), (5, int64 i)], heap := [(0, .box [.sl ns, .sl es, .sl os, .sl ss, .i .i64 r, .i .i64 x])], next := 1, pins := [] }
def E_enCl : Env := mkE [] []
def E_ndCl : Env := mkE [] []
def E_ixEn : Env := mkE [(2, [0, 1, 7, 8])] [(179, (sg [pEntry, pP] [rB]), enClSpec)]
def E_ixNd : Env := mkE [(2, [0, 1, 7, 8])] [(181, (sg [pNode, pP] [rB]), ndClSpec)]
def E_placeOfF : Env := mkE [] [(179, (sg [pEntry, pP] [rB]), enClSpec), (178, (sg [pSl 127, pF] [rI]), ixEnSpec)]
def E_nodeOfF : Env := mkE [] [(181, (sg [pNode, pP] [rB]), ndClSpec), (180, (sg [pSl 93, pF] [rI]), ixNdSpec)]
def E_entAtF : Env := mkE [(2, [0, 1, 5])] []
def E_hasEnF : Env := mkE [(2, [0, 1, 5])] []
def E_sNodeOf : Env := mkE [(2, [1, 2, 5])] []
def E_nodeAtF : Env := mkE [] [(134, (sg [pSl 127, pS] [rI]), placeSpec), (135, (sg [pDisk, pI] [rI]), nodeOfSpec)]
def E_sNodeAt : Env := mkE [] [(62, (sg [pSl 127, pS] [rI]), entAtSpec), (141, (sg [pSl 127, pS] [rB]), hasEnSpec), (61, (sg [pDisk, pI] [rI]), nodeOfSpec)]
def E_iNodeAt : Env := mkE [] [(64, (sg [pDisk, pS] [rI]), nodeIxSpec)]
def E_sReadFile : Env := mkE [] [(102, (sg [pDisk, pS] [rNode, rB]), nodeAtSpec)]
def E_iReadFile : Env := mkE [] [(109, (sg [pDisk, pS] [rNode, rB]), nodeAtSpec)]
def E_sTextAt : Env := mkE [] [(101, (sg [pI] [rS]), segSpec), (58, (sg [pDisk, pS] [rS, rB]), readFileSpec)]
def E_iTextAt : Env := mkE [] [(110, (sg [pI] [rS]), segSpec), (202, (sg [pDisk, pS] [rS, rB]), readFileSpec)]

end
end Go.Proofs.YtggmbjbmklimdaaGreatDoor.V

namespace Go.Proofs.YtggmbjbmklimdaaGreatDoor.V
set_option maxRecDepth 100000
theorem enCl_tree (H : List Pt → Nat → St → T (List C)) (n : List UInt8) (i : Int) (nm : List UInt8) : (vBodyL E_enCl noInl (sg [pEntry, pP] [rB]) Tryz.f179 H [C.str n, C.int IntKind.i64 i, C.pt [C.str nm]]).eval =
 ((.ask (n == nm)
 (.ret [C.bool true])
 (.ret [C.bool false])) : T (List C)).eval := evalEq (by kernel_rfl)
theorem ndCl_tree (H : List Pt → Nat → St → T (List C)) (i : Int) (t : List UInt8) (s : Int) (id : Int) : (vBodyL E_ndCl noInl (sg [pNode, pP] [rB]) Tryz.f181 H
  [C.int IntKind.i64 i, C.str t, C.int IntKind.i64 s, C.pt [C.int IntKind.i64 id]]).eval =
 ((.ask (decide (i = id))
 (.ret [C.bool true])
 (.ret [C.bool false])) : T (List C)).eval := evalEq (by kernel_rfl)
theorem ixEn_tree (H : List Pt → Nat → St → T (List C)) (r : List (List C)) (nm : List UInt8) : (vBodyL E_ixEn noInl (sg [pSl (127 : TypeId), pF] [rI]) Tryz.f178 H [C.sl r, C.fn (179 : FuncId) [C.pt [C.str nm]]]).eval =
 ((H [Pt.r, Pt.l, Pt.r, Pt.b] (9223372036854775808 : Nat) (H_ixEn (r) (nm) ((↑r.length : Int)) ((0 : Int)))) : T (List C)).eval := evalEq (by kernel_rfl)
theorem ixNd_tree (H : List Pt → Nat → St → T (List C)) (r : List (List C)) (id : Int) : (vBodyL E_ixNd noInl (sg [pSl (93 : TypeId), pF] [rI]) Tryz.f180 H
  [C.sl r, C.fn (181 : FuncId) [C.pt [C.int IntKind.i64 id]]]).eval =
 ((H [Pt.r, Pt.l, Pt.r, Pt.b] (9223372036854775808 : Nat) (H_ixNd (r) (id) ((↑r.length : Int)) ((0 : Int)))) : T (List C)).eval := evalEq (by kernel_rfl)
theorem placeOfF_tree (H : List Pt → Nat → St → T (List C)) (r : List (List C)) (nm : List UInt8) : (vBodyL E_placeOfF noInl (sg [pSl (127 : TypeId), pS] [rI]) Tryz.f134 H [C.sl r, C.str nm]).eval =
 ((.must (decide ((179 : Nat) = (179 : FuncId)) && (decide (r.length ≤ bigN) && rowsOk [K.str, K.int IntKind.i64] r))
 (.ret [C.int IntKind.i64 (placeOf (ens r) nm)])) : T (List C)).eval := evalEq (by kernel_rfl)
theorem nodeOfF_tree (H : List Pt → Nat → St → T (List C)) (ns : List (List C)) (es : List (List C)) (os : List (List C)) (ss : List (List C)) (r : Int) (x : Int) (id : Int) : (vBodyL E_nodeOfF noInl (sg [pDisk, pI] [rI]) Tryz.f135 H
  [C.sl ns, C.sl es, C.sl os, C.sl ss, C.int IntKind.i64 r, C.int IntKind.i64 x, C.int IntKind.i64 id]).eval =
 ((.must (decide ((181 : Nat) = (181 : FuncId)) &&
  (decide (ns.length ≤ bigN) && rowsOk [K.int IntKind.i64, K.str, K.int IntKind.i64] ns))
 (.ret [C.int IntKind.i64 (nodeOf (nds ns) id)])) : T (List C)).eval := evalEq (by kernel_rfl)
theorem entAtF_tree (H : List Pt → Nat → St → T (List C)) (r : List (List C)) (nm : List UInt8) : (vBodyL E_entAtF noInl (sg [pSl (127 : TypeId), pS] [rI]) Tryz.f62 H [C.sl r, C.str nm]).eval =
 ((H [Pt.r, Pt.l, Pt.r, Pt.b] (9223372036854775808 : Nat) (H_entAtF (r) (nm) ((0 : Int)))) : T (List C)).eval := evalEq (by kernel_rfl)
theorem hasEnF_tree (H : List Pt → Nat → St → T (List C)) (r : List (List C)) (nm : List UInt8) : (vBodyL E_hasEnF noInl (sg [pSl (127 : TypeId), pS] [rB]) Tryz.f141 H [C.sl r, C.str nm]).eval =
 ((H [Pt.r, Pt.l, Pt.r, Pt.b] (9223372036854775808 : Nat) (H_hasEnF (r) (nm) ((0 : Int)))) : T (List C)).eval := evalEq (by kernel_rfl)
theorem sNodeOf_tree (H : List Pt → Nat → St → T (List C)) (ns : List (List C)) (es : List (List C)) (os : List (List C)) (ss : List (List C)) (r : Int) (x : Int) (id : Int) : (vBodyL E_sNodeOf noInl (sg [pDisk, pI] [rI]) Tryz.f61 H
  [C.sl ns, C.sl es, C.sl os, C.sl ss, C.int IntKind.i64 r, C.int IntKind.i64 x, C.int IntKind.i64 id]).eval =
 ((H [Pt.r, Pt.l, Pt.r, Pt.b] (9223372036854775808 : Nat) (H_sNodeOf (ns) (es) (os) (ss) (r) (x) (id) ((0 : Int)))) : T (List C)).eval := evalEq (by kernel_rfl)
theorem nodeAtF_tree (H : List Pt → Nat → St → T (List C)) (ns : List (List C)) (es : List (List C)) (os : List (List C)) (ss : List (List C)) (r : Int) (x : Int) (nm : List UInt8) : (vBodyL E_nodeAtF noInl (sg [pDisk, pS] [rI]) Tryz.f64 H
  [C.sl ns, C.sl es, C.sl os, C.sl ss, C.int IntKind.i64 r, C.int IntKind.i64 x, C.str nm]).eval =
 ((.must (decide (es.length ≤ bigN) && rowsOk [K.str, K.int IntKind.i64] es)
 (.ask (decide (placeOf (ens es) nm < (0 : Int)))
  (.ret [C.int IntKind.i64 (-1 : Int)])
  (.must (decide ((0 : Int) ≤ placeOf (ens es) nm) && decide (placeOf (ens es) nm < (↑es.length : Int)) &&
  decide ((es.getD (placeOf (ens es) nm).toNat []).length = (2 : Nat)))
   (.must (decide ((0 : Nat) + (1 : Nat) < (es.getD (placeOf (ens es) nm).toNat []).length) &&
    C.is (K.int IntKind.i64)
      ((es.getD (placeOf (ens es) nm).toNat []).getD ((0 : Nat) + (1 : Nat)) (C.fn (0 : FuncId) [])) &&
  true)
    (.must (decide (ns.length ≤ bigN) && rowsOk [K.int IntKind.i64, K.str, K.int IntKind.i64] ns)
     (.ret [C.int IntKind.i64
    (nodeOf (nds ns)
      ((es.getD (placeOf (ens es) nm).toNat []).getD ((0 : Nat) + (1 : Nat)) (C.fn (0 : FuncId) [])).toInt)])))))) : T (List C)).eval := evalEq (by kernel_rfl)
theorem sNodeAt_tree (H : List Pt → Nat → St → T (List C)) (ns : List (List C)) (es : List (List C)) (os : List (List C)) (ss : List (List C)) (r : Int) (x : Int) (nm : List UInt8) : (vBodyL E_sNodeAt noInl (sg [pDisk, pS] [rNode, rB]) Tryz.f102 H
  [C.sl ns, C.sl es, C.sl os, C.sl ss, C.int IntKind.i64 r, C.int IntKind.i64 x, C.str nm]).eval =
 ((.must (decide (es.length ≤ bigN) && rowsOk [K.str, K.int IntKind.i64] es)
 (.must (decide (ns.length ≤ bigN) && rowsOk [K.int IntKind.i64, K.str, K.int IntKind.i64] ns)
  (.ask (decide (nodeOf (nds ns) (entAt (ens es) nm) < (0 : Int)))
   (.ret [C.int IntKind.i64 (0 : Int), C.str [], C.int IntKind.i64 (0 : Int), C.bool false])
   (.must (decide (es.length ≤ bigN) && rowsOk [K.str, K.int IntKind.i64] es)
    (.ask (hasEn (ens es) nm)
     (.must (decide ((0 : Int) ≤ nodeOf (nds ns) (entAt (ens es) nm)) &&
    decide (nodeOf (nds ns) (entAt (ens es) nm) < (↑ns.length : Int)) &&
  decide ((ns.getD (nodeOf (nds ns) (entAt (ens es) nm)).toNat []).length = (3 : Nat)))
      (.must (decide ((0 : Nat) < (ns.getD (nodeOf (nds ns) (entAt (ens es) nm)).toNat []).length) &&
    C.is (K.int IntKind.i64)
      ((ns.getD (nodeOf (nds ns) (entAt (ens es) nm)).toNat []).getD (0 : Nat) (C.fn (0 : FuncId) [])) &&
  (decide ((0 : Nat) + (1 : Nat) < (ns.getD (nodeOf (nds ns) (entAt (ens es) nm)).toNat []).length) &&
      C.is K.str
        ((ns.getD (nodeOf (nds ns) (entAt (ens es) nm)).toNat []).getD ((0 : Nat) + (1 : Nat))
          (C.fn (0 : FuncId) [])) &&
    (decide ((0 : Nat) + (1 : Nat) + (1 : Nat) < (ns.getD (nodeOf (nds ns) (entAt (ens es) nm)).toNat []).length) &&
        C.is (K.int IntKind.i64)
          ((ns.getD (nodeOf (nds ns) (entAt (ens es) nm)).toNat []).getD ((0 : Nat) + (1 : Nat) + (1 : Nat))
            (C.fn (0 : FuncId) [])) &&
      true)))
       (.ret [C.int IntKind.i64
    ((ns.getD (nodeOf (nds ns) (entAt (ens es) nm)).toNat []).getD (0 : Nat) (C.fn (0 : FuncId) [])).toInt,
  C.str
    ((ns.getD (nodeOf (nds ns) (entAt (ens es) nm)).toNat []).getD ((0 : Nat) + (1 : Nat))
        (C.fn (0 : FuncId) [])).toStr,
  C.int IntKind.i64
    ((ns.getD (nodeOf (nds ns) (entAt (ens es) nm)).toNat []).getD ((0 : Nat) + (1 : Nat) + (1 : Nat))
        (C.fn (0 : FuncId) [])).toInt,
  C.bool true])))
     (.ret [C.int IntKind.i64 (0 : Int), C.str [], C.int IntKind.i64 (0 : Int), C.bool false])))))) : T (List C)).eval := evalEq (by kernel_rfl)
theorem iNodeAt_tree (H : List Pt → Nat → St → T (List C)) (ns : List (List C)) (es : List (List C)) (os : List (List C)) (ss : List (List C)) (r : Int) (x : Int) (nm : List UInt8) : (vBodyL E_iNodeAt noInl (sg [pDisk, pS] [rNode, rB]) Tryz.f109 H
  [C.sl ns, C.sl es, C.sl os, C.sl ss, C.int IntKind.i64 r, C.int IntKind.i64 x, C.str nm]).eval =
 ((.must (neOk ns es)
 (.ask (decide (nodeIx (nds ns) (ens es) nm < (0 : Int)))
  (.ret [C.int IntKind.i64 (0 : Int), C.str [], C.int IntKind.i64 (0 : Int), C.bool false])
  (.must (decide ((0 : Int) ≤ nodeIx (nds ns) (ens es) nm) && decide (nodeIx (nds ns) (ens es) nm < (↑ns.length : Int)) &&
  decide ((ns.getD (nodeIx (nds ns) (ens es) nm).toNat []).length = (3 : Nat)))
   (.must (decide ((0 : Nat) < (ns.getD (nodeIx (nds ns) (ens es) nm).toNat []).length) &&
    C.is (K.int IntKind.i64) ((ns.getD (nodeIx (nds ns) (ens es) nm).toNat []).getD (0 : Nat) (C.fn (0 : FuncId) [])) &&
  (decide ((0 : Nat) + (1 : Nat) < (ns.getD (nodeIx (nds ns) (ens es) nm).toNat []).length) &&
      C.is K.str
        ((ns.getD (nodeIx (nds ns) (ens es) nm).toNat []).getD ((0 : Nat) + (1 : Nat)) (C.fn (0 : FuncId) [])) &&
    (decide ((0 : Nat) + (1 : Nat) + (1 : Nat) < (ns.getD (nodeIx (nds ns) (ens es) nm).toNat []).length) &&
        C.is (K.int IntKind.i64)
          ((ns.getD (nodeIx (nds ns) (ens es) nm).toNat []).getD ((0 : Nat) + (1 : Nat) + (1 : Nat))
            (C.fn (0 : FuncId) [])) &&
      true)))
    (.ret [C.int IntKind.i64 ((ns.getD (nodeIx (nds ns) (ens es) nm).toNat []).getD (0 : Nat) (C.fn (0 : FuncId) [])).toInt,
  C.str ((ns.getD (nodeIx (nds ns) (ens es) nm).toNat []).getD ((0 : Nat) + (1 : Nat)) (C.fn (0 : FuncId) [])).toStr,
  C.int IntKind.i64
    ((ns.getD (nodeIx (nds ns) (ens es) nm).toNat []).getD ((0 : Nat) + (1 : Nat) + (1 : Nat))
        (C.fn (0 : FuncId) [])).toInt,
  C.bool true]))))) : T (List C)).eval := evalEq (by kernel_rfl)
theorem sReadFile_tree (H : List Pt → Nat → St → T (List C)) (ns : List (List C)) (es : List (List C)) (os : List (List C)) (ss : List (List C)) (r : Int) (x : Int) (nm : List UInt8) : (vBodyL E_sReadFile noInl (sg [pDisk, pS] [rS, rB]) Tryz.f58 H
  [C.sl ns, C.sl es, C.sl os, C.sl ss, C.int IntKind.i64 r, C.int IntKind.i64 x, C.str nm]).eval =
 ((.must (neOk ns es)
 (.ask (hasNd (nds ns) (ens es) nm)
  (.ret [C.str (ndText (nds ns) (ens es) nm), C.bool true])
  (.ret [C.str (ndText (nds ns) (ens es) nm), C.bool false]))) : T (List C)).eval := evalEq (by kernel_rfl)
theorem iReadFile_tree (H : List Pt → Nat → St → T (List C)) (ns : List (List C)) (es : List (List C)) (os : List (List C)) (ss : List (List C)) (r : Int) (x : Int) (nm : List UInt8) : (vBodyL E_iReadFile noInl (sg [pDisk, pS] [rS, rB]) Tryz.f202 H
  [C.sl ns, C.sl es, C.sl os, C.sl ss, C.int IntKind.i64 r, C.int IntKind.i64 x, C.str nm]).eval =
 ((.must (neOk ns es)
 (.ask (hasNd (nds ns) (ens es) nm)
  (.ret [C.str (ndText (nds ns) (ens es) nm), C.bool true])
  (.ret [C.str (ndText (nds ns) (ens es) nm), C.bool false]))) : T (List C)).eval := evalEq (by kernel_rfl)
theorem sTextAt_tree (H : List Pt → Nat → St → T (List C)) (ns : List (List C)) (es : List (List C)) (os : List (List C)) (ss : List (List C)) (r : Int) (x : Int) (b : Int) : (vBodyL E_sTextAt noInl (sg [pDisk, pI] [rS]) Tryz.f47 H
  [C.sl ns, C.sl es, C.sl os, C.sl ss, C.int IntKind.i64 r, C.int IntKind.i64 x, C.int IntKind.i64 b]).eval =
 ((.must (neOk ns es)
 (.ask (hasNd (nds ns) (ens es) (segName b))
  (.ret [C.str (ndText (nds ns) (ens es) (segName b))])
  (.ret [C.str (ndText (nds ns) (ens es) (segName b))]))) : T (List C)).eval := evalEq (by kernel_rfl)
theorem iTextAt_tree (H : List Pt → Nat → St → T (List C)) (ns : List (List C)) (es : List (List C)) (os : List (List C)) (ss : List (List C)) (r : Int) (x : Int) (b : Int) : (vBodyL E_iTextAt noInl (sg [pDisk, pI] [rS]) Tryz.f163 H
  [C.sl ns, C.sl es, C.sl os, C.sl ss, C.int IntKind.i64 r, C.int IntKind.i64 x, C.int IntKind.i64 b]).eval =
 ((.must (neOk ns es)
 (.ask (hasNd (nds ns) (ens es) (segName b))
  (.ret [C.str (ndText (nds ns) (ens es) (segName b))])
  (.ret [C.str (ndText (nds ns) (ens es) (segName b))]))) : T (List C)).eval := evalEq (by kernel_rfl)
theorem ixEn_round0 (H : List Pt → Nat → St → T (List C)) (r : List (List C)) (nm : List UInt8) (n : Int) (i : Int) (k : Nat) : (vRound E_ixEn noInl (sg [pSl (127 : TypeId), pF] [rI]) Tryz.f178 H [Pt.r, Pt.l, Pt.r, Pt.b] k (H_ixEn r nm n i)).eval =
 ((.ask (decide (i < n))
 (.must (decide ((0 : Int) ≤ i) && decide (i < (↑r.length : Int)) && decide ((r.getD i.toNat []).length = (2 : Nat)))
  (.must (decide ((0 : Nat) < (r.getD i.toNat []).length) &&
    C.is K.str ((r.getD i.toNat []).getD (0 : Nat) (C.fn (0 : FuncId) [])) &&
  (decide ((0 : Nat) + (1 : Nat) < (r.getD i.toNat []).length) &&
      C.is (K.int IntKind.i64) ((r.getD i.toNat []).getD ((0 : Nat) + (1 : Nat)) (C.fn (0 : FuncId) [])) &&
    true))
   (.ask (decide (((r.getD i.toNat []).getD (0 : Nat) (C.fn (0 : FuncId) [])).toStr = nm))
    (.ret [C.int IntKind.i64 i])
    (H [Pt.r, Pt.l, Pt.r, Pt.b] k (H_ixEn (r) (nm) (n) (IntKind.i64.wrap (i + (1 : Int))))))))
 (.ret [C.int IntKind.i64 (-1 : Int)])) : T (List C)).eval := evalEq (by kernel_rfl)
theorem ixNd_round0 (H : List Pt → Nat → St → T (List C)) (r : List (List C)) (id : Int) (n : Int) (i : Int) (k : Nat) : (vRound E_ixNd noInl (sg [pSl (93 : TypeId), pF] [rI]) Tryz.f180 H [Pt.r, Pt.l, Pt.r, Pt.b] k (H_ixNd r id n i)).eval =
 ((.ask (decide (i < n))
 (.must (decide ((0 : Int) ≤ i) && decide (i < (↑r.length : Int)) && decide ((r.getD i.toNat []).length = (3 : Nat)))
  (.must (decide ((0 : Nat) < (r.getD i.toNat []).length) &&
    C.is (K.int IntKind.i64) ((r.getD i.toNat []).getD (0 : Nat) (C.fn (0 : FuncId) [])) &&
  (decide ((0 : Nat) + (1 : Nat) < (r.getD i.toNat []).length) &&
      C.is K.str ((r.getD i.toNat []).getD ((0 : Nat) + (1 : Nat)) (C.fn (0 : FuncId) [])) &&
    (decide ((0 : Nat) + (1 : Nat) + (1 : Nat) < (r.getD i.toNat []).length) &&
        C.is (K.int IntKind.i64)
          ((r.getD i.toNat []).getD ((0 : Nat) + (1 : Nat) + (1 : Nat)) (C.fn (0 : FuncId) [])) &&
      true)))
   (.ask (decide (((r.getD i.toNat []).getD (0 : Nat) (C.fn (0 : FuncId) [])).toInt = id))
    (.ret [C.int IntKind.i64 i])
    (H [Pt.r, Pt.l, Pt.r, Pt.b] k (H_ixNd (r) (id) (n) (IntKind.i64.wrap (i + (1 : Int))))))))
 (.ret [C.int IntKind.i64 (-1 : Int)])) : T (List C)).eval := evalEq (by kernel_rfl)
theorem entAtF_round0 (H : List Pt → Nat → St → T (List C)) (r : List (List C)) (nm : List UInt8) (i : Int) (k : Nat) : (vRound E_entAtF noInl (sg [pSl (127 : TypeId), pS] [rI]) Tryz.f62 H [Pt.r, Pt.l, Pt.r, Pt.b] k (H_entAtF r nm i)).eval =
 ((.ask (decide (i < (↑r.length : Int)))
 (.must (decide ((0 : Int) ≤ i) && decide (i < (↑r.length : Int)) && decide ((r.getD i.toNat []).length = (2 : Nat)))
  (.must (decide ((0 : Nat) + (0 : Nat) < (r.getD i.toNat []).length) &&
    C.is K.str ((r.getD i.toNat []).getD ((0 : Nat) + (0 : Nat)) (C.fn (0 : FuncId) [])) &&
  true)
   (.ask (((r.getD i.toNat []).getD ((0 : Nat) + (0 : Nat)) (C.fn (0 : FuncId) [])).toStr == nm)
    (.must (decide ((0 : Int) ≤ i) && decide (i < (↑r.length : Int)) && decide ((r.getD i.toNat []).length = (2 : Nat)))
     (.must (decide ((0 : Nat) + (1 : Nat) < (r.getD i.toNat []).length) &&
    C.is (K.int IntKind.i64) ((r.getD i.toNat []).getD ((0 : Nat) + (1 : Nat)) (C.fn (0 : FuncId) [])) &&
  true)
      (.ret [C.int IntKind.i64 ((r.getD i.toNat []).getD ((0 : Nat) + (1 : Nat)) (C.fn (0 : FuncId) [])).toInt])))
    (H [Pt.r, Pt.l, Pt.r, Pt.b] k (H_entAtF (r) (nm) (IntKind.i64.wrap (i + (1 : Int))))))))
 (.ret [C.int IntKind.i64 (0 : Int)])) : T (List C)).eval := evalEq (by kernel_rfl)
theorem hasEnF_round0 (H : List Pt → Nat → St → T (List C)) (r : List (List C)) (nm : List UInt8) (i : Int) (k : Nat) : (vRound E_hasEnF noInl (sg [pSl (127 : TypeId), pS] [rB]) Tryz.f141 H [Pt.r, Pt.l, Pt.r, Pt.b] k (H_hasEnF r nm i)).eval =
 ((.ask (decide (i < (↑r.length : Int)))
 (.must (decide ((0 : Int) ≤ i) && decide (i < (↑r.length : Int)) && decide ((r.getD i.toNat []).length = (2 : Nat)))
  (.must (decide ((0 : Nat) + (0 : Nat) < (r.getD i.toNat []).length) &&
    C.is K.str ((r.getD i.toNat []).getD ((0 : Nat) + (0 : Nat)) (C.fn (0 : FuncId) [])) &&
  true)
   (.ask (((r.getD i.toNat []).getD ((0 : Nat) + (0 : Nat)) (C.fn (0 : FuncId) [])).toStr == nm)
    (.ret [C.bool true])
    (H [Pt.r, Pt.l, Pt.r, Pt.b] k (H_hasEnF (r) (nm) (IntKind.i64.wrap (i + (1 : Int))))))))
 (.ret [C.bool false])) : T (List C)).eval := evalEq (by kernel_rfl)
theorem sNodeOf_round0 (H : List Pt → Nat → St → T (List C)) (ns : List (List C)) (es : List (List C)) (os : List (List C)) (ss : List (List C)) (r : Int) (x : Int) (id : Int) (i : Int) (k : Nat) : (vRound E_sNodeOf noInl (sg [pDisk, pI] [rI]) Tryz.f61 H [Pt.r, Pt.l, Pt.r, Pt.b] k (H_sNodeOf ns es os ss r x id i)).eval =
 ((.ask (decide (i < (↑ns.length : Int)))
 (.must (decide ((0 : Int) ≤ i) && decide (i < (↑ns.length : Int)) && decide ((ns.getD i.toNat []).length = (3 : Nat)))
  (.must (decide ((0 : Nat) + (0 : Nat) < (ns.getD i.toNat []).length) &&
    C.is (K.int IntKind.i64) ((ns.getD i.toNat []).getD ((0 : Nat) + (0 : Nat)) (C.fn (0 : FuncId) [])) &&
  true)
   (.ask (decide (((ns.getD i.toNat []).getD ((0 : Nat) + (0 : Nat)) (C.fn (0 : FuncId) [])).toInt = id))
    (.ret [C.int IntKind.i64 i])
    (H [Pt.r, Pt.l, Pt.r, Pt.b] k (H_sNodeOf (ns) (es) (os) (ss) (r) (x) (id) (IntKind.i64.wrap (i + (1 : Int))))))))
 (.ret [C.int IntKind.i64 (-1 : Int)])) : T (List C)).eval := evalEq (by kernel_rfl)
end Go.Proofs.YtggmbjbmklimdaaGreatDoor.V

namespace Go.Proofs.YtggmbjbmklimdaaGreatDoor.V

theorem idxGo_shift {A : Type} (p : A → Bool) : ∀ (l : List A) (i : Nat), idxGo p l i = -1 ∨ ((i : Int) ≤ idxGo p l i ∧ idxGo p l i < i + l.length)
  | [], i => .inl rfl
  | x :: r, i => by
    simp only [idxGo]
    split
    · exact .inr ⟨Int.le_refl _, by simp; omega⟩
    · rcases idxGo_shift p r (i + 1) with h | h
      · exact .inl h
      · exact .inr ⟨by omega, by simp; omega⟩
theorem placeOf_rng (es : List En) (nm : List UInt8) : placeOf es nm = -1 ∨ (0 ≤ placeOf es nm ∧ placeOf es nm < es.length) := by
  rcases idxGo_shift (enIs nm) es 0 with h | h
  · exact .inl h
  · refine .inr ?_
    unfold placeOf
    omega
theorem nodeOf_rng (ns : List Nd) (id : Int) : nodeOf ns id = -1 ∨ (0 ≤ nodeOf ns id ∧ nodeOf ns id < ns.length) := by
  rcases idxGo_shift (ndIs id) ns 0 with h | h
  · exact .inl h
  · refine .inr ?_
    unfold nodeOf
    omega
theorem enCl_E : EnvSound Tryz.prog E_enCl := mkE_sound (by simp [])
theorem enCl_sound : Sound Tryz.prog 179 (sg [pEntry, pP] [rB]) enClSpec := vBody_sound enCl_E noInl_ok Tryz.func179 (by kernel_rfl) fun cs outs hk h => by
  unfold enClSpec at h
  split at h
  · simp only [Option.some.injEq, Prod.mk.injEq, true_and] at h
    subst h
    rename_i n i nm
    rw [vBody_L, enCl_tree]
    simp only [eval_ask', eval_ret', beq_iff_eq]
    split <;> simp_all
  · cases h
theorem ndCl_E : EnvSound Tryz.prog E_ndCl := mkE_sound (by simp [])
theorem ndCl_sound : Sound Tryz.prog 181 (sg [pNode, pP] [rB]) ndClSpec := vBody_sound ndCl_E noInl_ok Tryz.func181 (by kernel_rfl) fun cs outs hk h => by
  unfold ndClSpec at h
  split at h
  · simp only [Option.some.injEq, Prod.mk.injEq, true_and] at h
    subst h
    rw [vBody_L, ndCl_tree]
    simp only [eval_ask', eval_ret', decide_eq_true_eq]
    split <;> simp_all
  · cases h
theorem ixEn_loop (l : List En) (nm : List UInt8) (hl : l.length ≤ 281474976710656) : ∀ (n i : Nat), i ≤ l.length → l.length < i + n →
    (vLoop E_ixEn noInl (sg [pSl 127, pF] [rI]) Tryz.f178 [.r, .l, .r, .b] n (H_ixEn (l.map eEn) nm l.length i)).eval = some [.int .i64 (idxGo (enIs nm) (l.drop i) i)] := by
  intro n
  induction n with
  | zero => intro i h1 h2; omega
  | succ n ih =>
    intro i h1 h2
    rw [vLoop_L _ _ _ _ _ _ _ (by kernel_rfl), ixEn_round0]
    by_cases hi : i < l.length
    · have g := map_getD eEn l ⟨[], 0⟩ i hi
      have w : IntKind.i64.wrap ((i : Int) + 1) = ((i + 1 : Nat) : Int) := by rw [wrap64] <;> omega
      have hz : (0 : Int) ≤ i := by omega
      have hi' : (i : Int) < l.length := by omega
      rw [drop_cons l i ⟨[], 0⟩ hi]
      generalize l.getD i ⟨[], 0⟩ = y at g ⊢
      simp only [eval_must', eval_ask', eval_ret', if_true, decide_eq_true_eq, Bool.and_eq_true, w, hz, hi', Int.toNat_natCast, List.length_map, g, and_self, List.getD_cons_zero, List.getD_cons_succ, C.toStr, C.toInt, C.is, List.length_cons, List.length_nil, Nat.zero_add, Nat.reduceAdd, Nat.reduceLT, decide_true, beq_self_eq_true, idxGo, enIs]
      by_cases hy : y.name = nm
      · simp only [hy, if_true]
      · simp only [hy, if_false]
        exact ih (i + 1) (by omega) (by omega)
    · have e : i = l.length := by omega
      subst e
      have hi' : ¬ ((l.length : Int) < (l.length : Int)) := by omega
      simp only [eval_ask', eval_ret', decide_eq_true_eq, hi', if_false, List.drop_length, idxGo]
theorem ixEn_E : EnvSound Tryz.prog E_ixEn := mkE_sound (by simp [enCl_sound])
theorem ixEn_sound : Sound Tryz.prog 178 (sg [pSl 127, pF] [rI]) ixEnSpec := vBody_sound ixEn_E noInl_ok Tryz.func178 (by kernel_rfl) fun cs outs hk h => by
  unfold ixEnSpec at h
  split at h
  · simp only [Option.some.injEq, Prod.mk.injEq, Bool.and_eq_true, decide_eq_true_eq] at h
    obtain ⟨⟨rfl, h1, h2⟩, rfl⟩ := h
    rename_i rows nm
    have hr := rows_ens h2
    generalize ens rows = l at hr ⊢
    subst hr
    rw [List.length_map] at h1
    rw [vBody_L, ixEn_tree]
    have := ixEn_loop l nm h1 9223372036854775808 0 (by omega) (by have : l.length ≤ 281474976710656 := h1; omega)
    rw [show (l.length : Int) = ((l.map eEn).length : Int) by rw [List.length_map]] at this
    exact this
  · cases h
theorem ixNd_loop (l : List Nd) (id : Int) (hl : l.length ≤ 281474976710656) : ∀ (n i : Nat), i ≤ l.length → l.length < i + n →
    (vLoop E_ixNd noInl (sg [pSl 93, pF] [rI]) Tryz.f180 [.r, .l, .r, .b] n (H_ixNd (l.map eNd) id l.length i)).eval = some [.int .i64 (idxGo (ndIs id) (l.drop i) i)] := by
  intro n
  induction n with
  | zero => intro i h1 h2; omega
  | succ n ih =>
    intro i h1 h2
    rw [vLoop_L _ _ _ _ _ _ _ (by kernel_rfl), ixNd_round0]
    by_cases hi : i < l.length
    · have g := map_getD eNd l ⟨0, [], 0⟩ i hi
      have w : IntKind.i64.wrap ((i : Int) + 1) = ((i + 1 : Nat) : Int) := by rw [wrap64] <;> omega
      have hz : (0 : Int) ≤ i := by omega
      have hi' : (i : Int) < l.length := by omega
      rw [drop_cons l i ⟨0, [], 0⟩ hi]
      generalize l.getD i ⟨0, [], 0⟩ = y at g ⊢
      simp only [eval_must', eval_ask', eval_ret', if_true, decide_eq_true_eq, Bool.and_eq_true, w, hz, hi', Int.toNat_natCast, List.length_map, g, and_self, List.getD_cons_zero, List.getD_cons_succ, C.toStr, C.toInt, C.is, List.length_cons, List.length_nil, Nat.zero_add, Nat.reduceAdd, Nat.reduceLT, decide_true, beq_self_eq_true, idxGo, ndIs]
      by_cases hy : y.id = id
      · simp only [hy, if_true]
      · simp only [hy, if_false]
        exact ih (i + 1) (by omega) (by omega)
    · have e : i = l.length := by omega
      subst e
      have hi' : ¬ ((l.length : Int) < (l.length : Int)) := by omega
      simp only [eval_ask', eval_ret', decide_eq_true_eq, hi', if_false, List.drop_length, idxGo]
theorem ixNd_E : EnvSound Tryz.prog E_ixNd := mkE_sound (by simp [ndCl_sound])
theorem ixNd_sound : Sound Tryz.prog 180 (sg [pSl 93, pF] [rI]) ixNdSpec := vBody_sound ixNd_E noInl_ok Tryz.func180 (by kernel_rfl) fun cs outs hk h => by
  unfold ixNdSpec at h
  split at h
  · simp only [Option.some.injEq, Prod.mk.injEq, Bool.and_eq_true, decide_eq_true_eq] at h
    obtain ⟨⟨rfl, h1, h2⟩, rfl⟩ := h
    rename_i rows id
    have hr := rows_nds h2
    generalize nds rows = l at hr ⊢
    subst hr
    rw [List.length_map] at h1
    rw [vBody_L, ixNd_tree]
    have := ixNd_loop l id h1 9223372036854775808 0 (by omega) (by have : l.length ≤ 281474976710656 := h1; omega)
    rw [show (l.length : Int) = ((l.map eNd).length : Int) by rw [List.length_map]] at this
    exact this
  · cases h
theorem placeOfF_E : EnvSound Tryz.prog E_placeOfF := mkE_sound (by simp [enCl_sound, ixEn_sound])
theorem placeOfF_sound : Sound Tryz.prog 134 (sg [pSl 127, pS] [rI]) placeSpec := vBody_sound placeOfF_E noInl_ok Tryz.func134 (by kernel_rfl) fun cs outs hk h => by
  unfold placeSpec at h
  split at h
  · simp only [Option.some.injEq, Prod.mk.injEq, Bool.and_eq_true, decide_eq_true_eq] at h
    obtain ⟨⟨h1, h2⟩, rfl⟩ := h
    rw [vBody_L, placeOfF_tree]
    simp only [kEn] at h2
    simp only [eval_must', eval_ret', h1, h2, decide_true, Bool.and_self, if_true]
  · cases h
theorem nodeOfF_E : EnvSound Tryz.prog E_nodeOfF := mkE_sound (by simp [ndCl_sound, ixNd_sound])
theorem nodeOfF_sound : Sound Tryz.prog 135 (sg [pDisk, pI] [rI]) nodeOfSpec := vBody_sound nodeOfF_E noInl_ok Tryz.func135 (by kernel_rfl) fun cs outs hk h => by
  unfold nodeOfSpec at h
  split at h
  · simp only [Option.some.injEq, Prod.mk.injEq, Bool.and_eq_true, decide_eq_true_eq] at h
    obtain ⟨⟨h1, h2⟩, rfl⟩ := h
    rw [vBody_L, nodeOfF_tree]
    simp only [kNd] at h2
    simp only [eval_must', eval_ret', h1, h2, decide_true, Bool.and_self, if_true]
  · cases h
theorem entGo (l : List En) (nm : List UInt8) (i : Nat) (hi : i < l.length) : idxGo (enIs nm) (l.drop i) i = if (l.getD i ⟨[], 0⟩).name = nm then (i : Int) else idxGo (enIs nm) (l.drop (i + 1)) (i + 1) := by
  rw [drop_cons l i ⟨[], 0⟩ hi]
  simp only [idxGo, enIs, decide_eq_true_eq]
theorem ndGo (l : List Nd) (id : Int) (i : Nat) (hi : i < l.length) : idxGo (ndIs id) (l.drop i) i = if (l.getD i ⟨0, [], 0⟩).id = id then (i : Int) else idxGo (ndIs id) (l.drop (i + 1)) (i + 1) := by
  rw [drop_cons l i ⟨0, [], 0⟩ hi]
  simp only [idxGo, ndIs, decide_eq_true_eq]
theorem entAtF_loop (l : List En) (nm : List UInt8) (hl : l.length ≤ 281474976710656) : ∀ (n i : Nat), i ≤ l.length → l.length < i + n → placeOf l nm = idxGo (enIs nm) (l.drop i) i →
    (vLoop E_entAtF noInl (sg [pSl 127, pS] [rI]) Tryz.f62 [.r, .l, .r, .b] n (H_entAtF (l.map eEn) nm i)).eval = some [.int .i64 (entAt l nm)] := by
  intro n
  induction n with
  | zero => intro i h1 h2; omega
  | succ n ih =>
    intro i h1 h2 h3
    rw [vLoop_L _ _ _ _ _ _ _ (by kernel_rfl), entAtF_round0]
    by_cases hi : i < l.length
    · have g := map_getD eEn l ⟨[], 0⟩ i hi
      have w : IntKind.i64.wrap ((i : Int) + 1) = ((i + 1 : Nat) : Int) := by rw [wrap64] <;> omega
      have hz : (0 : Int) ≤ i := by omega
      have hi' : (i : Int) < l.length := by omega
      rw [entGo l nm i hi] at h3
      simp only [eval_must', eval_ask', eval_ret', if_true, decide_eq_true_eq, Bool.and_eq_true, w, hz, hi', Int.toNat_natCast, List.length_map, g, and_self, List.getD_cons_zero, List.getD_cons_succ, C.toStr, C.toInt, C.is, List.length_cons, List.length_nil, Nat.zero_add, Nat.add_zero, Nat.reduceAdd, Nat.reduceLT, decide_true, beq_self_eq_true, beq_iff_eq]
      by_cases hy : (l.getD i ⟨[], 0⟩).name = nm
      · simp only [if_pos hy] at h3 ⊢
        have : ¬ ((i : Int) < 0) := by omega
        unfold entAt
        rw [h3, if_neg this, Int.toNat_natCast]
      · simp only [if_neg hy] at h3 ⊢
        exact ih (i + 1) (by omega) (by omega) h3
    · have e : i = l.length := by omega
      subst e
      have hi' : ¬ ((l.length : Int) < (l.length : Int)) := by omega
      rw [List.drop_length] at h3
      simp only [eval_ask', eval_ret', decide_eq_true_eq, hi', if_false, List.length_map]
      unfold entAt
      rw [h3]
      rfl
theorem entAtF_E : EnvSound Tryz.prog E_entAtF := mkE_sound (by simp [])
theorem entAtF_sound : Sound Tryz.prog 62 (sg [pSl 127, pS] [rI]) entAtSpec := vBody_sound entAtF_E noInl_ok Tryz.func62 (by kernel_rfl) fun cs outs hk h => by
  unfold entAtSpec at h
  split at h
  · simp only [Option.some.injEq, Prod.mk.injEq, Bool.and_eq_true, decide_eq_true_eq] at h
    obtain ⟨⟨h1, h2⟩, rfl⟩ := h
    rename_i rows nm
    have hr := rows_ens h2
    generalize ens rows = l at hr ⊢
    subst hr
    rw [List.length_map] at h1
    rw [vBody_L, entAtF_tree]
    exact entAtF_loop l nm h1 9223372036854775808 0 (by omega) (by have : l.length ≤ 281474976710656 := h1; omega) rfl
  · cases h
theorem hasEnF_loop (l : List En) (nm : List UInt8) (hl : l.length ≤ 281474976710656) : ∀ (n i : Nat), i ≤ l.length → l.length < i + n → placeOf l nm = idxGo (enIs nm) (l.drop i) i →
    (vLoop E_hasEnF noInl (sg [pSl 127, pS] [rB]) Tryz.f141 [.r, .l, .r, .b] n (H_hasEnF (l.map eEn) nm i)).eval = some [.bool (hasEn l nm)] := by
  intro n
  induction n with
  | zero => intro i h1 h2; omega
  | succ n ih =>
    intro i h1 h2 h3
    rw [vLoop_L _ _ _ _ _ _ _ (by kernel_rfl), hasEnF_round0]
    by_cases hi : i < l.length
    · have g := map_getD eEn l ⟨[], 0⟩ i hi
      have w : IntKind.i64.wrap ((i : Int) + 1) = ((i + 1 : Nat) : Int) := by rw [wrap64] <;> omega
      have hz : (0 : Int) ≤ i := by omega
      have hi' : (i : Int) < l.length := by omega
      rw [entGo l nm i hi] at h3
      simp only [eval_must', eval_ask', eval_ret', if_true, decide_eq_true_eq, Bool.and_eq_true, w, hz, hi', Int.toNat_natCast, List.length_map, g, and_self, List.getD_cons_zero, List.getD_cons_succ, C.toStr, C.toInt, C.is, List.length_cons, List.length_nil, Nat.zero_add, Nat.add_zero, Nat.reduceAdd, Nat.reduceLT, decide_true, beq_self_eq_true, beq_iff_eq]
      by_cases hy : (l.getD i ⟨[], 0⟩).name = nm
      · simp only [if_pos hy] at h3 ⊢
        have : (0 : Int) ≤ i := by omega
        unfold hasEn
        rw [h3, decide_eq_true this]
      · simp only [if_neg hy] at h3 ⊢
        exact ih (i + 1) (by omega) (by omega) h3
    · have e : i = l.length := by omega
      subst e
      have hi' : ¬ ((l.length : Int) < (l.length : Int)) := by omega
      rw [List.drop_length] at h3
      simp only [eval_ask', eval_ret', decide_eq_true_eq, hi', if_false, List.length_map]
      unfold hasEn
      rw [h3]
      rfl
theorem hasEnF_E : EnvSound Tryz.prog E_hasEnF := mkE_sound (by simp [])
theorem hasEnF_sound : Sound Tryz.prog 141 (sg [pSl 127, pS] [rB]) hasEnSpec := vBody_sound hasEnF_E noInl_ok Tryz.func141 (by kernel_rfl) fun cs outs hk h => by
  unfold hasEnSpec at h
  split at h
  · simp only [Option.some.injEq, Prod.mk.injEq, Bool.and_eq_true, decide_eq_true_eq] at h
    obtain ⟨⟨h1, h2⟩, rfl⟩ := h
    rename_i rows nm
    have hr := rows_ens h2
    generalize ens rows = l at hr ⊢
    subst hr
    rw [List.length_map] at h1
    rw [vBody_L, hasEnF_tree]
    exact hasEnF_loop l nm h1 9223372036854775808 0 (by omega) (by have : l.length ≤ 281474976710656 := h1; omega) rfl
  · cases h
theorem sNodeOf_loop (l : List Nd) (es os ss : List (List C)) (r x id : Int) (hl : l.length ≤ 281474976710656) : ∀ (n i : Nat), i ≤ l.length → l.length < i + n →
    (vLoop E_sNodeOf noInl (sg [pDisk, pI] [rI]) Tryz.f61 [.r, .l, .r, .b] n (H_sNodeOf (l.map eNd) es os ss r x id i)).eval = some [.int .i64 (idxGo (ndIs id) (l.drop i) i)] := by
  intro n
  induction n with
  | zero => intro i h1 h2; omega
  | succ n ih =>
    intro i h1 h2
    rw [vLoop_L _ _ _ _ _ _ _ (by kernel_rfl), sNodeOf_round0]
    by_cases hi : i < l.length
    · have g := map_getD eNd l ⟨0, [], 0⟩ i hi
      have w : IntKind.i64.wrap ((i : Int) + 1) = ((i + 1 : Nat) : Int) := by rw [wrap64] <;> omega
      have hz : (0 : Int) ≤ i := by omega
      have hi' : (i : Int) < l.length := by omega
      rw [ndGo l id i hi]
      simp only [eval_must', eval_ask', eval_ret', if_true, decide_eq_true_eq, Bool.and_eq_true, w, hz, hi', Int.toNat_natCast, List.length_map, g, and_self, List.getD_cons_zero, List.getD_cons_succ, C.toStr, C.toInt, C.is, List.length_cons, List.length_nil, Nat.zero_add, Nat.add_zero, Nat.reduceAdd, Nat.reduceLT, decide_true, beq_self_eq_true]
      by_cases hy : (l.getD i ⟨0, [], 0⟩).id = id
      · simp only [if_pos hy]
      · simp only [if_neg hy]
        exact ih (i + 1) (by omega) (by omega)
    · have e : i = l.length := by omega
      subst e
      have hi' : ¬ ((l.length : Int) < (l.length : Int)) := by omega
      simp only [eval_ask', eval_ret', decide_eq_true_eq, hi', if_false, List.drop_length, idxGo, List.length_map]
theorem sNodeOf_E : EnvSound Tryz.prog E_sNodeOf := mkE_sound (by simp [])
theorem sNodeOf_sound : Sound Tryz.prog 61 (sg [pDisk, pI] [rI]) nodeOfSpec := vBody_sound sNodeOf_E noInl_ok Tryz.func61 (by kernel_rfl) fun cs outs hk h => by
  unfold nodeOfSpec at h
  split at h
  · simp only [Option.some.injEq, Prod.mk.injEq, Bool.and_eq_true, decide_eq_true_eq] at h
    obtain ⟨⟨h1, h2⟩, rfl⟩ := h
    rename_i ns es os ss r x id
    have hr := rows_nds h2
    generalize nds ns = l at hr ⊢
    subst hr
    rw [List.length_map] at h1
    rw [vBody_L, sNodeOf_tree]
    exact sNodeOf_loop l es os ss r x id h1 9223372036854775808 0 (by omega) (by have : l.length ≤ 281474976710656 := h1; omega)
  · cases h
theorem neOk_iff {ns es : List (List C)} : neOk ns es = true ↔ ns.length ≤ bigN ∧ es.length ≤ bigN ∧ rowsOk kNd ns = true ∧ rowsOk kEn es = true := by simp [neOk, and_assoc]
theorem ne_place (es : List En) (nm : List UInt8) (h : ¬ placeOf es nm < 0) : (placeOf es nm).toNat < es.length ∧ 0 ≤ placeOf es nm ∧ placeOf es nm < es.length := by
  rcases placeOf_rng es nm with h1 | h1 <;> omega
theorem ne_node (ns : List Nd) (id : Int) (h : ¬ nodeOf ns id < 0) : (nodeOf ns id).toNat < ns.length ∧ 0 ≤ nodeOf ns id ∧ nodeOf ns id < ns.length := by
  rcases nodeOf_rng ns id with h1 | h1 <;> omega
theorem nodeAtF_E : EnvSound Tryz.prog E_nodeAtF := mkE_sound (by simp [placeOfF_sound, nodeOfF_sound])
theorem nodeAtF_sound : Sound Tryz.prog 64 (sg [pDisk, pS] [rI]) nodeIxSpec := vBody_sound nodeAtF_E noInl_ok Tryz.func64 (by kernel_rfl) fun cs outs hk h => by
  unfold nodeIxSpec at h
  split at h
  · simp only [Option.some.injEq, Prod.mk.injEq, neOk_iff] at h
    obtain ⟨⟨h1, h2, h3, h4⟩, rfl⟩ := h
    rename_i ns es os ss r x nm
    have hr := rows_ens h4
    rw [vBody_L, nodeAtF_tree]
    simp only [kNd] at h3
    simp only [kEn] at h4
    simp only [eval_must', eval_ask', eval_ret', h1, h2, h3, h4, decide_true, Bool.and_self, if_true]
    generalize ens es = l at hr ⊢
    subst hr
    unfold nodeIx
    simp only [decide_eq_true_eq, List.length_map]
    by_cases hp : placeOf l nm < 0
    · simp only [hp, if_true]
    · obtain ⟨c1, c2, c3⟩ := ne_place l nm hp
      have g := map_getD eEn l ⟨[], 0⟩ (placeOf l nm).toNat c1
      unfold entAt
      simp only [hp, if_false, c2, c3, g, List.getD_cons_zero, List.getD_cons_succ, C.toStr, C.toInt, C.is, List.length_cons, List.length_nil, Nat.zero_add, Nat.add_zero, Nat.reduceAdd, Nat.reduceLT, decide_true, beq_self_eq_true, Bool.and_self, if_true]
  · cases h
theorem nd_row (l : List Nd) (i : Nat) (hi : i < l.length) : (l.map eNd).getD i [] = [.int .i64 (l.getD i ⟨0, [], 0⟩).id, .str (l.getD i ⟨0, [], 0⟩).text, .int .i64 (l.getD i ⟨0, [], 0⟩).sure] := map_getD eNd l ⟨0, [], 0⟩ i hi
theorem hasEn_iff (es : List En) (nm : List UInt8) : hasEn es nm = true ↔ ¬ placeOf es nm < 0 := by simp [hasEn]
theorem sNodeAt_E : EnvSound Tryz.prog E_sNodeAt := mkE_sound (by simp [entAtF_sound, hasEnF_sound, sNodeOf_sound])
theorem sNodeAt_sound : Sound Tryz.prog 102 (sg [pDisk, pS] [rNode, rB]) nodeAtSpec := vBody_sound sNodeAt_E noInl_ok Tryz.func102 (by kernel_rfl) fun cs outs hk h => by
  unfold nodeAtSpec at h
  split at h
  · simp only [Option.some.injEq, Prod.mk.injEq, neOk_iff] at h
    obtain ⟨⟨h1, h2, h3, h4⟩, rfl⟩ := h
    rename_i ns es os ss r x nm
    have hr := rows_nds h3
    rw [vBody_L, sNodeAt_tree]
    simp only [kNd] at h3
    simp only [kEn] at h4
    simp only [eval_must', eval_ask', eval_ret', h1, h2, h3, h4, decide_true, Bool.and_self, if_true]
    generalize nds ns = l at hr ⊢
    subst hr
    generalize ens es = m
    unfold ndId ndText ndSure hasNd ndAt nodeIx
    simp only [decide_eq_true_eq, List.length_map]
    by_cases hp : placeOf m nm < 0
    · have he : hasEn m nm = false := by cases hh : hasEn m nm with | false => rfl | true => exact absurd hp ((hasEn_iff m nm).1 hh)
      have d1 : (-1 : Int) < 0 := by decide
      have d2 : ¬ (0 : Int) ≤ -1 := by decide
      simp only [he, hp, if_true, Bool.false_eq_true, if_false, ite_self, d1, d2, decide_false]
    · have he : hasEn m nm = true := (hasEn_iff m nm).2 hp
      by_cases hn : nodeOf l (entAt m nm) < 0
      · have : ¬ (0 : Int) ≤ nodeOf l (entAt m nm) := by omega
        simp only [hp, hn, if_true, if_false, this, decide_false]
      · obtain ⟨c1, c2, c3⟩ := ne_node l (entAt m nm) hn
        have g := nd_row l (nodeOf l (entAt m nm)).toNat c1
        simp only [he, hp, hn, if_false, c2, c3, g, List.getD_cons_zero, List.getD_cons_succ, C.toStr, C.toInt, C.is, List.length_cons, List.length_nil, Nat.zero_add, Nat.add_zero, Nat.reduceAdd, Nat.reduceLT, decide_true, beq_self_eq_true, Bool.and_self, if_true]
  · cases h
theorem iNodeAt_E : EnvSound Tryz.prog E_iNodeAt := mkE_sound (by simp [nodeAtF_sound])
theorem iNodeAt_sound : Sound Tryz.prog 109 (sg [pDisk, pS] [rNode, rB]) nodeAtSpec := vBody_sound iNodeAt_E noInl_ok Tryz.func109 (by kernel_rfl) fun cs outs hk h => by
  unfold nodeAtSpec at h
  split at h
  · simp only [Option.some.injEq, Prod.mk.injEq] at h
    obtain ⟨h0, rfl⟩ := h
    obtain ⟨h1, h2, h3, h4⟩ := neOk_iff.1 h0
    rename_i ns es os ss r x nm
    have hr := rows_nds h3
    rw [vBody_L, iNodeAt_tree]
    simp only [eval_must', h0, if_true]
    generalize nds ns = l at hr ⊢
    subst hr
    generalize ens es = m
    unfold ndId ndText ndSure hasNd ndAt
    simp only [eval_must', eval_ask', eval_ret', decide_eq_true_eq, List.length_map]
    by_cases hn : nodeIx l m nm < 0
    · have : ¬ (0 : Int) ≤ nodeIx l m nm := by omega
      simp only [hn, if_true, this, decide_false]
    · have hp : ¬ placeOf m nm < 0 := fun hp => hn (by unfold nodeIx; rw [if_pos hp]; decide)
      have e : nodeIx l m nm = nodeOf l (entAt m nm) := if_neg hp
      rw [e] at hn ⊢
      obtain ⟨c1, c2, c3⟩ := ne_node l (entAt m nm) hn
      have g := nd_row l (nodeOf l (entAt m nm)).toNat c1
      simp only [hn, if_false, c2, c3, g, List.getD_cons_zero, List.getD_cons_succ, C.toStr, C.toInt, C.is, List.length_cons, List.length_nil, Nat.zero_add, Nat.add_zero, Nat.reduceAdd, Nat.reduceLT, decide_true, beq_self_eq_true, Bool.and_self, if_true]
  · cases h
theorem sReadFile_E : EnvSound Tryz.prog E_sReadFile := mkE_sound (by simp [sNodeAt_sound])
theorem sReadFile_sound : Sound Tryz.prog 58 (sg [pDisk, pS] [rS, rB]) readFileSpec := vBody_sound sReadFile_E noInl_ok Tryz.func58 (by kernel_rfl) fun cs outs hk h => by
  unfold readFileSpec at h
  split at h
  · simp only [Option.some.injEq, Prod.mk.injEq] at h
    obtain ⟨h0, rfl⟩ := h
    rw [vBody_L, sReadFile_tree]
    simp only [eval_must', eval_ask', eval_ret', h0, if_true]
    split <;> simp_all
  · cases h
theorem iReadFile_E : EnvSound Tryz.prog E_iReadFile := mkE_sound (by simp [iNodeAt_sound])
theorem iReadFile_sound : Sound Tryz.prog 202 (sg [pDisk, pS] [rS, rB]) readFileSpec := vBody_sound iReadFile_E noInl_ok Tryz.func202 (by kernel_rfl) fun cs outs hk h => by
  unfold readFileSpec at h
  split at h
  · simp only [Option.some.injEq, Prod.mk.injEq] at h
    obtain ⟨h0, rfl⟩ := h
    rw [vBody_L, iReadFile_tree]
    simp only [eval_must', eval_ask', eval_ret', h0, if_true]
    split <;> simp_all
  · cases h
theorem sTextAt_E : EnvSound Tryz.prog E_sTextAt := mkE_sound (by simp [sSegmentName_sound, sReadFile_sound])
theorem sTextAt_sound : Sound Tryz.prog 47 (sg [pDisk, pI] [rS]) textAtSpec := vBody_sound sTextAt_E noInl_ok Tryz.func47 (by kernel_rfl) fun cs outs hk h => by
  unfold textAtSpec at h
  split at h
  · simp only [Option.some.injEq, Prod.mk.injEq] at h
    obtain ⟨h0, rfl⟩ := h
    rw [vBody_L, sTextAt_tree]
    simp only [eval_must', eval_ask', eval_ret', h0, if_true, textAt, ite_self]
  · cases h
theorem iTextAt_E : EnvSound Tryz.prog E_iTextAt := mkE_sound (by simp [iSegmentName_sound, iReadFile_sound])
theorem iTextAt_sound : Sound Tryz.prog 163 (sg [pDisk, pI] [rS]) textAtSpec := vBody_sound iTextAt_E noInl_ok Tryz.func163 (by kernel_rfl) fun cs outs hk h => by
  unfold textAtSpec at h
  split at h
  · simp only [Option.some.injEq, Prod.mk.injEq] at h
    obtain ⟨h0, rfl⟩ := h
    rw [vBody_L, iTextAt_tree]
    simp only [eval_must', eval_ask', eval_ret', h0, if_true, textAt, ite_self]
  · cases h

end Go.Proofs.YtggmbjbmklimdaaGreatDoor.V

namespace Go.Proofs.YtggmbjbmklimdaaGreatDoor.V
noncomputable section

def linkMore (l : Int) (r : List UInt8) : Int := (crcMore (low32 l) (fixOf r.length 4 ++ r) : Nat)
def linkAll (l : Int) (rs : List (List UInt8)) : Int := rs.foldl linkMore l
def goesOn (b : List UInt8) (base link : Int) : Bool := readHeadOk b && decide (rhB b = base) && decide (rhL b = link)
def linkAfter (b : List UInt8) : Int := linkAll (ifI (readHeadOk b) (rhL b)) (scRecs b)
/-- all texts of rows are of at most n bytes -/
def textsLe (n : Nat) (rows : List (List C)) : Bool := (strs rows).all fun x => decide (x.length ≤ n)
def linkMoreSpec : Spec := fun cs => match cs with
  | [.int .i64 l, .str r] => some (decide (r.length ≤ 1048576), [.int .i64 (linkMore l r)])
  | _ => none
def linkAllSpec : Spec := fun cs => match cs with
  | [.int .i64 l, .sl rows] => some (decide (rows.length ≤ 1048576) && (rowsOk [.str] rows && textsLe 1048576 rows), [.int .i64 (linkAll l (strs rows))])
  | _ => none
def goesOnSpec : Spec := fun cs => match cs with
  | [.str b, .int .i64 base, .int .i64 link] => some (decide (b.length ≤ 1048576), [.bool (goesOn b base link)])
  | _ => none
def recordsInSpec : Spec := fun cs => match cs with
  | [.str b] => some (decide (b.length ≤ 1048576), [.sl ((scRecs b).map eStr)])
  | _ => none
def linkAfterSpec : Spec := fun cs => match cs with
  | [.str b] => some (decide (b.length ≤ 1048576), [.int .i64 (linkAfter b)])
  | _ => none
def H_linkAllF (l : Int) (r : List (List C)) (n i : Int) : St := st0 [(0, int64 l), (7, .l (.sl r)), (8, int64 n), (9, int64 i)]
def H_sLinkAfter (ok mk : Bool) (v s q l e : Int) (n : Nat) (r : List (List C)) (m : Nat) (o : List (List C)) (acc i : Int) : St := { slots := [(3, .l (.ptr 0 0)), (4, int64 acc), (5, int64 i)], heap := [(0, .box [.b ok, .i .i64 v, .i .i64 s, .i .i64 q, .i .i64 l, .ref 1 0 n, .ref 2 0 m, .i .i64 e, .b mk]), (1, .arr 1 r), (2, .arr 1 o)], next := 3, pins := [] }
def E_sLinkMore : Env := mkE [] [(231, (sg [pI, pS] [rI]), sumMoreSpec), (232, (sg [pI, pI] [rS]), fixSpec)]
def E_iLinkMore : Env := mkE [] [(246, (sg [pI, pS] [rI]), sumMoreSpec), (247, (sg [pI, pI] [rS]), fixSpec)]
def E_linkAllF : Env := mkE [(2, [0, 7, 8, 9])] [(206, (sg [pI, pS] [rI]), linkMoreSpec)]
def E_sGoesOn : Env := mkE [] [(195, (sg [pS] [rHead, rB]), readHeadSpec)]
def E_iGoesOn : Env := mkE [] [(203, (sg [pS] [rHead, rB]), readHeadSpec)]
def E_sRecordsIn : Env := mkE [] [(161, (sg [pS] [rScan]), scanSpec)]
def E_sLinkAfter : Env := mkE [(4, [3, 4, 5])] [(161, (sg [pS] [rScan]), scanSpec), (193, (sg [pI, pS] [rI]), linkMoreSpec)]

/-- a file of a chain: its base and bytes -/
abbrev Lk := Int × List UInt8
def chainGo (ns : List Nd) (es : List En) : Nat → Int → Int → List Lk
  | 0, _, _ => []
  | f + 1, base, sum =>
    if goesOn (textAt ns es base) base sum && decide ((scRecs (textAt ns es base)).length ≠ 0) then
      (base, textAt ns es base) :: chainGo ns es f (base + (scRecs (textAt ns es base)).length) (linkAll sum (scRecs (textAt ns es base)))
    else []
def chain (ns : List Nd) (es : List En) : List Lk := chainGo ns es 16 0 0
abbrev eLk (x : Lk) : List C := [.int .i64 x.1, .str x.2, .bool (readHeadOk x.2), .int .i64 (ifI (readHeadOk x.2) (rhV x.2)), .int .i64 (ifI (readHeadOk x.2) (rhS x.2)), .int .i64 (ifI (readHeadOk x.2) (rhB x.2)), .int .i64 (ifI (readHeadOk x.2) (rhL x.2)),
  .sl ((scRecs x.2).map eStr), .sl ((scOffs x.2).map eInt), .int .i64 (scEnd x.2), .bool (scMark x.2)]
def lkRows (l : List Lk) : List (List C) := l.map eLk
def lkBases (l : List Lk) : List (List C) := l.map fun x => eInt x.1
def lkRecs (l : List Lk) : List (List UInt8) := l.flatMap fun x => scRecs x.2
/-- nodes and entries as they should be, and no great text -/
def dkOk (ns es : List (List C)) : Bool := neOk ns es && (nds ns).all fun x => decide (x.text.length ≤ 1048576)
def linksSpec : Spec := fun cs => match cs with
  | [.sl ns, .sl es, .sl _, .sl _, .int .i64 _, .int .i64 _] => some (dkOk ns es, [.sl (lkRows (chain (nds ns) (ens es)))])
  | _ => none
def basesSpec : Spec := fun cs => match cs with
  | [.sl ns, .sl es, .sl _, .sl _, .int .i64 _, .int .i64 _] => some (dkOk ns es, [.sl (lkBases (chain (nds ns) (ens es)))])
  | _ => none
def rowOfSpec : Spec := fun cs => match cs with
  | [.sl ns, .sl es, .sl _, .sl _, .int .i64 _, .int .i64 _] => some (dkOk ns es, [.sl ((lkRecs (chain (nds ns) (ens es))).map eStr)])
  | _ => none
def logLenSpec : Spec := fun cs => match cs with
  | [.sl ns, .sl es, .sl _, .sl _, .int .i64 _, .int .i64 _] => some (dkOk ns es, [.int .i64 (lkRecs (chain (nds ns) (ens es))).length])
  | _ => none
abbrev dkBox (ns es os ss : List (List C)) (r x : Int) : Blk := .box [.sl ns, .sl es, .sl os, .sl ss, .i .i64 r, .i .i64 x]
def H_linksF (ns es os ss : List (List C)) (r x : Int) (n : Nat) (o : List (List C)) (base sum : Int) : St := { slots := [(1, .l (.ptr 0 0)), (3, .l (.ref 1 0 n)), (4, int64 base), (5, int64 sum)], heap := [(0, dkBox ns es os ss r x), (1, .arr 11 o)], next := 2, pins := [] }
def H_sChain (ns es os ss : List (List C)) (r x : Int) (n : Nat) (o : List (List C)) (base sum : Int) : St := { slots := [(1, .l (.ptr 0 0)), (3, .l (.ref 1 0 n)), (4, int64 base), (5, int64 sum)], heap := [(0, dkBox ns es os ss r x), (1, .arr 1 o)], next := 2, pins := [] }
def H_sRowOf (ns es os ss : List (List C)) (r x : Int) (n : Nat) (o : List (List C)) (m : Nat) (bs : List (List C)) (i : Int) : St := { slots := [(1, .l (.ptr 0 0)), (3, .l (.ref 1 0 n)), (4, .l (.ref 2 0 m)), (5, int64 i)], heap := [(0, dkBox ns es os ss r x), (1, .arr 1 o), (2, .arr 1 bs)], next := 3, pins := [] }
def H_iRowOf (n : Nat) (o : List (List C)) (m : Nat) (ls : List (List C)) (k i : Int) : St := { slots := [(3, .l (.ref 0 0 n)), (8, .l (.ref 1 0 m)), (9, int64 k), (10, int64 i)], heap := [(0, .arr 1 o), (1, .arr 11 ls)], next := 2, pins := [] }
def E_linksF : Env := mkE [(3, [1, 3, 4, 5])] [(164, (sg [pS] [rScan]), scanSpec), (163, (sg [pDisk, pI] [rS]), textAtSpec), (166, (sg [pI, pSl 9] [rI]), linkAllSpec), (165, (sg [pS, pI, pI] [rB]), goesOnSpec)]
def E_sChain : Env := mkE [(4, [1, 3, 4, 5])] [(47, (sg [pDisk, pI] [rS]), textAtSpec), (157, (sg [pS, pI, pI] [rB]), goesOnSpec), (152, (sg [pS] [rSl 9]), recordsInSpec), (158, (sg [pS] [rI]), linkAfterSpec)]
def E_sRowOf : Env := mkE [(4, [1, 3, 4, 5])] [(47, (sg [pDisk, pI] [rS]), textAtSpec), (152, (sg [pS] [rSl 9]), recordsInSpec), (100, (sg [pDisk] [rSl 3]), basesSpec)]
def E_iRowOf : Env := mkE [(3, [3, 8, 9, 10])] [(108, (⟨[pDisk], [rSl 79], true⟩), linksSpec)]

def E_iLogLen : Env := mkE [] [(155, (sg [pDisk] [rSl 9]), rowOfSpec)]

end
end Go.Proofs.YtggmbjbmklimdaaGreatDoor.V

namespace Go.Proofs.YtggmbjbmklimdaaGreatDoor.V
set_option maxRecDepth 100000
theorem sLinkMore_tree (H : List Pt → Nat → St → T (List C)) (l : Int) (r : List UInt8) : (vBodyL E_sLinkMore noInl (sg [pI, pS] [rI]) Tryz.f193 H [C.int IntKind.i64 l, C.str r]).eval =
 ((.must (decide ((-9223372036854775808 : Int) ≤ (↑r.length : Int)) && decide ((↑r.length : Int) ≤ (9223372036854775807 : Int)))
 (.must (decide ((fixOf (↑r.length : Int) (4 : Int)).length + r.length ≤ (9223372036854775807 : Nat)))
  (.must (decide ((fixOf (↑r.length : Int) (4 : Int) ++ r).length ≤ (281474976710656 : Nat)))
   (.ret [C.int IntKind.i64 (Int.ofNat (crcMore (low32 l) (fixOf (↑r.length : Int) (4 : Int) ++ r)))])))) : T (List C)).eval := evalEq (by kernel_rfl)
theorem iLinkMore_tree (H : List Pt → Nat → St → T (List C)) (l : Int) (r : List UInt8) : (vBodyL E_iLinkMore noInl (sg [pI, pS] [rI]) Tryz.f206 H [C.int IntKind.i64 l, C.str r]).eval =
 ((.must (decide ((-9223372036854775808 : Int) ≤ (↑r.length : Int)) && decide ((↑r.length : Int) ≤ (9223372036854775807 : Int)))
 (.must (decide ((fixOf (↑r.length : Int) (4 : Int)).length + r.length ≤ (9223372036854775807 : Nat)))
  (.must (decide ((fixOf (↑r.length : Int) (4 : Int) ++ r).length ≤ (281474976710656 : Nat)))
   (.ret [C.int IntKind.i64 (Int.ofNat (crcMore (low32 l) (fixOf (↑r.length : Int) (4 : Int) ++ r)))])))) : T (List C)).eval := evalEq (by kernel_rfl)
theorem linkAllF_tree (H : List Pt → Nat → St → T (List C)) (l : Int) (r : List (List C)) : (vBodyL E_linkAllF noInl (sg [pI, pSl (9 : TypeId)] [rI]) Tryz.f166 H [C.int IntKind.i64 l, C.sl r]).eval =
 ((H [Pt.r, Pt.l, Pt.r, Pt.b] (9223372036854775808 : Nat) (H_linkAllF (l) (r) ((↑r.length : Int)) ((0 : Int)))) : T (List C)).eval := evalEq (by kernel_rfl)
theorem sGoesOn_tree (H : List Pt → Nat → St → T (List C)) (b : List UInt8) (x : Int) (l : Int) : (vBodyL E_sGoesOn noInl (sg [pS, pI, pI] [rB]) Tryz.f157 H [C.str b, C.int IntKind.i64 x, C.int IntKind.i64 l]).eval =
 ((.must (decide (b.length ≤ (281474976710656 : Nat)))
 (.ask (readHeadOk b)
  (.ask (decide (ifI (readHeadOk b) (rhB b) = x))
   (.ask (decide (ifI (readHeadOk b) (rhL b) = l))
    (.ret [C.bool true])
    (.ret [C.bool false]))
   (.ret [C.bool false]))
  (.ret [C.bool false]))) : T (List C)).eval := evalEq (by kernel_rfl)
theorem iGoesOn_tree (H : List Pt → Nat → St → T (List C)) (b : List UInt8) (x : Int) (l : Int) : (vBodyL E_iGoesOn noInl (sg [pS, pI, pI] [rB]) Tryz.f165 H [C.str b, C.int IntKind.i64 x, C.int IntKind.i64 l]).eval =
 ((.must (decide (b.length ≤ (281474976710656 : Nat)))
 (.ask (readHeadOk b)
  (.ask (decide (ifI (readHeadOk b) (rhB b) = x))
   (.ask (decide (ifI (readHeadOk b) (rhL b) = l))
    (.ret [C.bool true])
    (.ret [C.bool false]))
   (.ret [C.bool false]))
  (.ret [C.bool false]))) : T (List C)).eval := evalEq (by kernel_rfl)
theorem sRecordsIn_tree (H : List Pt → Nat → St → T (List C)) (b : List UInt8) : (vBodyL E_sRecordsIn noInl (sg [pS] [rSl (9 : TypeId)]) Tryz.f152 H [C.str b]).eval =
 ((.must (decide (b.length ≤ (1048576 : Nat)))
 (.must (decide ((0 : Nat) < (1 : Nat)) && true &&
      (decide ((0 : Nat) < (1 : Nat)) && true &&
        (decide ((0 : Nat) < (1 : Nat)) && true &&
          (decide ((0 : Nat) < (1 : Nat)) && true &&
            (decide ((0 : Nat) < (1 : Nat)) && true &&
              ((true && (List.map eStr (scRecs b)).all fun row => decide (row.length = (1 : Nat))) &&
                ((true && (List.map eInt (scOffs b)).all fun row => decide (row.length = (1 : Nat))) &&
                  (decide ((0 : Nat) < (1 : Nat)) && true && (decide ((0 : Nat) < (1 : Nat)) && true && true)))))))) &&
    true &&
  true)
  (.must (decide ((List.map eStr (scRecs b)).length = (List.map eStr (scRecs b)).length) &&
        (false || (List.map eStr (scRecs b)).all fun r => r.all C.flat) &&
      true &&
    true &&
  true)
   (.ret [C.sl (List.map eStr (scRecs b))])))) : T (List C)).eval := evalEq (by kernel_rfl)
theorem sLinkAfter_tree (H : List Pt → Nat → St → T (List C)) (b : List UInt8) : (vBodyL E_sLinkAfter noInl (sg [pS] [rI]) Tryz.f158 H [C.str b]).eval =
 ((.must (decide (b.length ≤ (1048576 : Nat)))
 (.must (decide ((0 : Nat) < (1 : Nat)) && true &&
      (decide ((0 : Nat) < (1 : Nat)) && true &&
        (decide ((0 : Nat) < (1 : Nat)) && true &&
          (decide ((0 : Nat) < (1 : Nat)) && true &&
            (decide ((0 : Nat) < (1 : Nat)) && true &&
              ((true && (List.map eStr (scRecs b)).all fun row => decide (row.length = (1 : Nat))) &&
                ((true && (List.map eInt (scOffs b)).all fun row => decide (row.length = (1 : Nat))) &&
                  (decide ((0 : Nat) < (1 : Nat)) && true && (decide ((0 : Nat) < (1 : Nat)) && true && true)))))))) &&
    true &&
  true)
  (H [Pt.r, Pt.r, Pt.r, Pt.l, Pt.r, Pt.b] (9223372036854775808 : Nat) (H_sLinkAfter (readHeadOk b) (scMark b) (ifI (readHeadOk b) (rhV b)) (ifI (readHeadOk b) (rhS b)) (ifI (readHeadOk b) (rhB b)) (ifI (readHeadOk b) (rhL b)) (scEnd b) ((List.map eStr (scRecs b)).length) (List.map eStr (scRecs b)) ((List.map eInt (scOffs b)).length) (List.map eInt (scOffs b)) (ifI (readHeadOk b) (rhL b)) ((0 : Int)))))) : T (List C)).eval := evalEq (by kernel_rfl)
theorem linkAllF_round0 (H : List Pt → Nat → St → T (List C)) (l : Int) (r : List (List C)) (n : Int) (i : Int) (k : Nat) : (vRound E_linkAllF noInl (sg [pI, pSl (9 : TypeId)] [rI]) Tryz.f166 H [Pt.r, Pt.l, Pt.r, Pt.b] k (H_linkAllF l r n i)).eval =
 ((.ask (decide (i < n))
 (.must (decide ((0 : Int) ≤ i) && decide (i < (↑r.length : Int)) && decide ((r.getD i.toNat []).length = (1 : Nat)))
  (.must (decide ((0 : Nat) < (r.getD i.toNat []).length) &&
    C.is K.str ((r.getD i.toNat []).getD (0 : Nat) (C.fn (0 : FuncId) [])) &&
  true)
   (.must (decide (((r.getD i.toNat []).getD (0 : Nat) (C.fn (0 : FuncId) [])).toStr.length ≤ (1048576 : Nat)))
    (H [Pt.r, Pt.l, Pt.r, Pt.b] k (H_linkAllF (linkMore l ((r.getD i.toNat []).getD (0 : Nat) (C.fn (0 : FuncId) [])).toStr) (r) (n) (IntKind.i64.wrap (i + (1 : Int))))))))
 (.ret [C.int IntKind.i64 l])) : T (List C)).eval := evalEq (by kernel_rfl)
theorem sLinkAfter_round0 (H : List Pt → Nat → St → T (List C)) (ok : Bool) (mk : Bool) (v : Int) (s : Int) (q : Int) (l : Int) (e : Int) (n : Nat) (r : List (List C)) (m2 : Nat) (o : List (List C)) (acc : Int) (i : Int) (k : Nat) : (vRound E_sLinkAfter noInl (sg [pS] [rI]) Tryz.f158 H [Pt.r, Pt.r, Pt.r, Pt.l, Pt.r, Pt.b] k
  (H_sLinkAfter ok mk v s q l e n r m2 o acc i)).eval =
 ((.ask (decide (i < (↑n : Int)))
 (.must (decide ((0 : Int) ≤ i) && decide (i < (↑n : Int)))
  (.must (decide ((0 : Nat) + i.toNat < r.length) &&
  (decide ((0 : Nat) < (r.getD ((0 : Nat) + i.toNat) []).length) &&
      C.is K.str ((r.getD ((0 : Nat) + i.toNat) []).getD (0 : Nat) (C.fn (0 : FuncId) [])) &&
    true))
   (.must (decide (((r.getD ((0 : Nat) + i.toNat) []).getD (0 : Nat) (C.fn (0 : FuncId) [])).toStr.length ≤ (1048576 : Nat)))
    (H [Pt.r, Pt.r, Pt.r, Pt.l, Pt.r, Pt.b] k (H_sLinkAfter (ok) (mk) (v) (s) (q) (l) (e) (n) (r) (m2) (o) (linkMore acc ((r.getD ((0 : Nat) + i.toNat) []).getD (0 : Nat) (C.fn (0 : FuncId) [])).toStr) (IntKind.i64.wrap (i + (1 : Int))))))))
 (.ret [C.int IntKind.i64 acc])) : T (List C)).eval := evalEq (by kernel_rfl)
theorem linksF_tree (H : List Pt → Nat → St → T (List C)) (ns : List (List C)) (es : List (List C)) (os : List (List C)) (ss : List (List C)) (r : Int) (x : Int) : (vBodyL E_linksF noInl { params := [pDisk], results := [rSl (79 : TypeId)], nested := true } Tryz.f108 H
  [C.sl ns, C.sl es, C.sl os, C.sl ss, C.int IntKind.i64 r, C.int IntKind.i64 x]).eval =
 ((H [Pt.r, Pt.r, Pt.r, Pt.l, Pt.b] (9223372036854775808 : Nat) (H_linksF (ns) (es) (os) (ss) (r) (x) ((0 : Nat)) ([]) ((0 : Int)) ((0 : Int)))) : T (List C)).eval := evalEq (by kernel_rfl)
theorem sChain_tree (H : List Pt → Nat → St → T (List C)) (ns : List (List C)) (es : List (List C)) (os : List (List C)) (ss : List (List C)) (r : Int) (x : Int) : (vBodyL E_sChain noInl (sg [pDisk] [rSl (3 : TypeId)]) Tryz.f100 H
  [C.sl ns, C.sl es, C.sl os, C.sl ss, C.int IntKind.i64 r, C.int IntKind.i64 x]).eval =
 ((H [Pt.r, Pt.r, Pt.r, Pt.r, Pt.l, Pt.b] (9223372036854775808 : Nat) (H_sChain (ns) (es) (os) (ss) (r) (x) ((0 : Nat)) ([]) ((0 : Int)) ((0 : Int)))) : T (List C)).eval := evalEq (by kernel_rfl)
theorem sRowOf_tree (H : List Pt → Nat → St → T (List C)) (ns : List (List C)) (es : List (List C)) (os : List (List C)) (ss : List (List C)) (r : Int) (x : Int) : (vBodyL E_sRowOf noInl (sg [pDisk] [rSl (9 : TypeId)]) Tryz.f91 H
  [C.sl ns, C.sl es, C.sl os, C.sl ss, C.int IntKind.i64 r, C.int IntKind.i64 x]).eval =
 ((.must (dkOk ns es)
 (.must ((true && (lkBases (chain (nds ns) (ens es))).all fun row => decide (row.length = (1 : Nat))) && true && true && true)
  (H [Pt.r, Pt.r, Pt.r, Pt.l, Pt.r, Pt.b] (9223372036854775808 : Nat) (H_sRowOf (ns) (es) (os) (ss) (r) (x) ((0 : Nat)) ([]) ((lkBases (chain (nds ns) (ens es))).length) (lkBases (chain (nds ns) (ens es))) ((0 : Int)))))) : T (List C)).eval := evalEq (by kernel_rfl)
theorem iRowOf_tree (H : List Pt → Nat → St → T (List C)) (ns : List (List C)) (es : List (List C)) (os : List (List C)) (ss : List (List C)) (r : Int) (x : Int) : (vBodyL E_iRowOf noInl (sg [pDisk] [rSl (9 : TypeId)]) Tryz.f155 H
  [C.sl ns, C.sl es, C.sl os, C.sl ss, C.int IntKind.i64 r, C.int IntKind.i64 x]).eval =
 ((.must (dkOk ns es)
 (.must ((true && (lkRows (chain (nds ns) (ens es))).all fun row => decide (row.length = (11 : Nat))) && true && true && true)
  (H [Pt.r, Pt.r, Pt.l, Pt.r, Pt.b] (9223372036854775808 : Nat) (H_iRowOf ((0 : Nat)) ([]) ((lkRows (chain (nds ns) (ens es))).length) (lkRows (chain (nds ns) (ens es))) ((↑(lkRows (chain (nds ns) (ens es))).length : Int)) ((0 : Int)))))) : T (List C)).eval := evalEq (by kernel_rfl)
theorem linksF_round0 (H : List Pt → Nat → St → T (List C)) (ns : List (List C)) (es : List (List C)) (os : List (List C)) (ss : List (List C)) (r : Int) (x : Int) (n : Nat) (o : List (List C)) (base : Int) (sum : Int) (k : Nat) : (vRound E_linksF noInl { params := [pDisk], results := [rSl (79 : TypeId)], nested := true } Tryz.f108 H
  [Pt.r, Pt.r, Pt.r, Pt.l, Pt.b] k (H_linksF ns es os ss r x n o base sum)).eval =
 ((.ask (decide ((↑n : Int) < (16 : Int)))
 (.must (neOk ns es)
  (.must (decide ((textAt (nds ns) (ens es) base).length ≤ (1048576 : Nat)))
   (.must (decide ((0 : Nat) < (1 : Nat)) && true &&
      (decide ((0 : Nat) < (1 : Nat)) && true &&
        (decide ((0 : Nat) < (1 : Nat)) && true &&
          (decide ((0 : Nat) < (1 : Nat)) && true &&
            (decide ((0 : Nat) < (1 : Nat)) && true &&
              ((true &&
                  (List.map eStr (scRecs (textAt (nds ns) (ens es) base))).all fun row =>
                    decide (row.length = (1 : Nat))) &&
                ((true &&
                    (List.map eInt (scOffs (textAt (nds ns) (ens es) base))).all fun row =>
                      decide (row.length = (1 : Nat))) &&
                  (decide ((0 : Nat) < (1 : Nat)) && true && (decide ((0 : Nat) < (1 : Nat)) && true && true)))))))) &&
    true &&
  true)
    (.must (decide ((textAt (nds ns) (ens es) base).length ≤ (1048576 : Nat)))
     (.ask (goesOn (textAt (nds ns) (ens es) base) base sum)
      (.ask (decide ((↑(List.map eStr (scRecs (textAt (nds ns) (ens es) base))).length : Int) = (0 : Int)))
       (.must (decide (n = o.length) && (true || o.all fun r => r.all C.flat) && true && true && true)
        (.ret [C.sl o]))
       (.must (decide (n = o.length) && roomy (o.length + (1 : Nat)) (128 : Nat) &&
  (decide
      (((((((((((Nat.add (1 : Nat) (0 : Nat)).succ.add (0 : Nat)).succ.add (0 : Nat)).succ.add
                                                (0 : Nat)).succ.add
                                          (0 : Nat)).succ.add
                                    (0 : Nat)).succ.add
                              (0 : Nat)).succ.add
                        (0 : Nat)).succ.add
                  (0 : Nat)).succ.add
            (0 : Nat)).succ =
        (11 : Nat)) &&
    true))
        (.must (decide
    ((List.take (List.map eStr (scRecs (textAt (nds ns) (ens es) base))).length
          (List.map eStr (scRecs (textAt (nds ns) (ens es) base)))).length ≤
      (1048576 : Nat)) &&
  (rowsOk [K.str]
      (List.take (List.map eStr (scRecs (textAt (nds ns) (ens es) base))).length
        (List.map eStr (scRecs (textAt (nds ns) (ens es) base)))) &&
    textsLe (1048576 : Nat)
      (List.take (List.map eStr (scRecs (textAt (nds ns) (ens es) base))).length
        (List.map eStr (scRecs (textAt (nds ns) (ens es) base))))))
         (H [Pt.r, Pt.r, Pt.r, Pt.l, Pt.b] k (H_linksF (ns) (es) (os) (ss) (r) (x) (o.length + (1 : Nat)) (o.append
  [[C.int IntKind.i64 base, C.str (textAt (nds ns) (ens es) base), C.bool (readHeadOk (textAt (nds ns) (ens es) base)),
      C.int IntKind.i64 (ifI (readHeadOk (textAt (nds ns) (ens es) base)) (rhV (textAt (nds ns) (ens es) base))),
      C.int IntKind.i64 (ifI (readHeadOk (textAt (nds ns) (ens es) base)) (rhS (textAt (nds ns) (ens es) base))),
      C.int IntKind.i64 (ifI (readHeadOk (textAt (nds ns) (ens es) base)) (rhB (textAt (nds ns) (ens es) base))),
      C.int IntKind.i64 (ifI (readHeadOk (textAt (nds ns) (ens es) base)) (rhL (textAt (nds ns) (ens es) base))),
      C.sl
        (List.take (List.map eStr (scRecs (textAt (nds ns) (ens es) base))).length
          (List.map eStr (scRecs (textAt (nds ns) (ens es) base)))),
      C.sl
        (List.take (List.map eInt (scOffs (textAt (nds ns) (ens es) base))).length
          (List.map eInt (scOffs (textAt (nds ns) (ens es) base)))),
      C.int IntKind.i64 (scEnd (textAt (nds ns) (ens es) base)), C.bool (scMark (textAt (nds ns) (ens es) base))]]) (IntKind.i64.wrap (base + (↑(List.map eStr (scRecs (textAt (nds ns) (ens es) base))).length : Int))) (linkAll sum
  (strs
    (List.take (List.map eStr (scRecs (textAt (nds ns) (ens es) base))).length
      (List.map eStr (scRecs (textAt (nds ns) (ens es) base)))))))))))
      (.must (decide (n = o.length) && (true || o.all fun r => r.all C.flat) && true && true && true)
       (.ret [C.sl o])))))))
 (.must (decide (n = o.length) && (true || o.all fun r => r.all C.flat) && true && true && true)
  (.ret [C.sl o]))) : T (List C)).eval := evalEq (by kernel_rfl)
theorem sChain_round0 (H : List Pt → Nat → St → T (List C)) (ns : List (List C)) (es : List (List C)) (os : List (List C)) (ss : List (List C)) (r : Int) (x : Int) (n : Nat) (o : List (List C)) (base : Int) (sum : Int) (k : Nat) : (vRound E_sChain noInl (sg [pDisk] [rSl (3 : TypeId)]) Tryz.f100 H [Pt.r, Pt.r, Pt.r, Pt.r, Pt.l, Pt.b] k
  (H_sChain ns es os ss r x n o base sum)).eval =
 ((.ask (decide ((↑n : Int) < (16 : Int)))
 (.must (neOk ns es)
  (.must (decide ((textAt (nds ns) (ens es) base).length ≤ (1048576 : Nat)))
   (.must ((true && (List.map eStr (scRecs (textAt (nds ns) (ens es) base))).all fun row => decide (row.length = (1 : Nat))) &&
      true &&
    true &&
  true)
    (.ask (decide ((↑(List.map eStr (scRecs (textAt (nds ns) (ens es) base))).length : Int) = (0 : Int)))
     (.must (decide (n = o.length) && (false || o.all fun r => r.all C.flat) && true && true && true)
      (.ret [C.sl o]))
     (.must (decide ((textAt (nds ns) (ens es) base).length ≤ (1048576 : Nat)))
      (.ask (goesOn (textAt (nds ns) (ens es) base) base sum)
       (.must (decide (n = o.length) && roomy (o.length + (1 : Nat)) (8 : Nat) && (decide ((1 : Nat) = (1 : Nat)) && true))
        (.must (decide ((textAt (nds ns) (ens es) base).length ≤ (1048576 : Nat)))
         (H [Pt.r, Pt.r, Pt.r, Pt.r, Pt.l, Pt.b] k (H_sChain (ns) (es) (os) (ss) (r) (x) (o.length + (1 : Nat)) (o.append [[C.int IntKind.i64 base]]) (IntKind.i64.wrap (base + (↑(List.map eStr (scRecs (textAt (nds ns) (ens es) base))).length : Int))) (linkAfter (textAt (nds ns) (ens es) base))))))
       (.must (decide (n = o.length) && (false || o.all fun r => r.all C.flat) && true && true && true)
        (.ret [C.sl o]))))))))
 (.must (decide (n = o.length) && (false || o.all fun r => r.all C.flat) && true && true && true)
  (.ret [C.sl o]))) : T (List C)).eval := evalEq (by kernel_rfl)
theorem sRowOf_round0 (H : List Pt → Nat → St → T (List C)) (ns : List (List C)) (es : List (List C)) (os : List (List C)) (ss : List (List C)) (r : Int) (x : Int) (n : Nat) (o : List (List C)) (m2 : Nat) (bs : List (List C)) (i : Int) (k : Nat) : (vRound E_sRowOf noInl (sg [pDisk] [rSl (9 : TypeId)]) Tryz.f91 H [Pt.r, Pt.r, Pt.r, Pt.l, Pt.r, Pt.b] k
  (H_sRowOf ns es os ss r x n o m2 bs i)).eval =
 ((.ask (decide (i < (↑m2 : Int)))
 (.must (decide ((0 : Int) ≤ i) && decide (i < (↑m2 : Int)))
  (.must (decide ((0 : Nat) + i.toNat < bs.length) &&
  (decide ((0 : Nat) < (bs.getD ((0 : Nat) + i.toNat) []).length) &&
      C.is (K.int IntKind.i64) ((bs.getD ((0 : Nat) + i.toNat) []).getD (0 : Nat) (C.fn (0 : FuncId) [])) &&
    true))
   (.must (neOk ns es)
    (.must (decide
  ((textAt (nds ns) (ens es) ((bs.getD ((0 : Nat) + i.toNat) []).getD (0 : Nat) (C.fn (0 : FuncId) [])).toInt).length ≤
    (1048576 : Nat)))
     (.must ((true &&
        (List.map eStr
              (scRecs
                (textAt (nds ns) (ens es)
                  ((bs.getD ((0 : Nat) + i.toNat) []).getD (0 : Nat) (C.fn (0 : FuncId) [])).toInt))).all
          fun row => decide (row.length = (1 : Nat))) &&
      true &&
    true &&
  true)
      (.must (decide (n = o.length) &&
    roomy
      (o.length +
        (List.take
            (List.map eStr
                (scRecs
                  (textAt (nds ns) (ens es)
                    ((bs.getD ((0 : Nat) + i.toNat) []).getD (0 : Nat) (C.fn (0 : FuncId) [])).toInt))).length
            (List.map eStr
              (scRecs
                (textAt (nds ns) (ens es)
                  ((bs.getD ((0 : Nat) + i.toNat) []).getD (0 : Nat) (C.fn (0 : FuncId) [])).toInt)))).length)
      (16 : Nat) &&
  (List.take
        (List.map eStr
            (scRecs
              (textAt (nds ns) (ens es)
                ((bs.getD ((0 : Nat) + i.toNat) []).getD (0 : Nat) (C.fn (0 : FuncId) [])).toInt))).length
        (List.map eStr
          (scRecs
            (textAt (nds ns) (ens es)
              ((bs.getD ((0 : Nat) + i.toNat) []).getD (0 : Nat) (C.fn (0 : FuncId) [])).toInt)))).all
    fun r => decide (r.length = (1 : Nat)))
       (H [Pt.r, Pt.r, Pt.r, Pt.l, Pt.r, Pt.b] k (H_sRowOf (ns) (es) (os) (ss) (r) (x) (o.length +
  (List.take
      (List.map eStr
          (scRecs
            (textAt (nds ns) (ens es)
              ((bs.getD ((0 : Nat) + i.toNat) []).getD (0 : Nat) (C.fn (0 : FuncId) [])).toInt))).length
      (List.map eStr
        (scRecs
          (textAt (nds ns) (ens es)
            ((bs.getD ((0 : Nat) + i.toNat) []).getD (0 : Nat) (C.fn (0 : FuncId) [])).toInt)))).length) (o.append
  (List.take
    (List.map eStr
        (scRecs
          (textAt (nds ns) (ens es)
            ((bs.getD ((0 : Nat) + i.toNat) []).getD (0 : Nat) (C.fn (0 : FuncId) [])).toInt))).length
    (List.map eStr
      (scRecs
        (textAt (nds ns) (ens es) ((bs.getD ((0 : Nat) + i.toNat) []).getD (0 : Nat) (C.fn (0 : FuncId) [])).toInt))))) (m2) (bs) (IntKind.i64.wrap (i + (1 : Int)))))))))))
 (.must (decide (n = o.length) && (false || o.all fun r => r.all C.flat) && true && true && true)
  (.ret [C.sl o]))) : T (List C)).eval := evalEq (by kernel_rfl)
theorem iRowOf_round0 (H : List Pt → Nat → St → T (List C)) (n : Nat) (o : List (List C)) (m2 : Nat) (ls : List (List C)) (k2 : Int) (i : Int) (k : Nat) : (vRound E_iRowOf noInl (sg [pDisk] [rSl (9 : TypeId)]) Tryz.f155 H [Pt.r, Pt.r, Pt.l, Pt.r, Pt.b] k
  (H_iRowOf n o m2 ls k2 i)).eval =
 ((.ask (decide (i < k2))
 (.must (decide ((0 : Int) ≤ i) && decide (i < (↑m2 : Int)))
  (.must (decide ((0 : Nat) + i.toNat < ls.length) &&
  (decide ((0 : Nat) < (ls.getD ((0 : Nat) + i.toNat) []).length) &&
      C.is (K.int IntKind.i64) ((ls.getD ((0 : Nat) + i.toNat) []).getD (0 : Nat) (C.fn (0 : FuncId) [])) &&
    (decide ((0 : Nat) + (1 : Nat) < (ls.getD ((0 : Nat) + i.toNat) []).length) &&
        C.is K.str ((ls.getD ((0 : Nat) + i.toNat) []).getD ((0 : Nat) + (1 : Nat)) (C.fn (0 : FuncId) [])) &&
      (decide ((0 : Nat) + (1 : Nat) + (1 : Nat) < (ls.getD ((0 : Nat) + i.toNat) []).length) &&
          C.is K.bool
            ((ls.getD ((0 : Nat) + i.toNat) []).getD ((0 : Nat) + (1 : Nat) + (1 : Nat)) (C.fn (0 : FuncId) [])) &&
        (decide ((0 : Nat) + (1 : Nat) + (1 : Nat) + (1 : Nat) < (ls.getD ((0 : Nat) + i.toNat) []).length) &&
            C.is (K.int IntKind.i64)
              ((ls.getD ((0 : Nat) + i.toNat) []).getD ((0 : Nat) + (1 : Nat) + (1 : Nat) + (1 : Nat))
                (C.fn (0 : FuncId) [])) &&
          (decide
                ((0 : Nat) + (1 : Nat) + (1 : Nat) + (1 : Nat) + (1 : Nat) <
                  (ls.getD ((0 : Nat) + i.toNat) []).length) &&
              C.is (K.int IntKind.i64)
                ((ls.getD ((0 : Nat) + i.toNat) []).getD ((0 : Nat) + (1 : Nat) + (1 : Nat) + (1 : Nat) + (1 : Nat))
                  (C.fn (0 : FuncId) [])) &&
            (decide
                  ((0 : Nat) + (1 : Nat) + (1 : Nat) + (1 : Nat) + (1 : Nat) + (1 : Nat) <
                    (ls.getD ((0 : Nat) + i.toNat) []).length) &&
                C.is (K.int IntKind.i64)
                  ((ls.getD ((0 : Nat) + i.toNat) []).getD
                    ((0 : Nat) + (1 : Nat) + (1 : Nat) + (1 : Nat) + (1 : Nat) + (1 : Nat)) (C.fn (0 : FuncId) [])) &&
              (decide
                    ((0 : Nat) + (1 : Nat) + (1 : Nat) + (1 : Nat) + (1 : Nat) + (1 : Nat) + (1 : Nat) <
                      (ls.getD ((0 : Nat) + i.toNat) []).length) &&
                  C.is (K.int IntKind.i64)
                    ((ls.getD ((0 : Nat) + i.toNat) []).getD
                      ((0 : Nat) + (1 : Nat) + (1 : Nat) + (1 : Nat) + (1 : Nat) + (1 : Nat) + (1 : Nat))
                      (C.fn (0 : FuncId) [])) &&
                (decide
                      ((0 : Nat) + (1 : Nat) + (1 : Nat) + (1 : Nat) + (1 : Nat) + (1 : Nat) + (1 : Nat) + (1 : Nat) <
                        (ls.getD ((0 : Nat) + i.toNat) []).length) &&
                    C.is (K.slice (9 : TypeId))
                      ((ls.getD ((0 : Nat) + i.toNat) []).getD
                        ((0 : Nat) + (1 : Nat) + (1 : Nat) + (1 : Nat) + (1 : Nat) + (1 : Nat) + (1 : Nat) + (1 : Nat))
                        (C.fn (0 : FuncId) [])) &&
                  (decide
                        ((0 : Nat) + (1 : Nat) + (1 : Nat) + (1 : Nat) + (1 : Nat) + (1 : Nat) + (1 : Nat) + (1 : Nat) +
                            (1 : Nat) <
                          (ls.getD ((0 : Nat) + i.toNat) []).length) &&
                      C.is (K.slice (3 : TypeId))
                        ((ls.getD ((0 : Nat) + i.toNat) []).getD
                          ((0 : Nat) + (1 : Nat) + (1 : Nat) + (1 : Nat) + (1 : Nat) + (1 : Nat) + (1 : Nat) +
                              (1 : Nat) +
                            (1 : Nat))
                          (C.fn (0 : FuncId) [])) &&
                    (decide
                          ((0 : Nat) + (1 : Nat) + (1 : Nat) + (1 : Nat) + (1 : Nat) + (1 : Nat) + (1 : Nat) +
                                  (1 : Nat) +
                                (1 : Nat) +
                              (1 : Nat) <
                            (ls.getD ((0 : Nat) + i.toNat) []).length) &&
                        C.is (K.int IntKind.i64)
                          ((ls.getD ((0 : Nat) + i.toNat) []).getD
                            ((0 : Nat) + (1 : Nat) + (1 : Nat) + (1 : Nat) + (1 : Nat) + (1 : Nat) + (1 : Nat) +
                                  (1 : Nat) +
                                (1 : Nat) +
                              (1 : Nat))
                            (C.fn (0 : FuncId) [])) &&
                      (decide
                            ((0 : Nat) + (1 : Nat) + (1 : Nat) + (1 : Nat) + (1 : Nat) + (1 : Nat) + (1 : Nat) +
                                      (1 : Nat) +
                                    (1 : Nat) +
                                  (1 : Nat) +
                                (1 : Nat) <
                              (ls.getD ((0 : Nat) + i.toNat) []).length) &&
                          C.is K.bool
                            ((ls.getD ((0 : Nat) + i.toNat) []).getD
                              ((0 : Nat) + (1 : Nat) + (1 : Nat) + (1 : Nat) + (1 : Nat) + (1 : Nat) + (1 : Nat) +
                                      (1 : Nat) +
                                    (1 : Nat) +
                                  (1 : Nat) +
                                (1 : Nat))
                              (C.fn (0 : FuncId) [])) &&
                        true))))))))))))
   (.must (decide (n = o.length) &&
    roomy
      (o.length +
        ((ls.getD ((0 : Nat) + i.toNat) []).getD
              ((0 : Nat) + (1 : Nat) + (1 : Nat) + (1 : Nat) + (1 : Nat) + (1 : Nat) + (1 : Nat) + (1 : Nat))
              (C.fn (0 : FuncId) [])).toRows.length)
      (16 : Nat) &&
  ((ls.getD ((0 : Nat) + i.toNat) []).getD
          ((0 : Nat) + (1 : Nat) + (1 : Nat) + (1 : Nat) + (1 : Nat) + (1 : Nat) + (1 : Nat) + (1 : Nat))
          (C.fn (0 : FuncId) [])).toRows.all
    fun r => decide (r.length = (1 : Nat)))
    (H [Pt.r, Pt.r, Pt.l, Pt.r, Pt.b] k (H_iRowOf (o.length +
  ((ls.getD ((0 : Nat) + i.toNat) []).getD
        ((0 : Nat) + (1 : Nat) + (1 : Nat) + (1 : Nat) + (1 : Nat) + (1 : Nat) + (1 : Nat) + (1 : Nat))
        (C.fn (0 : FuncId) [])).toRows.length) (o.append
  ((ls.getD ((0 : Nat) + i.toNat) []).getD
      ((0 : Nat) + (1 : Nat) + (1 : Nat) + (1 : Nat) + (1 : Nat) + (1 : Nat) + (1 : Nat) + (1 : Nat))
      (C.fn (0 : FuncId) [])).toRows) (m2) (ls) (k2) (IntKind.i64.wrap (i + (1 : Int))))))))
 (.must (decide (n = o.length) && (false || o.all fun r => r.all C.flat) && true && true && true)
  (.ret [C.sl o]))) : T (List C)).eval := evalEq (by kernel_rfl)
theorem iLogLen_tree (H : List Pt → Nat → St → T (List C)) (ns : List (List C)) (es : List (List C)) (os : List (List C)) (ss : List (List C)) (r : Int) (x : Int) : (vBodyL E_iLogLen noInl (sg [pDisk] [rI]) Tryz.f95 H
  [C.sl ns, C.sl es, C.sl os, C.sl ss, C.int IntKind.i64 r, C.int IntKind.i64 x]).eval =
 ((.must (dkOk ns es)
 (.must ((true && (List.map eStr (lkRecs (chain (nds ns) (ens es)))).all fun row => decide (row.length = (1 : Nat))) && true &&
    true &&
  true)
  (.ret [C.int IntKind.i64 (↑(List.map eStr (lkRecs (chain (nds ns) (ens es)))).length : Int)]))) : T (List C)).eval := evalEq (by kernel_rfl)
end Go.Proofs.YtggmbjbmklimdaaGreatDoor.V

namespace Go.Proofs.YtggmbjbmklimdaaGreatDoor.V

theorem scanGo_facts (v p : Int) (b : List UInt8) : ∀ (f : Nat) (k e : Int) (rs : List (List UInt8)) (os : List Int), (rs.length : Int) ≤ e → e ≤ b.length → rs.length = os.length → (∀ r ∈ rs, r.length ≤ 60) →
    ((scanGo v p b f k e rs os).1.length : Int) ≤ b.length ∧ (scanGo v p b f k e rs os).1.length = (scanGo v p b f k e rs os).2.1.length ∧ ∀ r ∈ (scanGo v p b f k e rs os).1, r.length ≤ 60 := by
  intro f
  induction f with
  | zero => intro k e rs os h1 h2 h3 h4; exact ⟨by simp only [scanGo]; omega, h3, h4⟩
  | succ f ih =>
    intro k e rs os h1 h2 h3 h4
    simp only [scanGo]
    split
    · exact ⟨(show (rs.length : Int) ≤ b.length by omega), h3, h4⟩
    · split
      · rename_i hok
        obtain ⟨g1, g2, g3⟩ := rfOk_end _ _ _ _ hok
        refine ih _ _ _ _ (by simp; omega) g2 (by simp [h3]) fun r hr => ?_
        rcases List.mem_append.1 hr with hr | hr
        · exact h4 r hr
        · obtain rfl := List.mem_singleton.1 hr
          unfold rfRec
          rw [if_pos hok]
          unfold rfOk at hok
          simp only [Bool.and_eq_true, decide_eq_true_eq] at hok
          unfold rfText
          simp
          omega
      · exact ⟨(show (rs.length : Int) ≤ b.length by omega), h3, h4⟩
theorem scan_facts (b : List UInt8) : (scRecs b).length ≤ b.length ∧ (scRecs b).length = (scOffs b).length ∧ ∀ r ∈ scRecs b, r.length ≤ 60 := by
  unfold scRecs scOffs scanOf
  by_cases h : readHeadOk b = true
  · rw [if_pos h]
    have h24 : 24 ≤ b.length := by
      unfold readHeadOk at h
      simp only [Bool.and_eq_true, decide_eq_true_eq] at h
      exact h.1.1
    obtain ⟨a1, a2, a3⟩ := scanGo_facts (rhV b) (rhB b) b (b.length + 1) 0 24 [] [] (by simp) (by omega) rfl (fun r hr => by cases hr)
    exact ⟨by omega, a2, a3⟩
  · rw [if_neg h]
    exact ⟨by simp, rfl, fun r hr => by cases hr⟩
theorem rows1 (l : List (List UInt8)) : ((l.map eStr).all fun row => decide (row.length = 1)) = true := by simp
theorem rows1i (l : List Int) : ((l.map eInt).all fun row => decide (row.length = 1)) = true := by simp
theorem take_all {A : Type} (l : List A) : List.take l.length l = l := List.take_length
theorem textsLe_map (n : Nat) (l : List (List UInt8)) : textsLe n (l.map eStr) = true ↔ ∀ x ∈ l, x.length ≤ n := by simp [textsLe]
theorem sLinkMore_E : EnvSound Tryz.prog E_sLinkMore := mkE_sound (by simp [sSumMore_sound, sFixText_sound])
theorem sLinkMore_sound : Sound Tryz.prog 193 (sg [pI, pS] [rI]) linkMoreSpec := vBody_sound sLinkMore_E noInl_ok Tryz.func193 (by kernel_rfl) fun cs outs hk h => by
  unfold linkMoreSpec at h
  split at h
  · simp only [Option.some.injEq, Prod.mk.injEq, decide_eq_true_eq] at h
    obtain ⟨h1, rfl⟩ := h
    rename_i l r
    rw [vBody_L, sLinkMore_tree]
    have l1 := fixOf_len (r.length : Int) 4
    have a1 : (-9223372036854775808 : Int) ≤ r.length := by omega
    have a2 : (r.length : Int) ≤ 9223372036854775807 := by omega
    have a3 : (fixOf (r.length : Int) 4).length + r.length ≤ 9223372036854775807 := by omega
    have a4 : (fixOf (r.length : Int) 4 ++ r).length ≤ 281474976710656 := by simp; omega
    simp only [eval_must', eval_ret', a1, a2, a3, a4, decide_true, Bool.and_self, if_true]
    rfl
  · cases h
theorem iLinkMore_E : EnvSound Tryz.prog E_iLinkMore := mkE_sound (by simp [iSumMore_sound, iFixText_sound])
theorem iLinkMore_sound : Sound Tryz.prog 206 (sg [pI, pS] [rI]) linkMoreSpec := vBody_sound iLinkMore_E noInl_ok Tryz.func206 (by kernel_rfl) fun cs outs hk h => by
  unfold linkMoreSpec at h
  split at h
  · simp only [Option.some.injEq, Prod.mk.injEq, decide_eq_true_eq] at h
    obtain ⟨h1, rfl⟩ := h
    rename_i l r
    rw [vBody_L, iLinkMore_tree]
    have l1 := fixOf_len (r.length : Int) 4
    have a1 : (-9223372036854775808 : Int) ≤ r.length := by omega
    have a2 : (r.length : Int) ≤ 9223372036854775807 := by omega
    have a3 : (fixOf (r.length : Int) 4).length + r.length ≤ 9223372036854775807 := by omega
    have a4 : (fixOf (r.length : Int) 4 ++ r).length ≤ 281474976710656 := by simp; omega
    simp only [eval_must', eval_ret', a1, a2, a3, a4, decide_true, Bool.and_self, if_true]
    rfl
  · cases h
theorem linkAllF_loop (rs : List (List UInt8)) (h60 : ∀ x ∈ rs, x.length ≤ 1048576) (hl : rs.length ≤ 1048576) : ∀ (n i : Nat) (l : Int), i ≤ rs.length → rs.length < i + n →
    (vLoop E_linkAllF noInl (sg [pI, pSl 9] [rI]) Tryz.f166 [.r, .l, .r, .b] n (H_linkAllF l (rs.map eStr) rs.length i)).eval = some [.int .i64 (linkAll l (rs.drop i))] := by
  intro n
  induction n with
  | zero => intro i l h1 h2; omega
  | succ n ih =>
    intro i l h1 h2
    rw [vLoop_L _ _ _ _ _ _ _ (by kernel_rfl), linkAllF_round0]
    by_cases hi : i < rs.length
    · have g := map_getD eStr rs [] i hi
      have w : IntKind.i64.wrap ((i : Int) + 1) = ((i + 1 : Nat) : Int) := by rw [wrap64] <;> omega
      have hz : (0 : Int) ≤ i := by omega
      have hi' : (i : Int) < rs.length := by omega
      have hm : rs.getD i [] ∈ rs := by rw [List.getD_eq_getElem?_getD, List.getElem?_eq_getElem hi]; exact List.getElem_mem hi
      have hx := h60 _ hm
      rw [drop_cons rs i [] hi]
      generalize rs.getD i [] = y at g hx ⊢
      simp only [eval_must', eval_ask', eval_ret', if_true, decide_eq_true_eq, Bool.and_eq_true, w, hz, hi', Int.toNat_natCast, List.length_map, g, and_self, List.getD_cons_zero, C.toStr, C.is, List.length_cons, List.length_nil, Nat.zero_add, Nat.zero_lt_succ, hx]
      exact ih (i + 1) _ (by omega) (by omega)
    · have e : i = rs.length := by omega
      subst e
      have hi' : ¬ ((rs.length : Int) < (rs.length : Int)) := by omega
      simp only [eval_ask', eval_ret', decide_eq_true_eq, hi', if_false, List.drop_length]
      rfl
theorem linkAllF_E : EnvSound Tryz.prog E_linkAllF := mkE_sound (by simp [iLinkMore_sound])
theorem linkAllF_sound : Sound Tryz.prog 166 (sg [pI, pSl 9] [rI]) linkAllSpec := vBody_sound linkAllF_E noInl_ok Tryz.func166 (by kernel_rfl) fun cs outs hk h => by
  unfold linkAllSpec at h
  split at h
  · simp only [Option.some.injEq, Prod.mk.injEq, Bool.and_eq_true, decide_eq_true_eq] at h
    obtain ⟨⟨h1, h2, h3⟩, rfl⟩ := h
    rename_i l rows
    have hr := rows_strs h2
    generalize strs rows = rs at hr ⊢
    subst hr
    rw [List.length_map] at h1
    rw [textsLe_map] at h3
    rw [vBody_L, linkAllF_tree]
    have := linkAllF_loop rs h3 h1 9223372036854775808 0 l (by omega) (by omega)
    rw [show (rs.length : Int) = ((rs.map eStr).length : Int) by rw [List.length_map]] at this
    exact this
  · cases h
theorem sGoesOn_E : EnvSound Tryz.prog E_sGoesOn := mkE_sound (by simp [sReadHead_sound])
theorem sGoesOn_sound : Sound Tryz.prog 157 (sg [pS, pI, pI] [rB]) goesOnSpec := vBody_sound sGoesOn_E noInl_ok Tryz.func157 (by kernel_rfl) fun cs outs hk h => by
  unfold goesOnSpec at h
  split at h
  · simp only [Option.some.injEq, Prod.mk.injEq, decide_eq_true_eq] at h
    obtain ⟨h1, rfl⟩ := h
    rename_i b x l
    rw [vBody_L, sGoesOn_tree]
    have a1 : b.length ≤ 281474976710656 := by omega
    cases hr : readHeadOk b <;> simp [eval_must', eval_ask', eval_ret', a1, goesOn, hr, ifI]
    repeat' split
    all_goals simp_all
  · cases h
theorem iGoesOn_E : EnvSound Tryz.prog E_iGoesOn := mkE_sound (by simp [iReadHead_sound])
theorem iGoesOn_sound : Sound Tryz.prog 165 (sg [pS, pI, pI] [rB]) goesOnSpec := vBody_sound iGoesOn_E noInl_ok Tryz.func165 (by kernel_rfl) fun cs outs hk h => by
  unfold goesOnSpec at h
  split at h
  · simp only [Option.some.injEq, Prod.mk.injEq, decide_eq_true_eq] at h
    obtain ⟨h1, rfl⟩ := h
    rename_i b x l
    rw [vBody_L, iGoesOn_tree]
    have a1 : b.length ≤ 281474976710656 := by omega
    cases hr : readHeadOk b <;> simp [eval_must', eval_ask', eval_ret', a1, goesOn, hr, ifI]
    repeat' split
    all_goals simp_all
  · cases h
theorem sRecordsIn_E : EnvSound Tryz.prog E_sRecordsIn := mkE_sound (by simp [sScanText_sound])
theorem sRecordsIn_sound : Sound Tryz.prog 152 (sg [pS] [rSl 9]) recordsInSpec := vBody_sound sRecordsIn_E noInl_ok Tryz.func152 (by kernel_rfl) fun cs outs hk h => by
  unfold recordsInSpec at h
  split at h
  · simp only [Option.some.injEq, Prod.mk.injEq, decide_eq_true_eq] at h
    obtain ⟨h1, rfl⟩ := h
    rename_i b
    rw [vBody_L, sRecordsIn_tree]
    have d1 : decide (0 < 1) = true := by decide
    simp only [eval_must', eval_ret', h1, d1, rows1, rows1i, flat_strs, decide_true, Bool.and_self, Bool.or_true, if_true]
  · cases h
theorem sLinkAfter_loop (rs : List (List UInt8)) (h60 : ∀ x ∈ rs, x.length ≤ 60) (hl : rs.length ≤ 1048576) (ok mk : Bool) (v s q l e : Int) (m : Nat) (o : List (List C)) : ∀ (n i : Nat) (acc : Int), i ≤ rs.length → rs.length < i + n →
    (vLoop E_sLinkAfter noInl (sg [pS] [rI]) Tryz.f158 [.r, .r, .r, .l, .r, .b] n (H_sLinkAfter ok mk v s q l e rs.length (rs.map eStr) m o acc i)).eval = some [.int .i64 (linkAll acc (rs.drop i))] := by
  intro n
  induction n with
  | zero => intro i l h1 h2; omega
  | succ n ih =>
    intro i acc h1 h2
    rw [vLoop_L _ _ _ _ _ _ _ (by kernel_rfl), sLinkAfter_round0]
    by_cases hi : i < rs.length
    · have g := map_getD eStr rs [] i hi
      have w : IntKind.i64.wrap ((i : Int) + 1) = ((i + 1 : Nat) : Int) := by rw [wrap64] <;> omega
      have hz : (0 : Int) ≤ i := by omega
      have hi' : (i : Int) < rs.length := by omega
      have hm : rs.getD i [] ∈ rs := by rw [List.getD_eq_getElem?_getD, List.getElem?_eq_getElem hi]; exact List.getElem_mem hi
      have hx : (rs.getD i []).length ≤ 1048576 := by have := h60 _ hm; omega
      rw [drop_cons rs i [] hi]
      generalize rs.getD i [] = y at g hx ⊢
      simp only [eval_must', eval_ask', eval_ret', if_true, decide_eq_true_eq, Bool.and_eq_true, w, hz, hi', hi, Int.toNat_natCast, List.length_map, Nat.zero_add, g, and_self, List.getD_cons_zero, C.toStr, C.is, List.length_cons, List.length_nil, Nat.zero_lt_succ, hx]
      exact ih (i + 1) _ (by omega) (by omega)
    · have e : i = rs.length := by omega
      subst e
      have hi' : ¬ ((rs.length : Int) < (rs.length : Int)) := by omega
      simp only [eval_ask', eval_ret', decide_eq_true_eq, hi', if_false, List.drop_length]
      rfl
theorem sLinkAfter_E : EnvSound Tryz.prog E_sLinkAfter := mkE_sound (by simp [sScanText_sound, sLinkMore_sound])
theorem sLinkAfter_sound : Sound Tryz.prog 158 (sg [pS] [rI]) linkAfterSpec := vBody_sound sLinkAfter_E noInl_ok Tryz.func158 (by kernel_rfl) fun cs outs hk h => by
  unfold linkAfterSpec at h
  split at h
  · simp only [Option.some.injEq, Prod.mk.injEq, decide_eq_true_eq] at h
    obtain ⟨h1, rfl⟩ := h
    rename_i b
    obtain ⟨f1, f2, f3⟩ := scan_facts b
    rw [vBody_L, sLinkAfter_tree]
    have d1 : decide (0 < 1) = true := by decide
    have lp := sLinkAfter_loop (scRecs b) f3 (by omega) (readHeadOk b) (scMark b) (ifI (readHeadOk b) (rhV b)) (ifI (readHeadOk b) (rhS b)) (ifI (readHeadOk b) (rhB b)) (ifI (readHeadOk b) (rhL b)) (scEnd b) ((scOffs b).map eInt).length ((scOffs b).map eInt) 9223372036854775808 0 (ifI (readHeadOk b) (rhL b)) (by omega) (by omega)
    rw [show (scRecs b).length = ((scRecs b).map eStr).length by rw [List.length_map]] at lp
    simp only [eval_must', eval_ret', h1, d1, rows1, rows1i, decide_true, Bool.and_self, if_true]
    exact lp
  · cases h

theorem neOk_of {ns es : List (List C)} (h : dkOk ns es = true) : neOk ns es = true := by unfold dkOk at h; simp only [Bool.and_eq_true] at h; exact h.1
theorem textAt_le {ns es : List (List C)} (h : dkOk ns es = true) (base : Int) : (textAt (nds ns) (ens es) base).length ≤ 1048576 := by
  unfold dkOk at h
  simp only [Bool.and_eq_true, List.all_eq_true, decide_eq_true_eq] at h
  unfold textAt ndText ndAt
  split
  · simp
  · rename_i hn
    have hp : ¬ placeOf (ens es) (segName base) < 0 := fun hp => hn (by unfold nodeIx; rw [if_pos hp]; decide)
    have e : nodeIx (nds ns) (ens es) (segName base) = nodeOf (nds ns) (entAt (ens es) (segName base)) := if_neg hp
    rw [e] at hn ⊢
    obtain ⟨c1, c2, c3⟩ := ne_node _ _ hn
    refine h.2 _ ?_
    rw [List.getD_eq_getElem?_getD, List.getElem?_eq_getElem c1]
    exact List.getElem_mem c1
theorem app_lk (l : List Lk) (x : Lk) : (l.map eLk).append [eLk x] = (l ++ [x]).map eLk := by simp
theorem linksF_loop (ns es os ss : List (List C)) (r x : Int) (hd : dkOk ns es = true) : ∀ (k n : Nat) (l : List Lk) (base sum : Int), l.length + k = 16 → 0 ≤ base → base ≤ (l.length : Int) * 1048576 → k < n →
    (vLoop E_linksF noInl (⟨[pDisk], [rSl 79], true⟩) Tryz.f108 [.r, .r, .r, .l, .b] n (H_linksF ns es os ss r x l.length (l.map eLk) base sum)).eval = some [.sl (lkRows (l ++ chainGo (nds ns) (ens es) k base sum))] := by
  have hne := neOk_of hd
  intro k
  induction k with
  | zero =>
    intro n l base sum h1 h2 h3 h4
    obtain ⟨n, rfl⟩ : ∃ g, n = g + 1 := ⟨n - 1, by omega⟩
    rw [vLoop_L _ _ _ _ _ _ _ (by kernel_rfl), linksF_round0]
    have c : ¬ ((l.length : Int) < 16) := by omega
    simp only [eval_must', eval_ask', eval_ret', decide_eq_true_eq, c, if_false, List.length_map, decide_true, Bool.true_or, Bool.and_self, if_true, chainGo, List.append_nil]
    rfl
  | succ k ih =>
    intro n l base sum h1 h2 h3 h4
    obtain ⟨n, rfl⟩ : ∃ g, n = g + 1 := ⟨n - 1, by omega⟩
    rw [vLoop_L _ _ _ _ _ _ _ (by kernel_rfl), linksF_round0]
    have c : ((l.length : Int) < 16) := by omega
    have ht := textAt_le hd base
    simp only [chainGo]
    generalize textAt (nds ns) (ens es) base = t at ht ⊢
    obtain ⟨f1, f2, f3⟩ := scan_facts t
    have d1 : decide (0 < 1) = true := by decide
    simp only [eval_must', eval_ask', eval_ret', decide_eq_true_eq, c, if_true, hne, ht, d1, rows1, rows1i, decide_true, Bool.and_self, Bool.true_or, List.length_map]
    cases hg : goesOn t base sum with
    | false =>
      simp only [Bool.false_eq_true, if_false, Bool.false_and, List.append_nil]
      rfl
    | true =>
      by_cases h0 : (scRecs t).length = 0
      · have e0 : ((scRecs t).length : Int) = 0 := by omega
        simp only [e0, h0, if_true, ne_eq, not_true_eq_false, decide_false, Bool.and_false, Bool.false_eq_true, if_false, List.append_nil]
        rfl
      · have e0 : ¬ ((scRecs t).length : Int) = 0 := by omega
        have ro : roomy (l.length + 1) 128 = true := by simp only [roomy, decide_eq_true_eq]; omega
        have tk : List.take (scRecs t).length ((scRecs t).map eStr) = (scRecs t).map eStr := by rw [List.take_of_length_le]; simp
        have tk2 : List.take (scOffs t).length ((scOffs t).map eInt) = (scOffs t).map eInt := by rw [List.take_of_length_le]; simp
        have l1 : (scRecs t).length ≤ 1048576 := by omega
        have tl : textsLe 1048576 ((scRecs t).map eStr) = true := (textsLe_map _ _).2 fun y hy => by have := f3 y hy; omega
        have w : IntKind.i64.wrap (base + ((scRecs t).length : Int)) = base + (scRecs t).length := by rw [wrap64] <;> omega
        have ap := app_lk l (base, t)
        have e := ih n (l ++ [(base, t)]) (base + (scRecs t).length) (linkAll sum (scRecs t)) (by simp; omega) (by omega) (by simp; omega) (by omega)
        simp only [List.length_append, List.length_cons, List.length_nil, Nat.zero_add, List.append_assoc, List.cons_append, List.nil_append] at e
        have e11 : decide (((((((((((Nat.add 1 0).succ.add 0).succ.add 0).succ.add 0).succ.add 0).succ.add 0).succ.add 0).succ.add 0).succ.add 0).succ.add 0).succ = 11) = true := by decide
        simp only [e0, h0, if_false, ne_eq, not_false_eq_true, decide_true, Bool.and_self, if_true, ro, tk, tk2, List.length_map, l1, rowsOk_strs, tl, w, strs_map, e11]
        rw [← ap] at e
        exact e
theorem linksF_E : EnvSound Tryz.prog E_linksF := mkE_sound (by simp [iScanText_sound, iTextAt_sound, linkAllF_sound, iGoesOn_sound])
theorem linksF_sound : Sound Tryz.prog 108 (⟨[pDisk], [rSl 79], true⟩) linksSpec := vBody_sound linksF_E noInl_ok Tryz.func108 (by kernel_rfl) fun cs outs hk h => by
  unfold linksSpec at h
  split at h
  · simp only [Option.some.injEq, Prod.mk.injEq] at h
    obtain ⟨hd, rfl⟩ := h
    rename_i ns es os ss r x
    rw [vBody_L, linksF_tree]
    exact linksF_loop ns es os ss r x hd 16 9223372036854775808 [] 0 0 rfl (by omega) (by simp) (by omega)
  · cases h
theorem goesOn_link {b : List UInt8} {base link : Int} (h : goesOn b base link = true) : linkAfter b = linkAll link (scRecs b) := by
  unfold goesOn at h
  simp only [Bool.and_eq_true, decide_eq_true_eq] at h
  unfold linkAfter ifI
  rw [h.1.1, if_pos rfl, h.2]
theorem app_base (l : List Lk) (x : Lk) : (lkBases l).append [[C.int .i64 x.1]] = lkBases (l ++ [x]) := by simp [lkBases]
theorem len_bases (l : List Lk) : (lkBases l).length = l.length := by simp [lkBases]
theorem flat_bases (l : List Lk) : ((lkBases l).all fun r => r.all C.flat) = true := by simp [lkBases, C.flat]
theorem sChain_loop (ns es os ss : List (List C)) (r x : Int) (hd : dkOk ns es = true) : ∀ (k n : Nat) (l : List Lk) (base sum : Int), l.length + k = 16 → 0 ≤ base → base ≤ (l.length : Int) * 1048576 → k < n →
    (vLoop E_sChain noInl (sg [pDisk] [rSl 3]) Tryz.f100 [.r, .r, .r, .r, .l, .b] n (H_sChain ns es os ss r x l.length (lkBases l) base sum)).eval = some [.sl (lkBases (l ++ chainGo (nds ns) (ens es) k base sum))] := by
  have hne := neOk_of hd
  intro k
  induction k with
  | zero =>
    intro n l base sum h1 h2 h3 h4
    obtain ⟨n, rfl⟩ : ∃ g, n = g + 1 := ⟨n - 1, by omega⟩
    rw [vLoop_L _ _ _ _ _ _ _ (by kernel_rfl), sChain_round0]
    have c : ¬ ((l.length : Int) < 16) := by omega
    simp only [eval_must', eval_ask', eval_ret', decide_eq_true_eq, c, if_false, len_bases, flat_bases, decide_true, Bool.or_true, Bool.and_self, if_true, chainGo, List.append_nil]
  | succ k ih =>
    intro n l base sum h1 h2 h3 h4
    obtain ⟨n, rfl⟩ : ∃ g, n = g + 1 := ⟨n - 1, by omega⟩
    rw [vLoop_L _ _ _ _ _ _ _ (by kernel_rfl), sChain_round0]
    have c : ((l.length : Int) < 16) := by omega
    have ht := textAt_le hd base
    simp only [chainGo]
    generalize textAt (nds ns) (ens es) base = t at ht ⊢
    obtain ⟨f1, f2, f3⟩ := scan_facts t
    simp only [eval_must', eval_ask', eval_ret', decide_eq_true_eq, c, if_true, hne, ht, rows1, decide_true, Bool.and_self, len_bases, flat_bases, Bool.or_true, List.length_map]
    by_cases h0 : (scRecs t).length = 0
    · have e0 : ((scRecs t).length : Int) = 0 := by omega
      simp only [e0, if_true]
      simp only [h0, ne_eq, not_true_eq_false, decide_false, Bool.and_false, Bool.false_eq_true, if_false, List.append_nil]
    · have e0 : ¬ ((scRecs t).length : Int) = 0 := by omega
      cases hg : goesOn t base sum with
      | false => simp only [e0, Bool.false_eq_true, if_false, Bool.false_and, List.append_nil]
      | true =>
        have ro : roomy (l.length + 1) 8 = true := by simp only [roomy, decide_eq_true_eq]; omega
        have l1 : (scRecs t).length ≤ 1048576 := by omega
        have w : IntKind.i64.wrap (base + ((scRecs t).length : Int)) = base + (scRecs t).length := by rw [wrap64] <;> omega
        have ap := app_base l (base, t)
        have e := ih n (l ++ [(base, t)]) (base + (scRecs t).length) (linkAll sum (scRecs t)) (by simp; omega) (by omega) (by simp; omega) (by omega)
        simp only [List.length_append, List.length_cons, List.length_nil, Nat.zero_add, List.append_assoc, List.cons_append, List.nil_append] at e
        simp only [e0, h0, if_false, ne_eq, not_false_eq_true, decide_true, Bool.and_self, if_true, ro, w, goesOn_link hg]
        rw [← ap] at e
        exact e
theorem sChain_E : EnvSound Tryz.prog E_sChain := mkE_sound (by simp [sTextAt_sound, sGoesOn_sound, sRecordsIn_sound, sLinkAfter_sound])
theorem sChain_sound : Sound Tryz.prog 100 (sg [pDisk] [rSl 3]) basesSpec := vBody_sound sChain_E noInl_ok Tryz.func100 (by kernel_rfl) fun cs outs hk h => by
  unfold basesSpec at h
  split at h
  · simp only [Option.some.injEq, Prod.mk.injEq] at h
    obtain ⟨hd, rfl⟩ := h
    rename_i ns es os ss r x
    rw [vBody_L, sChain_tree]
    exact sChain_loop ns es os ss r x hd 16 9223372036854775808 [] 0 0 rfl (by omega) (by simp) (by omega)
  · cases h
theorem chainGo_text (ns : List Nd) (es : List En) : ∀ (k : Nat) (base sum : Int) (x : Lk), x ∈ chainGo ns es k base sum → x.2 = textAt ns es x.1
  | 0, _, _, _, h => by cases h
  | k + 1, base, sum, x, h => by
    simp only [chainGo] at h
    split at h
    · rcases List.mem_cons.1 h with rfl | h
      · rfl
      · exact chainGo_text ns es k _ _ x h
    · cases h
theorem chainGo_len (ns : List Nd) (es : List En) : ∀ (k : Nat) (base sum : Int), (chainGo ns es k base sum).length ≤ k
  | 0, _, _ => Nat.le_refl _
  | k + 1, base, sum => by
    simp only [chainGo]
    split
    · simp only [List.length_cons]; have := chainGo_len ns es k (base + (scRecs (textAt ns es base)).length) (linkAll sum (scRecs (textAt ns es base))); omega
    · simp
theorem lkRecs_len : ∀ (l : List Lk), (∀ x ∈ l, x.2.length ≤ 1048576) → (lkRecs l).length ≤ l.length * 1048576
  | [], _ => by simp [lkRecs]
  | x :: l, h => by
    have h1 := lkRecs_len l fun y hy => h y (List.mem_cons_of_mem _ hy)
    have h2 := (scan_facts x.2).1
    have h3 := h x List.mem_cons_self
    unfold lkRecs at h1 ⊢
    simp only [List.flatMap_cons, List.length_append, List.length_cons]
    omega
theorem take_step {A : Type} (l : List A) (i : Nat) (d : A) (hi : i < l.length) : l.take (i + 1) = l.take i ++ [l.getD i d] := by
  rw [List.take_succ_eq_append_getElem hi]; simp [List.getD_eq_getElem?_getD, hi]
theorem lkRecs_step (l : List Lk) (i : Nat) (d : Lk) (hi : i < l.length) : lkRecs (l.take (i + 1)) = lkRecs (l.take i) ++ scRecs (l.getD i d).2 := by
  rw [take_step l i d hi]; simp [lkRecs]
theorem get_base (l : List Lk) (i : Nat) (hi : i < l.length) : (lkBases l).getD i [] = eInt (l.getD i (0, [])).1 := map_getD (fun x : Lk => eInt x.1) l (0, []) i hi
theorem app_recs (a b : List (List UInt8)) : (a.map eStr).append (b.map eStr) = (a ++ b).map eStr := by simp
theorem sRowOf_loop (ns es os ss : List (List C)) (r x : Int) (hd : dkOk ns es = true) (c : List Lk) (hc : ∀ y ∈ c, y.2 = textAt (nds ns) (ens es) y.1) (hl : c.length ≤ 16) : ∀ (n i : Nat), i ≤ c.length → c.length < i + n →
    (vLoop E_sRowOf noInl (sg [pDisk] [rSl 9]) Tryz.f91 [.r, .r, .r, .l, .r, .b] n (H_sRowOf ns es os ss r x (lkRecs (c.take i)).length ((lkRecs (c.take i)).map eStr) c.length (lkBases c) i)).eval = some [.sl ((lkRecs c).map eStr)] := by
  have hne := neOk_of hd
  have ht2 : ∀ y ∈ c, y.2.length ≤ 1048576 := fun y hy => by rw [hc y hy]; exact textAt_le hd _
  intro n
  induction n with
  | zero => intro i h1 h2; omega
  | succ n ih =>
    intro i h1 h2
    rw [vLoop_L _ _ _ _ _ _ _ (by kernel_rfl), sRowOf_round0]
    by_cases hi : i < c.length
    · have g := get_base c i hi
      have w : IntKind.i64.wrap ((i : Int) + 1) = ((i + 1 : Nat) : Int) := by rw [wrap64] <;> omega
      have hz : (0 : Int) ≤ i := by omega
      have hi' : (i : Int) < c.length := by omega
      have hm : c.getD i (0, []) ∈ c := by rw [List.getD_eq_getElem?_getD, List.getElem?_eq_getElem hi]; exact List.getElem_mem hi
      have hx := hc _ hm
      have hx2 := ht2 _ hm
      have e := ih (i + 1) (by omega) (by omega)
      rw [lkRecs_step c i (0, []) hi] at e
      have hlen : (lkRecs (c.take i)).length ≤ 16777216 := by
        have h4 := lkRecs_len (c.take i) fun y hy => ht2 y (List.mem_of_mem_take hy)
        have h3 : (c.take i).length ≤ 16 := by rw [List.length_take]; omega
        clear e
        omega
      have hne2 : (lkBases c).getD (0 + i) [] = eInt (c.getD i (0, [])).1 := by rw [Nat.zero_add]; exact g
      generalize c.getD i (0, []) = y at g hx hx2 e hne2 ⊢
      rw [hx] at e hx2
      obtain ⟨f1, f2, f3⟩ := scan_facts (textAt (nds ns) (ens es) y.1)
      have tk : List.take (scRecs (textAt (nds ns) (ens es) y.1)).length ((scRecs (textAt (nds ns) (ens es) y.1)).map eStr) = (scRecs (textAt (nds ns) (ens es) y.1)).map eStr := by rw [List.take_of_length_le]; simp
      have ro : roomy ((lkRecs (c.take i)).length + (scRecs (textAt (nds ns) (ens es) y.1)).length) 16 = true := by simp only [roomy, decide_eq_true_eq]; omega
      simp only [List.length_append] at e
      have hlb : i < (lkBases c).length := by rw [len_bases]; exact hi
      simp only [eval_must', eval_ask', eval_ret', if_true, decide_eq_true_eq, w, hz, hi', hi, Int.toNat_natCast, len_bases, Nat.zero_add, g, hne, hx2, rows1, tk, ro, decide_true, Bool.and_self, List.getD_cons_zero, C.toInt, C.is, List.length_cons, List.length_nil, Nat.zero_lt_succ, beq_self_eq_true, List.length_map, app_recs]
      exact e
    · have e : i = c.length := by omega
      subst e
      have hi' : ¬ ((c.length : Int) < (c.length : Int)) := by omega
      rw [List.take_length]
      simp only [eval_must', eval_ask', eval_ret', decide_eq_true_eq, hi', if_false, List.length_map, flat_strs, decide_true, Bool.or_true, Bool.and_self, if_true]
theorem sRowOf_E : EnvSound Tryz.prog E_sRowOf := mkE_sound (by simp [sTextAt_sound, sRecordsIn_sound, sChain_sound])
theorem sRowOf_sound : Sound Tryz.prog 91 (sg [pDisk] [rSl 9]) rowOfSpec := vBody_sound sRowOf_E noInl_ok Tryz.func91 (by kernel_rfl) fun cs outs hk h => by
  unfold rowOfSpec at h
  split at h
  · simp only [Option.some.injEq, Prod.mk.injEq] at h
    obtain ⟨hd, rfl⟩ := h
    rename_i ns es os ss r x
    rw [vBody_L, sRowOf_tree]
    have hb : ((lkBases (chain (nds ns) (ens es))).all fun row => decide (row.length = 1)) = true := by simp [lkBases]
    have lp := sRowOf_loop ns es os ss r x hd (chain (nds ns) (ens es)) (fun y hy => chainGo_text _ _ _ _ _ y hy) (chainGo_len _ _ _ _ _) 9223372036854775808 0 (by omega) (by have := chainGo_len (nds ns) (ens es) 16 0 0; unfold chain; omega)
    rw [← len_bases] at lp
    simp only [eval_must', hd, hb, decide_true, Bool.and_self, if_true]
    exact lp
  · cases h
theorem get_lk (l : List Lk) (i : Nat) (hi : i < l.length) : (lkRows l).getD i [] = eLk (l.getD i (0, [])) := map_getD eLk l (0, []) i hi
theorem len_lk (l : List Lk) : (lkRows l).length = l.length := by simp [lkRows]
theorem iRowOf_loop (c : List Lk) (ht2 : ∀ y ∈ c, y.2.length ≤ 1048576) (hl : c.length ≤ 16) : ∀ (n i : Nat), i ≤ c.length → c.length < i + n →
    (vLoop E_iRowOf noInl (sg [pDisk] [rSl 9]) Tryz.f155 [.r, .r, .l, .r, .b] n (H_iRowOf (lkRecs (c.take i)).length ((lkRecs (c.take i)).map eStr) c.length (lkRows c) c.length i)).eval = some [.sl ((lkRecs c).map eStr)] := by
  intro n
  induction n with
  | zero => intro i h1 h2; omega
  | succ n ih =>
    intro i h1 h2
    rw [vLoop_L _ _ _ _ _ _ _ (by kernel_rfl), iRowOf_round0]
    by_cases hi : i < c.length
    · have g := get_lk c i hi
      have w : IntKind.i64.wrap ((i : Int) + 1) = ((i + 1 : Nat) : Int) := by rw [wrap64] <;> omega
      have hz : (0 : Int) ≤ i := by omega
      have hi' : (i : Int) < c.length := by omega
      have hm : c.getD i (0, []) ∈ c := by rw [List.getD_eq_getElem?_getD, List.getElem?_eq_getElem hi]; exact List.getElem_mem hi
      have hx2 := ht2 _ hm
      have e := ih (i + 1) (by omega) (by omega)
      rw [lkRecs_step c i (0, []) hi] at e
      have hlen : (lkRecs (c.take i)).length ≤ 16777216 := by
        have h4 := lkRecs_len (c.take i) fun y hy => ht2 y (List.mem_of_mem_take hy)
        have h3 : (c.take i).length ≤ 16 := by rw [List.length_take]; omega
        clear e
        omega
      generalize c.getD i (0, []) = y at g hx2 e ⊢
      obtain ⟨f1, f2, f3⟩ := scan_facts y.2
      have ro : roomy ((lkRecs (c.take i)).length + (scRecs y.2).length) 16 = true := by simp only [roomy, decide_eq_true_eq]; omega
      simp only [List.length_append] at e
      simp only [eval_must', eval_ask', eval_ret', if_true, decide_eq_true_eq, w, hz, hi', hi, Int.toNat_natCast, len_lk, Nat.zero_add, Nat.reduceAdd, Nat.reduceLT, g, rows1, ro, decide_true, Bool.and_self, List.getD_cons_zero, List.getD_cons_succ, C.toInt, C.toRows, C.is, List.length_cons, List.length_nil, Nat.zero_lt_succ, beq_self_eq_true, List.length_map, app_recs]
      exact e
    · have e : i = c.length := by omega
      subst e
      have hi' : ¬ ((c.length : Int) < (c.length : Int)) := by omega
      rw [List.take_length]
      simp only [eval_must', eval_ask', eval_ret', decide_eq_true_eq, hi', if_false, List.length_map, flat_strs, decide_true, Bool.or_true, Bool.and_self, if_true]
theorem chain_text {ns es : List (List C)} (h : dkOk ns es = true) : ∀ y ∈ chain (nds ns) (ens es), y.2.length ≤ 1048576 := fun y hy => by
  rw [chainGo_text _ _ _ _ _ y hy]; exact textAt_le h _
theorem iRowOf_E : EnvSound Tryz.prog E_iRowOf := mkE_sound (by simp [linksF_sound])
theorem iRowOf_sound : Sound Tryz.prog 155 (sg [pDisk] [rSl 9]) rowOfSpec := vBody_sound iRowOf_E noInl_ok Tryz.func155 (by kernel_rfl) fun cs outs hk h => by
  unfold rowOfSpec at h
  split at h
  · simp only [Option.some.injEq, Prod.mk.injEq] at h
    obtain ⟨hd, rfl⟩ := h
    rename_i ns es os ss r x
    rw [vBody_L, iRowOf_tree]
    have hb : ((lkRows (chain (nds ns) (ens es))).all fun row => decide (row.length = 11)) = true := by simp [lkRows]
    have lp := iRowOf_loop (chain (nds ns) (ens es)) (chain_text hd) (chainGo_len _ _ _ _ _) 9223372036854775808 0 (by omega) (by have := chainGo_len (nds ns) (ens es) 16 0 0; unfold chain; omega)
    rw [← len_lk] at lp
    simp only [eval_must', hd, hb, decide_true, Bool.and_self, if_true]
    exact lp
  · cases h

theorem iLogLen_E : EnvSound Tryz.prog E_iLogLen := mkE_sound (by simp [iRowOf_sound])
theorem iLogLen_sound : Sound Tryz.prog 95 (sg [pDisk] [rI]) logLenSpec := vBody_sound iLogLen_E noInl_ok Tryz.func95 (by kernel_rfl) fun cs outs hk h => by
  unfold logLenSpec at h
  split at h
  · simp only [Option.some.injEq, Prod.mk.injEq] at h
    obtain ⟨hd, rfl⟩ := h
    rw [vBody_L, iLogLen_tree]
    simp only [eval_must', eval_ret', hd, rows1, decide_true, Bool.and_self, if_true, List.length_map]
  · cases h

end Go.Proofs.YtggmbjbmklimdaaGreatDoor.V

namespace Go.Proofs.YtggmbjbmklimdaaGreatDoor.V
noncomputable section

/-- what a disk that is handed to a law is like -/
def lawDisk (ns es os ss : List (List C)) : Bool := diskLens 281474976710656 ns es os ss && diskRows ns es os ss && diskTexts ns es os ss

end
end Go.Proofs.YtggmbjbmklimdaaGreatDoor.V

namespace Go.Proofs.YtggmbjbmklimdaaGreatDoor.V
set_option maxRecDepth 100000

end Go.Proofs.YtggmbjbmklimdaaGreatDoor.V

namespace Go.Proofs.YtggmbjbmklimdaaGreatDoor.V

theorem mem_sum : ∀ (l : List Nat) (x : Nat), x ∈ l → x ≤ l.sum
  | [], _, h => by cases h
  | y :: l, x, h => by
    simp only [List.sum_cons]
    rcases List.mem_cons.1 h with rfl | h
    · omega
    · have := mem_sum l x h; omega
theorem szDisk_facts (ns : List Nd) (es os : List En) (ss : List (List UInt8)) (h : ¬ szDisk ns es os ss 1048576 < 0) :
    ns.length ≤ 1048576 ∧ es.length ≤ 1048576 ∧ os.length ≤ 1048576 ∧ ss.length ≤ 1048576 ∧ (∀ x ∈ ns, x.text.length ≤ 1048576) ∧ (∀ x ∈ es, x.name.length ≤ 1048576) ∧ (∀ x ∈ os, x.name.length ≤ 1048576) ∧ (∀ x ∈ ss, x.length ≤ 1048576) ∧
    (ns.length : Int) + (((ns.map fun x => x.text.length).sum : Nat) : Int) ≤ 1048576 := by
  unfold szDisk at h
  generalize hA : szList (ns.map fun x => x.text.length) 1048576 = A at h
  generalize hB : szThen (es.map fun x => x.name.length) A = B at h
  generalize hC : szThen (os.map fun x => x.name.length) B = D at h
  have hC0 : ¬ D < 0 := fun hn => h (by unfold szThen; rw [if_pos hn]; decide)
  have hB0 : ¬ B < 0 := fun hn => hC0 (by rw [← hC]; unfold szThen; rw [if_pos hn]; decide)
  have hA0 : ¬ A < 0 := fun hn => hB0 (by rw [← hB]; unfold szThen; rw [if_pos hn]; decide)
  have e4 : szThen (ss.map List.length) D = szList (ss.map List.length) D := if_neg hC0
  have e3 : szThen (os.map fun x => x.name.length) B = szList (os.map fun x => x.name.length) B := if_neg hB0
  have e2 : szThen (es.map fun x => x.name.length) A = szList (es.map fun x => x.name.length) A := if_neg hA0
  rw [e4] at h
  rw [e3] at hC
  rw [e2] at hB
  have s1 := szList_sum (ns.map fun x => x.text.length) 1048576 (by omega)
  have s2 := szList_sum (es.map fun x => x.name.length) A (by omega)
  have s3 := szList_sum (os.map fun x => x.name.length) B (by omega)
  have s4 := szList_sum (ss.map List.length) D (by omega)
  rw [hA] at s1
  rw [hB] at s2
  rw [hC] at s3
  simp only [List.length_map] at s1 s2 s3 s4
  have m1 : ∀ x ∈ ns, x.text.length ≤ (ns.map fun x => x.text.length).sum := fun x hx => mem_sum _ _ (List.mem_map.2 ⟨x, hx, rfl⟩)
  have m2 : ∀ x ∈ es, x.name.length ≤ (es.map fun x => x.name.length).sum := fun x hx => mem_sum _ _ (List.mem_map.2 ⟨x, hx, rfl⟩)
  have m3 : ∀ x ∈ os, x.name.length ≤ (os.map fun x => x.name.length).sum := fun x hx => mem_sum _ _ (List.mem_map.2 ⟨x, hx, rfl⟩)
  have m4 : ∀ x ∈ ss, x.length ≤ (ss.map List.length).sum := fun x hx => mem_sum _ _ (List.mem_map.2 ⟨x, hx, rfl⟩)
  generalize (ns.map fun x => x.text.length).sum = S1 at s1 m1 ⊢
  generalize (es.map fun x => x.name.length).sum = S2 at s2 m2
  generalize (os.map fun x => x.name.length).sum = S3 at s3 m3
  generalize (ss.map List.length).sum = S4 at s4 m4
  generalize szList (ss.map List.length) D = Z at s4 h
  refine ⟨by omega, by omega, by omega, by omega, fun x hx => ?_, fun x hx => ?_, fun x hx => ?_, fun x hx => ?_, by omega⟩
  · have := m1 x hx; omega
  · have := m2 x hx; omega
  · have := m3 x hx; omega
  · have := m4 x hx; omega
theorem szThen_mono (l : List Nat) (a b : Int) (h : a ≤ b) (hn : ¬ szThen l a < 0) : ¬ szThen l b < 0 ∧ szThen l a ≤ szThen l b := by
  have key : ∀ (l : List Nat) (a b : Int), 0 ≤ a → a ≤ b → ¬ szEach l a < 0 → szEach l b = szEach l a + (b - a) := by
    intro l
    induction l with
    | nil => intro a b _ h _; simp only [szEach]; omega
    | cons n r ih =>
      intro a b h0 h hn
      simp only [szEach] at hn ⊢
      by_cases hc : a - n < 0
      · rw [if_pos hc] at hn; exact absurd (by decide) hn
      · rw [if_neg hc] at hn ⊢
        rw [if_neg (by omega), ih (a - n) (b - n) (by omega) (by omega) hn]
        omega
  unfold szThen at hn ⊢
  by_cases ha : a < 0
  · rw [if_pos ha] at hn; exact absurd (by decide) hn
  · rw [if_neg ha] at hn ⊢
    rw [if_neg (by omega : ¬ b < 0)]
    unfold szList at hn ⊢
    by_cases hc : a - l.length < 0
    · rw [if_pos hc] at hn; exact absurd (by decide) hn
    · rw [if_neg hc] at hn ⊢
      rw [if_neg (by omega : ¬ b - l.length < 0), key l (a - l.length) (b - l.length) (by omega) (by omega) hn]
      omega
theorem szThen_pos (l : List Nat) (a : Int) (h : ¬ szThen l a < 0) : ¬ a < 0 := fun hn => h (by unfold szThen; rw [if_pos hn]; decide)
theorem szThen_le (l : List Nat) (a : Int) : szThen l a ≤ a ∨ szThen l a = -1 := by
  unfold szThen
  split
  · exact .inr rfl
  · rcases szList_rng l a with h | h
    · exact .inr h
    · exact .inl h.2
theorem szDisk_mono (ns : List Nd) (es os : List En) (ss : List (List UInt8)) (a b : Int) (h : a ≤ b) (hn : ¬ szDisk ns es os ss a < 0) : ¬ szDisk ns es os ss b < 0 := by
  unfold szDisk at hn ⊢
  by_cases ha : a < 0
  · have e : szList (ns.map fun x => x.text.length) a = -1 := by unfold szList; rw [if_pos (by omega)]
    have := szThen_pos _ _ (szThen_pos _ _ (szThen_pos _ _ hn))
    rw [e] at this
    exact absurd (by decide) this
  · have e1 : ∀ x, ¬ x < 0 → szList (ns.map fun x => x.text.length) x = szThen (ns.map fun x => x.text.length) x := fun x hx => by unfold szThen; rw [if_neg hx]
    rw [e1 a ha] at hn
    rw [e1 b (by omega)]
    have n1 := szThen_pos _ _ hn
    have n2 := szThen_pos _ _ n1
    have n3 := szThen_pos _ _ n2
    have m1 := szThen_mono _ _ _ h n3
    have m2 := szThen_mono _ _ _ m1.2 n2
    have m3 := szThen_mono _ _ _ m2.2 n1
    exact (szThen_mono _ _ _ m3.2 hn).1
theorem szDisk_rng (ns : List Nd) (es os : List En) (ss : List (List UInt8)) (a : Int) (hn : ¬ szDisk ns es os ss a < 0) : 0 ≤ szDisk ns es os ss a ∧ szDisk ns es os ss a ≤ a := by
  refine ⟨by omega, ?_⟩
  unfold szDisk at hn ⊢
  have n1 := szThen_pos _ _ hn
  have n2 := szThen_pos _ _ n1
  have n3 := szThen_pos _ _ n2
  generalize hA : szList (ns.map fun x => x.text.length) a = A at hn n1 n2 n3 ⊢
  have r1 := szList_rng (ns.map fun x => x.text.length) a
  rw [hA] at r1
  have r2 := szThen_le (es.map fun x => x.name.length) A
  generalize szThen (es.map fun x => x.name.length) A = B at hn n1 n2 r2 ⊢
  have r3 := szThen_le (os.map fun x => x.name.length) B
  generalize szThen (os.map fun x => x.name.length) B = D at hn n1 r3 ⊢
  have r4 := szThen_le (ss.map List.length) D
  generalize szThen (ss.map List.length) D = F at hn r4 ⊢
  omega
theorem nds_len (ns : List (List C)) : (nds ns).length = ns.length := by simp [nds]
theorem ens_len (ns : List (List C)) : (ens ns).length = ns.length := by simp [ens]
theorem strs_len (ns : List (List C)) : (strs ns).length = ns.length := by simp [strs]
/-- a disk that was found small: what all others ask -/
theorem small_disk {ns es os ss : List (List C)} (hl : lawDisk ns es os ss = true) (h : ¬ szDisk (nds ns) (ens es) (ens os) (strs ss) 1048576 < 0) :
    diskLens 281474976710656 ns es os ss = true ∧ diskRows ns es os ss = true ∧ diskTexts ns es os ss = true ∧ diskLens 1048576 ns es os ss = true ∧ dkOk ns es = true := by
  unfold lawDisk at hl
  simp only [Bool.and_eq_true] at hl
  obtain ⟨⟨h1, h2⟩, h3⟩ := hl
  obtain ⟨a1, a2, a3, a4, a5, _⟩ := szDisk_facts _ _ _ _ h
  rw [nds_len] at a1
  rw [ens_len] at a2 a3
  rw [strs_len] at a4
  refine ⟨h1, h2, h3, diskLens_iff.2 ⟨a1, a2, a3, a4⟩, ?_⟩
  obtain ⟨k1, k2, k3, k4⟩ := diskRows_iff.1 h2
  obtain ⟨l1, l2, _, _⟩ := diskLens_iff.1 h1
  unfold dkOk
  simp only [Bool.and_eq_true, List.all_eq_true, decide_eq_true_eq]
  exact ⟨neOk_iff.2 ⟨l1, l2, k1, k2⟩, a5⟩
theorem disk_rows {ns es os ss : List (List C)} (h : diskRows ns es os ss = true) :
    (ns.all fun row => decide (row.length = 3)) = true ∧ (es.all fun row => decide (row.length = 2)) = true ∧ (os.all fun row => decide (row.length = 2)) = true ∧ (ss.all fun row => decide (row.length = 1)) = true := by
  obtain ⟨k1, k2, k3, k4⟩ := diskRows_iff.1 h
  exact ⟨rows_lens k1, rows_lens k2, rows_lens k3, rows_lens k4⟩
theorem eqDk_self (ns es os ss : List (List C)) (r x : Int) : eqDk ns es os ss r x ns es os ss r x = true := by simp [eqDk]

end Go.Proofs.YtggmbjbmklimdaaGreatDoor.V
