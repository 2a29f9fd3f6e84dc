/- Functions of the given program and of its reference: what each returns, as an equation over data; by the interpreter. -/
import Derived.Test.YtpjcnjefffakpaaGreatDoorS2
import Derived.Test.YtpjcnjefffakpaaGreatDoorProg
import Derived.KernelRfl
set_option linter.unusedVariables false
set_option linter.unusedSimpArgs false
set_option linter.unusedSectionVars false
set_option linter.deprecated false
namespace Go.Proofs.YtpjcnjefffakpaaGreatDoor.V
noncomputable section

def lost (a b : Nat) : Int := if b ≤ a then ((a - b : Nat) : Int) else 0
def recsOf (ns es : List (List C)) : List (List UInt8) := lkRecs (chain (nds ns) (ens es))
def lostSpec : Spec := fun cs => match cs with
  | [.sl n1, .sl e1, .sl _, .sl _, .int .i64 _, .int .i64 _, .sl n2, .sl e2, .sl _, .sl _, .int .i64 _, .int .i64 _] => some (dkOk n1 e1 && dkOk n2 e2, [.int .i64 (lost (recsOf n1 e1).length (recsOf n2 e2).length)])
  | _ => none
def lostLaw : Spec := fun cs => match cs with
  | [.sl n1, .sl e1, .sl o1, .sl s1, .int .i64 _, .int .i64 _, .sl n2, .sl e2, .sl o2, .sl s2, .int .i64 _, .int .i64 _] => some (lawDisk n1 e1 o1 s1 && lawDisk n2 e2 o2 s2, [.bool true])
  | _ => none
def E_sLost : Env := mkE [] [(40, (sg [pDisk] [rSl 9]), rowOfSpec)]
def E_iLost : Env := mkE [] [(15, (sg [pDisk] [rI]), logLenSpec)]
def E_lLost : Env := mkE [] [(12, (sg [pLDisk, pI] [rI]), szDiskSpec), (14, (sg [pLDisk] [rDisk]), toDiskSpec), (16, (sg [pDisk, pDisk] [rB]), eqDiskSpec), (17, (sg [pDisk, pDisk] [rI]), lostSpec), (18, (sg [pDisk, pDisk] [rI]), lostSpec)]

def getOk (n : Nat) (i : Int) : Bool := decide (0 ≤ i) && decide (i < n)
def getRec (l : List (List UInt8)) (i : Int) : List UInt8 := if getOk l.length i then l.getD i.toNat [] else []
def getCode (n : Nat) (i : Int) : Int := if getOk n i then 0 else 1
def logGetSpec : Spec := fun cs => match cs with
  | [.sl n1, .sl e1, .sl _, .sl _, .int .i64 _, .int .i64 _, .int .i64 i] => some (dkOk n1 e1, [.str (getRec (recsOf n1 e1) i), .int .i64 (getCode (recsOf n1 e1).length i)])
  | _ => none
def diskIntLaw : Spec := fun cs => match cs with
  | [.sl ns, .sl es, .sl os, .sl ss, .int .i64 _, .int .i64 _, .int .i64 i] => some (lawDisk ns es os ss && (decide (-9223372036854775808 ≤ i) && decide (i ≤ 9223372036854775807)), [.bool true])
  | _ => none
def E_sLogGet : Env := mkE [] [(47, (sg [pI, pI, pI] [rB]), inSpec), (40, (sg [pDisk] [rSl 9]), rowOfSpec)]
def E_iLogGet : Env := mkE [] [(48, (sg [pI, pI, pI] [rB]), inSpec), (44, (sg [pDisk] [rSl 9]), rowOfSpec)]
def E_lLogGet : Env := mkE [] [(12, (sg [pLDisk, pI] [rI]), szDiskSpec), (14, (sg [pLDisk] [rDisk]), toDiskSpec), (16, (sg [pDisk, pDisk] [rB]), eqDiskSpec), (19, (sg [pDisk, pI] [rS, rI]), logGetSpec), (20, (sg [pDisk, pI] [rS, rI]), logGetSpec)]

def recIs (r : List UInt8) (x : List UInt8) : Bool := decide (x = r)
def findRec (l : List (List UInt8)) (r : List UInt8) : Int := idxGo (recIs r) l 0
def ixStrSpec : Spec := fun cs => match cs with
  | [.sl rows, .str r] => some (decide (rows.length ≤ bigN) && rowsOk [.str] rows, [.int .i64 (findRec (strs rows) r)])
  | _ => none
def logFindSpec : Spec := fun cs => match cs with
  | [.sl n1, .sl e1, .sl _, .sl _, .int .i64 _, .int .i64 _, .str r] => some (dkOk n1 e1, [.int .i64 (findRec (recsOf n1 e1) r)])
  | _ => none
def diskStrLaw : Spec := fun cs => match cs with
  | [.sl ns, .sl es, .sl os, .sl ss, .int .i64 _, .int .i64 _, .str r] => some (lawDisk ns es os ss && decide (r.length ≤ 281474976710656), [.bool true])
  | _ => none
def H_ixStr (l : List (List C)) (r : List UInt8) (n i : Int) : St := st0 [(0, .l (.sl l)), (1, wstr r), (7, int64 n), (8, int64 i)]
def H_sLogFind (n : Nat) (l : List (List C)) (r : List UInt8) (i : Int) : St := st1 [(1, wstr r), (5, .l (.ref 0 0 n)), (6, int64 i)] 1 l
def E_ixStr : Env := mkE [(2, [0, 1, 7, 8])] []
def E_sLogFind : Env := mkE [(3, [1, 5, 6])] [(40, (sg [pDisk] [rSl 9]), rowOfSpec)]
def E_iLogFind : Env := mkE [] [(44, (sg [pDisk] [rSl 9]), rowOfSpec), (49, (sg [pSl 9, pS] [rI]), ixStrSpec)]
def E_lLogFind : Env := mkE [] [(12, (sg [pLDisk, pI] [rI]), szDiskSpec), (14, (sg [pLDisk] [rDisk]), toDiskSpec), (16, (sg [pDisk, pDisk] [rB]), eqDiskSpec), (21, (sg [pDisk, pS] [rI]), logFindSpec), (22, (sg [pDisk, pS] [rI]), logFindSpec)]

end
end Go.Proofs.YtpjcnjefffakpaaGreatDoor.V

namespace Go.Proofs.YtpjcnjefffakpaaGreatDoor.V
set_option maxRecDepth 100000
theorem sLost_tree (H : List Pt → Nat → St → T (List C)) (n1 : List (List C)) (e1 : List (List C)) (o1 : List (List C)) (s1 : List (List C)) (r1 : Int) (x1 : Int) (n2 : List (List C)) (e2 : List (List C)) (o2 : List (List C)) (s2 : List (List C)) (r2 : Int) (x2 : Int) : (vBodyL E_sLost noInl (sg [pDisk, pDisk] [rI]) Tryz.f17 H
  [C.sl n1, C.sl e1, C.sl o1, C.sl s1, C.int IntKind.i64 r1, C.int IntKind.i64 x1, C.sl n2, C.sl e2, C.sl o2, C.sl s2,
    C.int IntKind.i64 r2, C.int IntKind.i64 x2]).eval =
 ((.must (dkOk n1 e1)
 (.must ((true && (List.map eStr (lkRecs (chain (nds n1) (ens e1)))).all fun row => decide (row.length = (1 : Nat))) && true &&
    true &&
  true)
  (.must (dkOk n2 e2)
   (.must ((true && (List.map eStr (lkRecs (chain (nds n2) (ens e2)))).all fun row => decide (row.length = (1 : Nat))) && true &&
    true &&
  true)
    (.ask (decide
  (IntKind.i64.wrap
      ((↑(List.map eStr (lkRecs (chain (nds n1) (ens e1)))).length : Int) -
        (↑(List.map eStr (lkRecs (chain (nds n2) (ens e2)))).length : Int)) <
    (0 : Int)))
     (.ret [C.int IntKind.i64 (0 : Int)])
     (.ret [C.int IntKind.i64
    (IntKind.i64.wrap
      ((↑(List.map eStr (lkRecs (chain (nds n1) (ens e1)))).length : Int) -
        (↑(List.map eStr (lkRecs (chain (nds n2) (ens e2)))).length : Int)))])))))) : T (List C)).eval := evalEq (by kernel_rfl)
theorem iLost_tree (H : List Pt → Nat → St → T (List C)) (n1 : List (List C)) (e1 : List (List C)) (o1 : List (List C)) (s1 : List (List C)) (r1 : Int) (x1 : Int) (n2 : List (List C)) (e2 : List (List C)) (o2 : List (List C)) (s2 : List (List C)) (r2 : Int) (x2 : Int) : (vBodyL E_iLost noInl (sg [pDisk, pDisk] [rI]) Tryz.f18 H
  [C.sl n1, C.sl e1, C.sl o1, C.sl s1, C.int IntKind.i64 r1, C.int IntKind.i64 x1, C.sl n2, C.sl e2, C.sl o2, C.sl s2,
    C.int IntKind.i64 r2, C.int IntKind.i64 x2]).eval =
 ((.must (dkOk n1 e1)
 (.must (dkOk n2 e2)
  (.ret [C.int IntKind.i64
    (imax (0 : Int)
      (IntKind.i64.wrap
        (Int.ofNat (lkRecs (chain (nds n1) (ens e1))).length - Int.ofNat (lkRecs (chain (nds n2) (ens e2))).length)))]))) : T (List C)).eval := evalEq (by kernel_rfl)
theorem lLost_tree (H : List Pt → Nat → St → T (List C)) (n1 : List (List C)) (e1 : List (List C)) (o1 : List (List C)) (s1 : List (List C)) (r1 : Int) (x1 : Int) (n2 : List (List C)) (e2 : List (List C)) (o2 : List (List C)) (s2 : List (List C)) (r2 : Int) (x2 : Int) : (vBodyL E_lLost noInl (sg [pLDisk, pLDisk] [rB]) Tryz.f4 H
  [C.sl n1, C.sl e1, C.sl o1, C.sl s1, C.int IntKind.i64 r1, C.int IntKind.i64 x1, C.sl n2, C.sl e2, C.sl o2, C.sl s2,
    C.int IntKind.i64 r2, C.int IntKind.i64 x2]).eval =
 ((.must (decide ((0 : Int) ≤ (1048576 : Int)) && decide ((1048576 : Int) ≤ (1048576 : Int)) &&
  (diskLens (281474976710656 : Nat) n1 e1 o1 s1 && diskRows n1 e1 o1 s1 && diskTexts n1 e1 o1 s1))
 (.ask (decide (szDisk (nds n1) (ens e1) (ens o1) (strs s1) (1048576 : Int) < (0 : Int)))
  (.ret [C.bool true])
  (.must (decide ((0 : Int) ≤ szDisk (nds n1) (ens e1) (ens o1) (strs s1) (1048576 : Int)) &&
    decide (szDisk (nds n1) (ens e1) (ens o1) (strs s1) (1048576 : Int) ≤ (1048576 : Int)) &&
  (diskLens (281474976710656 : Nat) n2 e2 o2 s2 && diskRows n2 e2 o2 s2 && diskTexts n2 e2 o2 s2))
   (.ask (decide
  (szDisk (nds n2) (ens e2) (ens o2) (strs s2) (szDisk (nds n1) (ens e1) (ens o1) (strs s1) (1048576 : Int)) <
    (0 : Int)))
    (.ret [C.bool true])
    (.must (diskLens (1048576 : Nat) n1 e1 o1 s1 && diskRows n1 e1 o1 s1)
     (.must ((true && n1.all fun row => decide (row.length = (3 : Nat))) &&
      ((true && e1.all fun row => decide (row.length = (2 : Nat))) &&
        ((true && o1.all fun row => decide (row.length = (2 : Nat))) &&
          ((true && s1.all fun row => decide (row.length = (1 : Nat))) &&
            (decide ((0 : Nat) < (1 : Nat)) && true && (decide ((0 : Nat) < (1 : Nat)) && true && true))))) &&
    true &&
  true)
      (.must (diskLens (1048576 : Nat) n2 e2 o2 s2 && diskRows n2 e2 o2 s2)
       (.must ((true && n2.all fun row => decide (row.length = (3 : Nat))) &&
      ((true && e2.all fun row => decide (row.length = (2 : Nat))) &&
        ((true && o2.all fun row => decide (row.length = (2 : Nat))) &&
          ((true && s2.all fun row => decide (row.length = (1 : Nat))) &&
            (decide ((0 : Nat) < (1 : Nat)) && true && (decide ((0 : Nat) < (1 : Nat)) && true && true))))) &&
    true &&
  true)
        (.must (dkOk (List.take n1.length n1) (List.take e1.length e1) && dkOk (List.take n2.length n2) (List.take e2.length e2))
         (.must (diskLens (1048576 : Nat) n1 e1 o1 s1 && diskRows n1 e1 o1 s1)
          (.must ((true && n1.all fun row => decide (row.length = (3 : Nat))) &&
      ((true && e1.all fun row => decide (row.length = (2 : Nat))) &&
        ((true && o1.all fun row => decide (row.length = (2 : Nat))) &&
          ((true && s1.all fun row => decide (row.length = (1 : Nat))) &&
            (decide ((0 : Nat) < (1 : Nat)) && true && (decide ((0 : Nat) < (1 : Nat)) && true && true))))) &&
    true &&
  true)
           (.must (diskLens (1048576 : Nat) n2 e2 o2 s2 && diskRows n2 e2 o2 s2)
            (.must ((true && n2.all fun row => decide (row.length = (3 : Nat))) &&
      ((true && e2.all fun row => decide (row.length = (2 : Nat))) &&
        ((true && o2.all fun row => decide (row.length = (2 : Nat))) &&
          ((true && s2.all fun row => decide (row.length = (1 : Nat))) &&
            (decide ((0 : Nat) < (1 : Nat)) && true && (decide ((0 : Nat) < (1 : Nat)) && true && true))))) &&
    true &&
  true)
             (.must (dkOk (List.take n1.length n1) (List.take e1.length e1) && dkOk (List.take n2.length n2) (List.take e2.length e2))
              (.ask (lost (recsOf (List.take n1.length n1) (List.take e1.length e1)).length
    (recsOf (List.take n2.length n2) (List.take e2.length e2)).length !=
  lost (recsOf (List.take n1.length n1) (List.take e1.length e1)).length
    (recsOf (List.take n2.length n2) (List.take e2.length e2)).length)
               (.ret [C.bool false])
               (.must (diskLens (1048576 : Nat) n1 e1 o1 s1 && diskRows n1 e1 o1 s1)
                (.must ((true && n1.all fun row => decide (row.length = (3 : Nat))) &&
      ((true && e1.all fun row => decide (row.length = (2 : Nat))) &&
        ((true && o1.all fun row => decide (row.length = (2 : Nat))) &&
          ((true && s1.all fun row => decide (row.length = (1 : Nat))) &&
            (decide ((0 : Nat) < (1 : Nat)) && true && (decide ((0 : Nat) < (1 : Nat)) && true && true))))) &&
    true &&
  true)
                 (.must (diskLens (1048576 : Nat) (List.take n1.length n1) (List.take e1.length e1) (List.take o1.length o1)
      (List.take s1.length s1) &&
    diskRows (List.take n1.length n1) (List.take e1.length e1) (List.take o1.length o1) (List.take s1.length s1) &&
  diskRows (List.take n1.length n1) (List.take e1.length e1) (List.take o1.length o1) (List.take s1.length s1))
                  (.ask (eqDk (List.take n1.length n1) (List.take e1.length e1) (List.take o1.length o1) (List.take s1.length s1) r1 x1
  (List.take n1.length n1) (List.take e1.length e1) (List.take o1.length o1) (List.take s1.length s1) r1 x1)
                   (.must (diskLens (1048576 : Nat) n2 e2 o2 s2 && diskRows n2 e2 o2 s2)
                    (.must ((true && n2.all fun row => decide (row.length = (3 : Nat))) &&
      ((true && e2.all fun row => decide (row.length = (2 : Nat))) &&
        ((true && o2.all fun row => decide (row.length = (2 : Nat))) &&
          ((true && s2.all fun row => decide (row.length = (1 : Nat))) &&
            (decide ((0 : Nat) < (1 : Nat)) && true && (decide ((0 : Nat) < (1 : Nat)) && true && true))))) &&
    true &&
  true)
                     (.must (diskLens (1048576 : Nat) (List.take n2.length n2) (List.take e2.length e2) (List.take o2.length o2)
      (List.take s2.length s2) &&
    diskRows (List.take n2.length n2) (List.take e2.length e2) (List.take o2.length o2) (List.take s2.length s2) &&
  diskRows (List.take n2.length n2) (List.take e2.length e2) (List.take o2.length o2) (List.take s2.length s2))
                      (.ask (eqDk (List.take n2.length n2) (List.take e2.length e2) (List.take o2.length o2) (List.take s2.length s2) r2 x2
  (List.take n2.length n2) (List.take e2.length e2) (List.take o2.length o2) (List.take s2.length s2) r2 x2)
                       (.ret [C.bool true])
                       (.ret [C.bool false])))))
                   (.ret [C.bool false])))))))))))))))))))) : T (List C)).eval := evalEq (by kernel_rfl)
theorem sLogGet_tree (H : List Pt → Nat → St → T (List C)) (ns : List (List C)) (es : List (List C)) (os : List (List C)) (ss : List (List C)) (r : Int) (x : Int) (i : Int) : (vBodyL E_sLogGet noInl (sg [pDisk, pI] [rS, rI]) Tryz.f19 H
  [C.sl ns, C.sl es, C.sl os, C.sl ss, C.int IntKind.i64 r, C.int IntKind.i64 x, C.int IntKind.i64 i]).eval =
 ((.must (dkOk ns es)
 (.must ((true && (List.map eStr (lkRecs (chain (nds ns) (ens es)))).all fun row => decide (row.length = (1 : Nat))) && true &&
    true &&
  true)
  (.ask (inB i (0 : Int) (IntKind.i64.wrap ((↑(List.map eStr (lkRecs (chain (nds ns) (ens es)))).length : Int) - (1 : Int))))
   (.must (decide ((0 : Int) ≤ i) && decide (i < (↑(List.map eStr (lkRecs (chain (nds ns) (ens es)))).length : Int)))
    (.must (decide ((0 : Nat) + i.toNat < (List.map eStr (lkRecs (chain (nds ns) (ens es)))).length) &&
  (decide ((0 : Nat) < ((List.map eStr (lkRecs (chain (nds ns) (ens es)))).getD ((0 : Nat) + i.toNat) []).length) &&
      C.is K.str
        (((List.map eStr (lkRecs (chain (nds ns) (ens es)))).getD ((0 : Nat) + i.toNat) []).getD (0 : Nat)
          (C.fn (0 : FuncId) [])) &&
    true))
     (.ret [C.str
    (((List.map eStr (lkRecs (chain (nds ns) (ens es)))).getD ((0 : Nat) + i.toNat) []).getD (0 : Nat)
        (C.fn (0 : FuncId) [])).toStr,
  C.int IntKind.i64 (0 : Int)])))
   (.ret [C.str [], C.int IntKind.i64 (1 : Int)])))) : T (List C)).eval := evalEq (by kernel_rfl)
theorem iLogGet_tree (H : List Pt → Nat → St → T (List C)) (ns : List (List C)) (es : List (List C)) (os : List (List C)) (ss : List (List C)) (r : Int) (x : Int) (i : Int) : (vBodyL E_iLogGet noInl (sg [pDisk, pI] [rS, rI]) Tryz.f20 H
  [C.sl ns, C.sl es, C.sl os, C.sl ss, C.int IntKind.i64 r, C.int IntKind.i64 x, C.int IntKind.i64 i]).eval =
 ((.must (dkOk ns es)
 (.must ((true && (List.map eStr (lkRecs (chain (nds ns) (ens es)))).all fun row => decide (row.length = (1 : Nat))) && true &&
    true &&
  true)
  (.ask (inB i (0 : Int) (IntKind.i64.wrap ((↑(List.map eStr (lkRecs (chain (nds ns) (ens es)))).length : Int) - (1 : Int))))
   (.must (decide ((0 : Int) ≤ i) && decide (i < (↑(List.map eStr (lkRecs (chain (nds ns) (ens es)))).length : Int)))
    (.must (decide ((0 : Nat) + i.toNat < (List.map eStr (lkRecs (chain (nds ns) (ens es)))).length) &&
  (decide ((0 : Nat) < ((List.map eStr (lkRecs (chain (nds ns) (ens es)))).getD ((0 : Nat) + i.toNat) []).length) &&
      C.is K.str
        (((List.map eStr (lkRecs (chain (nds ns) (ens es)))).getD ((0 : Nat) + i.toNat) []).getD (0 : Nat)
          (C.fn (0 : FuncId) [])) &&
    true))
     (.ret [C.str
    (((List.map eStr (lkRecs (chain (nds ns) (ens es)))).getD ((0 : Nat) + i.toNat) []).getD (0 : Nat)
        (C.fn (0 : FuncId) [])).toStr,
  C.int IntKind.i64 (0 : Int)])))
   (.ret [C.str [], C.int IntKind.i64 (1 : Int)])))) : T (List C)).eval := evalEq (by kernel_rfl)
theorem lLogGet_tree (H : List Pt → Nat → St → T (List C)) (ns : List (List C)) (es : List (List C)) (os : List (List C)) (ss : List (List C)) (r : Int) (x : Int) (i : Int) : (vBodyL E_lLogGet noInl (sg [pLDisk, pI] [rB]) Tryz.f5 H
  [C.sl ns, C.sl es, C.sl os, C.sl ss, C.int IntKind.i64 r, C.int IntKind.i64 x, C.int IntKind.i64 i]).eval =
 ((.must (decide ((0 : Int) ≤ (1048576 : Int)) && decide ((1048576 : Int) ≤ (1048576 : Int)) &&
  (diskLens (281474976710656 : Nat) ns es os ss && diskRows ns es os ss && diskTexts ns es os ss))
 (.ask (decide (szDisk (nds ns) (ens es) (ens os) (strs ss) (1048576 : Int) < (0 : Int)))
  (.ret [C.bool true])
  (.must (diskLens (1048576 : Nat) ns es os ss && diskRows ns es os ss)
   (.must ((true && ns.all fun row => decide (row.length = (3 : Nat))) &&
      ((true && es.all fun row => decide (row.length = (2 : Nat))) &&
        ((true && os.all fun row => decide (row.length = (2 : Nat))) &&
          ((true && ss.all fun row => decide (row.length = (1 : Nat))) &&
            (decide ((0 : Nat) < (1 : Nat)) && true && (decide ((0 : Nat) < (1 : Nat)) && true && true))))) &&
    true &&
  true)
    (.must (dkOk (List.take ns.length ns) (List.take es.length es))
     (.must (diskLens (1048576 : Nat) ns es os ss && diskRows ns es os ss)
      (.must ((true && ns.all fun row => decide (row.length = (3 : Nat))) &&
      ((true && es.all fun row => decide (row.length = (2 : Nat))) &&
        ((true && os.all fun row => decide (row.length = (2 : Nat))) &&
          ((true && ss.all fun row => decide (row.length = (1 : Nat))) &&
            (decide ((0 : Nat) < (1 : Nat)) && true && (decide ((0 : Nat) < (1 : Nat)) && true && true))))) &&
    true &&
  true)
       (.must (dkOk (List.take ns.length ns) (List.take es.length es))
        (.ask (!getRec (recsOf (List.take ns.length ns) (List.take es.length es)) i ==
    getRec (recsOf (List.take ns.length ns) (List.take es.length es)) i)
         (.ret [C.bool false])
         (.ask (getCode (recsOf (List.take ns.length ns) (List.take es.length es)).length i !=
  getCode (recsOf (List.take ns.length ns) (List.take es.length es)).length i)
          (.ret [C.bool false])
          (.must (diskLens (1048576 : Nat) ns es os ss && diskRows ns es os ss)
           (.must ((true && ns.all fun row => decide (row.length = (3 : Nat))) &&
      ((true && es.all fun row => decide (row.length = (2 : Nat))) &&
        ((true && os.all fun row => decide (row.length = (2 : Nat))) &&
          ((true && ss.all fun row => decide (row.length = (1 : Nat))) &&
            (decide ((0 : Nat) < (1 : Nat)) && true && (decide ((0 : Nat) < (1 : Nat)) && true && true))))) &&
    true &&
  true)
            (.must (diskLens (1048576 : Nat) (List.take ns.length ns) (List.take es.length es) (List.take os.length os)
      (List.take ss.length ss) &&
    diskRows (List.take ns.length ns) (List.take es.length es) (List.take os.length os) (List.take ss.length ss) &&
  diskRows (List.take ns.length ns) (List.take es.length es) (List.take os.length os) (List.take ss.length ss))
             (.ask (eqDk (List.take ns.length ns) (List.take es.length es) (List.take os.length os) (List.take ss.length ss) r x
  (List.take ns.length ns) (List.take es.length es) (List.take os.length os) (List.take ss.length ss) r x)
              (.ret [C.bool true])
              (.ret [C.bool false]))))))))))))))) : T (List C)).eval := evalEq (by kernel_rfl)
theorem ixStr_tree (H : List Pt → Nat → St → T (List C)) (l : List (List C)) (r : List UInt8) : (vBodyL E_ixStr noInl (sg [pSl (9 : TypeId), pS] [rI]) Tryz.f49 H [C.sl l, C.str r]).eval =
 ((H [Pt.r, Pt.l, Pt.r, Pt.b] (9223372036854775808 : Nat) (H_ixStr (l) (r) ((↑l.length : Int)) ((0 : Int)))) : T (List C)).eval := evalEq (by kernel_rfl)
theorem ixStr_round0 (H : List Pt → Nat → St → T (List C)) (l : List (List C)) (r : List UInt8) (n : Int) (i : Int) (k : Nat) : (vRound E_ixStr noInl (sg [pSl (9 : TypeId), pS] [rI]) Tryz.f49 H [Pt.r, Pt.l, Pt.r, Pt.b] k (H_ixStr l r n i)).eval =
 ((.ask (decide (i < n))
 (.must (decide ((0 : Int) ≤ i) && decide (i < (↑l.length : Int)) && decide ((l.getD i.toNat []).length = (1 : Nat)))
  (.must (decide ((0 : Nat) < (l.getD i.toNat []).length) &&
    C.is K.str ((l.getD i.toNat []).getD (0 : Nat) (C.fn (0 : FuncId) [])) &&
  true)
   (.ask (r == ((l.getD i.toNat []).getD (0 : Nat) (C.fn (0 : FuncId) [])).toStr)
    (.ret [C.int IntKind.i64 i])
    (H [Pt.r, Pt.l, Pt.r, Pt.b] k (H_ixStr (l) (r) (n) (IntKind.i64.wrap (i + (1 : Int))))))))
 (.ret [C.int IntKind.i64 (-1 : Int)])) : T (List C)).eval := evalEq (by kernel_rfl)
theorem sLogFind_tree (H : List Pt → Nat → St → T (List C)) (ns : List (List C)) (es : List (List C)) (os : List (List C)) (ss : List (List C)) (r : Int) (x : Int) (i : List UInt8) : (vBodyL E_sLogFind noInl (sg [pDisk, pS] [rI]) Tryz.f21 H
  [C.sl ns, C.sl es, C.sl os, C.sl ss, C.int IntKind.i64 r, C.int IntKind.i64 x, C.str i]).eval =
 ((.must (dkOk ns es)
 (.must ((true && (List.map eStr (lkRecs (chain (nds ns) (ens es)))).all fun row => decide (row.length = (1 : Nat))) && true &&
    true &&
  true)
  (H [Pt.r, Pt.r, Pt.l, Pt.r, Pt.b] (9223372036854775808 : Nat) (H_sLogFind ((List.map eStr (lkRecs (chain (nds ns) (ens es)))).length) (List.map eStr (lkRecs (chain (nds ns) (ens es)))) (i) ((0 : Int)))))) : T (List C)).eval := evalEq (by kernel_rfl)
theorem sLogFind_round0 (H : List Pt → Nat → St → T (List C)) (n : Nat) (l : List (List C)) (r : List UInt8) (i : Int) (k : Nat) : (vRound E_sLogFind noInl (sg [pDisk, pS] [rI]) Tryz.f21 H [Pt.r, Pt.r, Pt.l, Pt.r, Pt.b] k (H_sLogFind n l r i)).eval =
 ((.ask (decide (i < (↑n : Int)))
 (.must (decide ((0 : Int) ≤ i) && decide (i < (↑n : Int)))
  (.must (decide ((0 : Nat) + i.toNat < l.length) &&
  (decide ((0 : Nat) < (l.getD ((0 : Nat) + i.toNat) []).length) &&
      C.is K.str ((l.getD ((0 : Nat) + i.toNat) []).getD (0 : Nat) (C.fn (0 : FuncId) [])) &&
    true))
   (.ask (((l.getD ((0 : Nat) + i.toNat) []).getD (0 : Nat) (C.fn (0 : FuncId) [])).toStr == r)
    (.ret [C.int IntKind.i64 i])
    (H [Pt.r, Pt.r, Pt.l, Pt.r, Pt.b] k (H_sLogFind (n) (l) (r) (IntKind.i64.wrap (i + (1 : Int))))))))
 (.ret [C.int IntKind.i64 (-1 : Int)])) : T (List C)).eval := evalEq (by kernel_rfl)
theorem iLogFind_tree (H : List Pt → Nat → St → T (List C)) (ns : List (List C)) (es : List (List C)) (os : List (List C)) (ss : List (List C)) (r : Int) (x : Int) (i : List UInt8) : (vBodyL E_iLogFind noInl (sg [pDisk, pS] [rI]) Tryz.f22 H
  [C.sl ns, C.sl es, C.sl os, C.sl ss, C.int IntKind.i64 r, C.int IntKind.i64 x, C.str i]).eval =
 ((.must (dkOk ns es)
 (.must ((true && (List.map eStr (lkRecs (chain (nds ns) (ens es)))).all fun row => decide (row.length = (1 : Nat))) && true &&
    true &&
  true)
  (.must (decide
    ((List.take (List.map eStr (lkRecs (chain (nds ns) (ens es)))).length
          (List.map eStr (lkRecs (chain (nds ns) (ens es))))).length ≤
      bigN) &&
  rowsOk [K.str]
    (List.take (List.map eStr (lkRecs (chain (nds ns) (ens es)))).length
      (List.map eStr (lkRecs (chain (nds ns) (ens es))))))
   (.ret [C.int IntKind.i64
    (findRec
      (strs
        (List.take (List.map eStr (lkRecs (chain (nds ns) (ens es)))).length
          (List.map eStr (lkRecs (chain (nds ns) (ens es))))))
      i)])))) : T (List C)).eval := evalEq (by kernel_rfl)
theorem lLogFind_tree (H : List Pt → Nat → St → T (List C)) (ns : List (List C)) (es : List (List C)) (os : List (List C)) (ss : List (List C)) (r : Int) (x : Int) (i : List UInt8) : (vBodyL E_lLogFind noInl (sg [pLDisk, pS] [rB]) Tryz.f6 H
  [C.sl ns, C.sl es, C.sl os, C.sl ss, C.int IntKind.i64 r, C.int IntKind.i64 x, C.str i]).eval =
 ((.ask (decide ((1048576 : Int) < (↑i.length : Int)))
 (.ret [C.bool true])
 (.must (decide ((0 : Int) ≤ (1048576 : Int)) && decide ((1048576 : Int) ≤ (1048576 : Int)) &&
  (diskLens (281474976710656 : Nat) ns es os ss && diskRows ns es os ss && diskTexts ns es os ss))
  (.ask (decide (szDisk (nds ns) (ens es) (ens os) (strs ss) (1048576 : Int) < (0 : Int)))
   (.ret [C.bool true])
   (.must (diskLens (1048576 : Nat) ns es os ss && diskRows ns es os ss)
    (.must ((true && ns.all fun row => decide (row.length = (3 : Nat))) &&
      ((true && es.all fun row => decide (row.length = (2 : Nat))) &&
        ((true && os.all fun row => decide (row.length = (2 : Nat))) &&
          ((true && ss.all fun row => decide (row.length = (1 : Nat))) &&
            (decide ((0 : Nat) < (1 : Nat)) && true && (decide ((0 : Nat) < (1 : Nat)) && true && true))))) &&
    true &&
  true)
     (.must (dkOk (List.take ns.length ns) (List.take es.length es))
      (.must (diskLens (1048576 : Nat) ns es os ss && diskRows ns es os ss)
       (.must ((true && ns.all fun row => decide (row.length = (3 : Nat))) &&
      ((true && es.all fun row => decide (row.length = (2 : Nat))) &&
        ((true && os.all fun row => decide (row.length = (2 : Nat))) &&
          ((true && ss.all fun row => decide (row.length = (1 : Nat))) &&
            (decide ((0 : Nat) < (1 : Nat)) && true && (decide ((0 : Nat) < (1 : Nat)) && true && true))))) &&
    true &&
  true)
        (.must (dkOk (List.take ns.length ns) (List.take es.length es))
         (.ask (findRec (recsOf (List.take ns.length ns) (List.take es.length es)) i !=
  findRec (recsOf (List.take ns.length ns) (List.take es.length es)) i)
          (.ret [C.bool false])
          (.must (diskLens (1048576 : Nat) ns es os ss && diskRows ns es os ss)
           (.must ((true && ns.all fun row => decide (row.length = (3 : Nat))) &&
      ((true && es.all fun row => decide (row.length = (2 : Nat))) &&
        ((true && os.all fun row => decide (row.length = (2 : Nat))) &&
          ((true && ss.all fun row => decide (row.length = (1 : Nat))) &&
            (decide ((0 : Nat) < (1 : Nat)) && true && (decide ((0 : Nat) < (1 : Nat)) && true && true))))) &&
    true &&
  true)
            (.must (diskLens (1048576 : Nat) (List.take ns.length ns) (List.take es.length es) (List.take os.length os)
      (List.take ss.length ss) &&
    diskRows (List.take ns.length ns) (List.take es.length es) (List.take os.length os) (List.take ss.length ss) &&
  diskRows (List.take ns.length ns) (List.take es.length es) (List.take os.length os) (List.take ss.length ss))
             (.ask (eqDk (List.take ns.length ns) (List.take es.length es) (List.take os.length os) (List.take ss.length ss) r x
  (List.take ns.length ns) (List.take es.length es) (List.take os.length os) (List.take ss.length ss) r x)
              (.ret [C.bool true])
              (.ret [C.bool false]))))))))))))))) : T (List C)).eval := evalEq (by kernel_rfl)
end Go.Proofs.YtpjcnjefffakpaaGreatDoor.V

namespace Go.Proofs.YtpjcnjefffakpaaGreatDoor.V

theorem recs_len {ns es : List (List C)} (h : dkOk ns es = true) : (recsOf ns es).length ≤ 16777216 := by
  have h1 := lkRecs_len (chain (nds ns) (ens es)) (chain_text h)
  have h2 := chainGo_len (nds ns) (ens es) 16 0 0
  unfold chain at h1
  unfold recsOf chain
  omega
theorem recs_60 (ns es : List (List C)) : ∀ r ∈ recsOf ns es, r.length ≤ 60 := fun r hr => by
  unfold recsOf lkRecs at hr
  obtain ⟨x, _, hx⟩ := List.mem_flatMap.1 hr
  exact (scan_facts x.2).2.2 r hx
theorem sLost_E : EnvSound Tryz.prog E_sLost := mkE_sound (by simp [sRowOf_sound])
theorem sLost_sound : Sound Tryz.prog 17 (sg [pDisk, pDisk] [rI]) lostSpec := vBody_sound sLost_E noInl_ok Tryz.func17 (by kernel_rfl) fun cs outs hk h => by
  unfold lostSpec at h
  split at h
  · simp only [Option.some.injEq, Prod.mk.injEq, Bool.and_eq_true] at h
    obtain ⟨⟨h1, h2⟩, rfl⟩ := h
    rename_i n1 e1 o1 s1 r1 x1 n2 e2 o2 s2 r2 x2
    have l1 := recs_len h1
    have l2 := recs_len h2
    rw [vBody_L, sLost_tree]
    change _ = some [C.int .i64 (lost (recsOf n1 e1).length (recsOf n2 e2).length)]
    have e1' : lkRecs (chain (nds n1) (ens e1)) = recsOf n1 e1 := rfl
    have e2' : lkRecs (chain (nds n2) (ens e2)) = recsOf n2 e2 := rfl
    rw [e1', e2']
    generalize recsOf n1 e1 = a at l1 ⊢
    generalize recsOf n2 e2 = b at l2 ⊢
    have w : IntKind.i64.wrap ((a.length : Int) - (b.length : Int)) = (a.length : Int) - b.length := by rw [wrap64] <;> omega
    simp only [eval_must', eval_ask', eval_ret', h1, h2, rows1, decide_true, Bool.and_self, if_true, List.length_map, w, decide_eq_true_eq, lost]
    split
    · rw [if_neg (by omega)]
    · rw [if_pos (by omega), Int.ofNat_sub (by omega)]
  · cases h
theorem iLost_E : EnvSound Tryz.prog E_iLost := mkE_sound (by simp [iLogLen_sound])
theorem iLost_sound : Sound Tryz.prog 18 (sg [pDisk, pDisk] [rI]) lostSpec := vBody_sound iLost_E noInl_ok Tryz.func18 (by kernel_rfl) fun cs outs hk h => by
  unfold lostSpec at h
  split at h
  · simp only [Option.some.injEq, Prod.mk.injEq, Bool.and_eq_true] at h
    obtain ⟨⟨h1, h2⟩, rfl⟩ := h
    rename_i n1 e1 o1 s1 r1 x1 n2 e2 o2 s2 r2 x2
    have l1 := recs_len h1
    have l2 := recs_len h2
    rw [vBody_L, iLost_tree]
    have e1' : lkRecs (chain (nds n1) (ens e1)) = recsOf n1 e1 := rfl
    have e2' : lkRecs (chain (nds n2) (ens e2)) = recsOf n2 e2 := rfl
    rw [e1', e2']
    generalize recsOf n1 e1 = a at l1 ⊢
    generalize recsOf n2 e2 = b at l2 ⊢
    have w : IntKind.i64.wrap (Int.ofNat a.length - Int.ofNat b.length) = (a.length : Int) - b.length := by rw [wrap64] <;> simp only [Int.ofNat_eq_natCast] <;> omega
    simp only [eval_must', eval_ret', h1, h2, if_true, w, lost, imax]
    split
    · rw [if_pos (by omega), Int.ofNat_sub (by omega)]
    · by_cases hab : b.length ≤ a.length
      · rw [if_pos hab]
        have : a.length - b.length = 0 := by omega
        rw [this]; rfl
      · rw [if_neg hab]
  · cases h
theorem lLost_E : EnvSound Tryz.prog E_lLost := mkE_sound (by simp [szDiskF_sound, toDisk_sound, eqDisk_sound, sLost_sound, iLost_sound])
theorem lLost_sound : Sound Tryz.prog 4 (sg [pLDisk, pLDisk] [rB]) lostLaw := vBody_sound lLost_E noInl_ok Tryz.func4 (by kernel_rfl) fun cs outs hk h => by
  unfold lostLaw at h
  split at h
  · simp only [Option.some.injEq, Prod.mk.injEq, Bool.and_eq_true] at h
    obtain ⟨⟨hl, hl2⟩, rfl⟩ := h
    rename_i n1 e1 o1 s1 r1 x1 n2 e2 o2 s2 r2 x2
    rw [vBody_L, lLost_tree]
    have hl' := hl
    have hl2' := hl2
    unfold lawDisk at hl' hl2'
    simp only [Bool.and_eq_true] at hl' hl2'
    obtain ⟨⟨g1, g2⟩, g3⟩ := hl'
    obtain ⟨⟨k1, k2⟩, k3⟩ := hl2'
    have d0 : decide ((0 : Int) ≤ 1048576) = true := by decide
    have d1 : decide ((1048576 : Int) ≤ 1048576) = true := by decide
    have d2 : decide (0 < 1) = true := by decide
    simp only [eval_must', eval_ask', eval_ret', d0, d1, d2, g1, g2, g3, k1, k2, k3, Bool.and_self, Bool.and_true, if_true, decide_eq_true_eq]
    by_cases hs : szDisk (nds n1) (ens e1) (ens o1) (strs s1) 1048576 < 0
    · simp only [hs, if_true]
    · obtain ⟨_, _, _, q4, q5⟩ := small_disk hl hs
      have rg : 0 ≤ szDisk (nds n1) (ens e1) (ens o1) (strs s1) 1048576 ∧ szDisk (nds n1) (ens e1) (ens o1) (strs s1) 1048576 ≤ 1048576 := szDisk_rng _ _ _ _ _ hs
      generalize hz : szDisk (nds n1) (ens e1) (ens o1) (strs s1) 1048576 = z at rg hs ⊢
      by_cases hs2 : szDisk (nds n2) (ens e2) (ens o2) (strs s2) z < 0
      · simp only [hs, hs2, rg, decide_true, Bool.and_self, if_false, if_true]
      · have hs3 : ¬ szDisk (nds n2) (ens e2) (ens o2) (strs s2) 1048576 < 0 := szDisk_mono _ _ _ _ z 1048576 rg.2 hs2
        obtain ⟨_, _, _, p4, p5⟩ := small_disk hl2 hs3
        obtain ⟨r1', r2', r3', r4'⟩ := disk_rows g2
        obtain ⟨t1, t2, t3, t4⟩ := disk_rows k2
        simp only [hs, hs2, rg, if_false, List.take_length, g2, k2, q4, q5, p4, p5, r1', r2', r3', r4', t1, t2, t3, t4, decide_true, Bool.and_self, if_true, bne_self_eq_false, Bool.false_eq_true, eqDk_self]
  · cases h

theorem inB_get (n : Nat) (i : Int) (h : n ≤ 16777216) : inB i 0 (IntKind.i64.wrap ((n : Int) - 1)) = getOk n i := by
  have w : IntKind.i64.wrap ((n : Int) - 1) = (n : Int) - 1 := by rw [wrap64] <;> omega
  rw [w]
  unfold inB getOk
  congr 1
  by_cases hi : i < n
  · rw [decide_eq_true hi, decide_eq_true (by omega)]
  · rw [decide_eq_false hi, decide_eq_false (by omega)]
theorem getOk_iff (n : Nat) (i : Int) : getOk n i = true ↔ 0 ≤ i ∧ i < n := by simp [getOk]
theorem sLogGet_E : EnvSound Tryz.prog E_sLogGet := mkE_sound (by simp [sIn_sound, sRowOf_sound])
theorem sLogGet_sound : Sound Tryz.prog 19 (sg [pDisk, pI] [rS, rI]) logGetSpec := vBody_sound sLogGet_E noInl_ok Tryz.func19 (by kernel_rfl) fun cs outs hk h => by
  unfold logGetSpec at h
  split at h
  · simp only [Option.some.injEq, Prod.mk.injEq] at h
    obtain ⟨h1, rfl⟩ := h
    rename_i ns es os ss r x i
    have l1 := recs_len h1
    rw [vBody_L, sLogGet_tree]
    have e1' : lkRecs (chain (nds ns) (ens es)) = recsOf ns es := rfl
    rw [e1']
    generalize recsOf ns es = a at l1 ⊢
    unfold getRec getCode
    simp only [eval_must', eval_ask', eval_ret', h1, rows1, decide_true, Bool.and_self, if_true, List.length_map, inB_get a.length i l1]
    by_cases hg : getOk a.length i = true
    · obtain ⟨c1, c2⟩ := (getOk_iff _ _).1 hg
      have hi : i.toNat < a.length := by omega
      have g := map_getD eStr a [] i.toNat hi
      simp only [hg, c1, c2, hi, if_true, Nat.zero_add, g, List.getD_cons_zero, C.toStr, C.is, List.length_cons, List.length_nil, Nat.zero_lt_succ, decide_true, Bool.and_self]
    · simp only [hg, Bool.false_eq_true, if_false]
  · cases h
theorem iLogGet_E : EnvSound Tryz.prog E_iLogGet := mkE_sound (by simp [iIn_sound, iRowOf_sound])
theorem iLogGet_sound : Sound Tryz.prog 20 (sg [pDisk, pI] [rS, rI]) logGetSpec := vBody_sound iLogGet_E noInl_ok Tryz.func20 (by kernel_rfl) fun cs outs hk h => by
  unfold logGetSpec at h
  split at h
  · simp only [Option.some.injEq, Prod.mk.injEq] at h
    obtain ⟨h1, rfl⟩ := h
    rename_i ns es os ss r x i
    have l1 := recs_len h1
    rw [vBody_L, iLogGet_tree]
    have e1' : lkRecs (chain (nds ns) (ens es)) = recsOf ns es := rfl
    rw [e1']
    generalize recsOf ns es = a at l1 ⊢
    unfold getRec getCode
    simp only [eval_must', eval_ask', eval_ret', h1, rows1, decide_true, Bool.and_self, if_true, List.length_map, inB_get a.length i l1]
    by_cases hg : getOk a.length i = true
    · obtain ⟨c1, c2⟩ := (getOk_iff _ _).1 hg
      have hi : i.toNat < a.length := by omega
      have g := map_getD eStr a [] i.toNat hi
      simp only [hg, c1, c2, hi, if_true, Nat.zero_add, g, List.getD_cons_zero, C.toStr, C.is, List.length_cons, List.length_nil, Nat.zero_lt_succ, decide_true, Bool.and_self]
    · simp only [hg, Bool.false_eq_true, if_false]
  · cases h
theorem lLogGet_E : EnvSound Tryz.prog E_lLogGet := mkE_sound (by simp [szDiskF_sound, toDisk_sound, eqDisk_sound, sLogGet_sound, iLogGet_sound])
theorem lLogGet_sound : Sound Tryz.prog 5 (sg [pLDisk, pI] [rB]) diskIntLaw := vBody_sound lLogGet_E noInl_ok Tryz.func5 (by kernel_rfl) fun cs outs hk h => by
  unfold diskIntLaw at h
  split at h
  · simp only [Option.some.injEq, Prod.mk.injEq, Bool.and_eq_true] at h
    obtain ⟨⟨hl, hi0⟩, rfl⟩ := h
    rename_i ns es os ss r x i
    rw [vBody_L, lLogGet_tree]
    have hl' := hl
    unfold lawDisk at hl'
    simp only [Bool.and_eq_true] at hl'
    obtain ⟨⟨g1, g2⟩, g3⟩ := hl'
    have d0 : decide ((0 : Int) ≤ 1048576) = true := by decide
    have d1 : decide ((1048576 : Int) ≤ 1048576) = true := by decide
    have d2 : decide (0 < 1) = true := by decide
    simp only [eval_must', eval_ask', eval_ret', d0, d1, d2, g1, g2, g3, Bool.and_self, if_true, decide_eq_true_eq]
    by_cases hs : szDisk (nds ns) (ens es) (ens os) (strs ss) 1048576 < 0
    · simp only [hs, if_true]
    · obtain ⟨_, _, _, q4, q5⟩ := small_disk hl hs
      obtain ⟨r1, r2, r3, r4⟩ := disk_rows g2
      simp only [hs, if_false, List.take_length, g2, q4, q5, r1, r2, r3, r4, Bool.and_self, if_true, bne_self_eq_false, beq_self_eq_true, Bool.not_true, Bool.false_eq_true, eqDk_self]
  · cases h

theorem ixStr_loop (l : List (List UInt8)) (r : List UInt8) (hl : l.length ≤ 281474976710656) : ∀ (n i : Nat), i ≤ l.length → l.length < i + n →
    (vLoop E_ixStr noInl (sg [pSl 9, pS] [rI]) Tryz.f49 [.r, .l, .r, .b] n (H_ixStr (l.map eStr) r l.length i)).eval = some [.int .i64 (idxGo (recIs r) (l.drop i) i)] := by
  intro n
  induction n with
  | zero => intro i h1 h2; omega
  | succ n ih =>
    intro i h1 h2
    rw [vLoop_L _ _ _ _ _ _ _ (by kernel_rfl), ixStr_round0]
    by_cases hi : i < l.length
    · have g := map_getD eStr l [] i hi
      have w : IntKind.i64.wrap ((i : Int) + 1) = ((i + 1 : Nat) : Int) := by rw [wrap64] <;> omega
      have hz : (0 : Int) ≤ i := by omega
      have hi' : (i : Int) < l.length := by omega
      rw [drop_cons l i [] hi]
      generalize l.getD i [] = y at g ⊢
      simp only [eval_must', eval_ask', eval_ret', if_true, decide_eq_true_eq, Bool.and_eq_true, w, hz, hi', Int.toNat_natCast, List.length_map, g, and_self, List.getD_cons_zero, C.toStr, C.is, List.length_cons, List.length_nil, Nat.zero_add, Nat.zero_lt_succ, decide_true, beq_iff_eq, idxGo, recIs]
      by_cases hy : y = r
      · simp only [hy, if_true]
      · have hy2 : ¬ r = y := fun e => hy e.symm
        simp only [hy, hy2, if_false]
        exact ih (i + 1) (by omega) (by omega)
    · have e : i = l.length := by omega
      subst e
      have hi' : ¬ ((l.length : Int) < (l.length : Int)) := by omega
      simp only [eval_ask', eval_ret', decide_eq_true_eq, hi', if_false, List.drop_length, idxGo]
theorem ixStr_E : EnvSound Tryz.prog E_ixStr := mkE_sound (by simp [])
theorem ixStr_sound : Sound Tryz.prog 49 (sg [pSl 9, pS] [rI]) ixStrSpec := vBody_sound ixStr_E noInl_ok Tryz.func49 (by kernel_rfl) fun cs outs hk h => by
  unfold ixStrSpec at h
  split at h
  · simp only [Option.some.injEq, Prod.mk.injEq, Bool.and_eq_true, decide_eq_true_eq] at h
    obtain ⟨⟨h1, h2⟩, rfl⟩ := h
    rename_i rows r
    have hr := rows_strs h2
    generalize strs rows = l at hr ⊢
    subst hr
    rw [List.length_map] at h1
    rw [vBody_L, ixStr_tree]
    have := ixStr_loop l r h1 9223372036854775808 0 (by omega) (by have : l.length ≤ 281474976710656 := h1; omega)
    rw [show (l.length : Int) = ((l.map eStr).length : Int) by rw [List.length_map]] at this
    exact this
  · cases h
theorem sLogFind_loop (l : List (List UInt8)) (r : List UInt8) (hl : l.length ≤ 16777216) : ∀ (n i : Nat), i ≤ l.length → l.length < i + n →
    (vLoop E_sLogFind noInl (sg [pDisk, pS] [rI]) Tryz.f21 [.r, .r, .l, .r, .b] n (H_sLogFind l.length (l.map eStr) r i)).eval = some [.int .i64 (idxGo (recIs r) (l.drop i) i)] := by
  intro n
  induction n with
  | zero => intro i h1 h2; omega
  | succ n ih =>
    intro i h1 h2
    rw [vLoop_L _ _ _ _ _ _ _ (by kernel_rfl), sLogFind_round0]
    by_cases hi : i < l.length
    · have g := map_getD eStr l [] i hi
      have w : IntKind.i64.wrap ((i : Int) + 1) = ((i + 1 : Nat) : Int) := by rw [wrap64] <;> omega
      have hz : (0 : Int) ≤ i := by omega
      have hi' : (i : Int) < l.length := by omega
      rw [drop_cons l i [] hi]
      generalize l.getD i [] = y at g ⊢
      simp only [eval_must', eval_ask', eval_ret', if_true, decide_eq_true_eq, Bool.and_eq_true, w, hz, hi', hi, Int.toNat_natCast, List.length_map, g, and_self, List.getD_cons_zero, C.toStr, C.is, List.length_cons, List.length_nil, Nat.zero_add, Nat.zero_lt_succ, decide_true, beq_iff_eq, idxGo, recIs]
      by_cases hy : y = r
      · simp only [hy, if_true]
      · simp only [hy, if_false]
        exact ih (i + 1) (by omega) (by omega)
    · have e : i = l.length := by omega
      subst e
      have hi' : ¬ ((l.length : Int) < (l.length : Int)) := by omega
      simp only [eval_ask', eval_ret', decide_eq_true_eq, hi', if_false, List.drop_length, idxGo]
theorem sLogFind_E : EnvSound Tryz.prog E_sLogFind := mkE_sound (by simp [sRowOf_sound])
theorem sLogFind_sound : Sound Tryz.prog 21 (sg [pDisk, pS] [rI]) logFindSpec := vBody_sound sLogFind_E noInl_ok Tryz.func21 (by kernel_rfl) fun cs outs hk h => by
  unfold logFindSpec at h
  split at h
  · simp only [Option.some.injEq, Prod.mk.injEq] at h
    obtain ⟨h1, rfl⟩ := h
    rename_i ns es os ss r x rc
    have l1 := recs_len h1
    rw [vBody_L, sLogFind_tree]
    have e1' : lkRecs (chain (nds ns) (ens es)) = recsOf ns es := rfl
    rw [e1']
    generalize recsOf ns es = a at l1 ⊢
    simp only [eval_must', h1, rows1, decide_true, Bool.and_self, if_true]
    have := sLogFind_loop a rc l1 9223372036854775808 0 (by omega) (by omega)
    rw [show a.length = (a.map eStr).length by rw [List.length_map]] at this
    exact this
  · cases h
theorem iLogFind_E : EnvSound Tryz.prog E_iLogFind := mkE_sound (by simp [iRowOf_sound, ixStr_sound])
theorem iLogFind_sound : Sound Tryz.prog 22 (sg [pDisk, pS] [rI]) logFindSpec := vBody_sound iLogFind_E noInl_ok Tryz.func22 (by kernel_rfl) fun cs outs hk h => by
  unfold logFindSpec at h
  split at h
  · simp only [Option.some.injEq, Prod.mk.injEq] at h
    obtain ⟨h1, rfl⟩ := h
    rename_i ns es os ss r x rc
    have l1 := recs_len h1
    rw [vBody_L, iLogFind_tree]
    have e1' : lkRecs (chain (nds ns) (ens es)) = recsOf ns es := rfl
    rw [e1']
    generalize recsOf ns es = a at l1 ⊢
    have hb : a.length ≤ bigN := by show a.length ≤ 281474976710656; omega
    have tk : List.take a.length (a.map eStr) = a.map eStr := by rw [List.take_of_length_le]; simp
    simp only [eval_must', eval_ret', h1, rows1, decide_true, Bool.and_self, if_true, List.length_map, tk, hb, rowsOk_strs, strs_map]
  · cases h
theorem lLogFind_E : EnvSound Tryz.prog E_lLogFind := mkE_sound (by simp [szDiskF_sound, toDisk_sound, eqDisk_sound, sLogFind_sound, iLogFind_sound])
theorem lLogFind_sound : Sound Tryz.prog 6 (sg [pLDisk, pS] [rB]) diskStrLaw := vBody_sound lLogFind_E noInl_ok Tryz.func6 (by kernel_rfl) fun cs outs hk h => by
  unfold diskStrLaw at h
  split at h
  · simp only [Option.some.injEq, Prod.mk.injEq, Bool.and_eq_true] at h
    obtain ⟨⟨hl, hi0⟩, rfl⟩ := h
    rename_i ns es os ss r x i
    rw [vBody_L, lLogFind_tree]
    have hl' := hl
    unfold lawDisk at hl'
    simp only [Bool.and_eq_true] at hl'
    obtain ⟨⟨g1, g2⟩, g3⟩ := hl'
    have d0 : decide ((0 : Int) ≤ 1048576) = true := by decide
    have d1 : decide ((1048576 : Int) ≤ 1048576) = true := by decide
    have d2 : decide (0 < 1) = true := by decide
    by_cases hc : (1048576 : Int) < (i.length : Int)
    · simp only [eval_ask', eval_ret', decide_eq_true hc, if_true]
    · rw [eval_ask', decide_eq_false hc, if_neg (by decide)]
      simp only [eval_must', eval_ask', eval_ret', d0, d1, d2, g1, g2, g3, Bool.and_self, if_true, decide_eq_true_eq]
      by_cases hs : szDisk (nds ns) (ens es) (ens os) (strs ss) 1048576 < 0
      · simp only [hs, if_true]
      · obtain ⟨_, _, _, q4, q5⟩ := small_disk hl hs
        obtain ⟨r1, r2, r3, r4⟩ := disk_rows g2
        simp only [hs, if_false, List.take_length, g2, q4, q5, r1, r2, r3, r4, Bool.and_self, if_true, bne_self_eq_false, beq_self_eq_true, Bool.not_true, Bool.false_eq_true, eqDk_self]
  · cases h

end Go.Proofs.YtpjcnjefffakpaaGreatDoor.V

namespace Go.Proofs.YtpjcnjefffakpaaGreatDoor.V
noncomputable section

def digN : Nat → Nat → List UInt8 → List UInt8
  | 0, _, out => out
  | f + 1, k, out => if k = 0 then out else digN f (k / 10) (UInt8.ofNat (48 + k % 10) :: out)
def markT (k : Int) : List UInt8 := if k ≤ 0 then [109, 48] else 109 :: digN 20 k.toNat []
def markTextSpec : Spec := fun cs => match cs with
  | [.int .i64 k] => some (decide (k ≤ 4611686018427387904), [.str (markT k)])
  | _ => none
def H_lMarkText (k : Int) (out : List UInt8) : St := st0 [(0, int64 k), (3, wstr out)]
def E_lMarkText : Env := mkE [(4, [0, 3])] []

/-- rows that are marked, from a number on, so many to a row -/
def mk (f : Int → List C) (s k : Int) (n : Nat) : List (List C) := (List.range n).map fun (i : Nat) => f (k + s * (i : Int))
def mkS (k : Int) : List C := eStr (markT k)
def markSSpec : Spec := fun cs => match cs with
  | [.sl rows, .int .i64 k] => some (rowsOk [.str] rows && (decide (rows.length ≤ 1073741824) && (decide (0 ≤ k) && decide (k ≤ 1099511627776))), [.int .i64 (k + rows.length), .sl (mk mkS 1 k rows.length)])
  | _ => none
def heldS : List (List UInt8) → Int → Int
  | [], k => k
  | x :: r, k => if x = markT k then heldS r (k + 1) else -1
def heldSSpec : Spec := fun cs => match cs with
  | [.sl rows, .int .i64 k] => some (rowsOk [.str] rows && (decide (rows.length ≤ 1073741824) && (decide (0 ≤ k) && decide (k ≤ 1099511627776))), [.int .i64 (heldS (strs rows) k)])
  | _ => none
def H_lMarkS (n : Nat) (r : List (List C)) (k i : Int) : St := { slots := [(0, .l (.ref 0 0 n)), (1, int64 k), (5, int64 i)], heap := [(0, .arr 1 r)], next := 1, pins := [0] }
def H_lHeldS (r : List (List C)) (k i : Int) : St := st0 [(0, .l (.sl r)), (1, int64 k), (5, int64 i)]
def pWS : PTy := .wr false [(.slice 9, true)]
def E_lMarkS : Env := mkE [(2, [0, 1, 5])] [(55, (sg [pI] [rS]), markTextSpec)]
def E_lHeldS : Env := mkE [(2, [0, 1, 5])] [(55, (sg [pI] [rS]), markTextSpec)]

def mkN (k : Int) : List C := [.int .i64 k, .str (markT (k + 1)), .int .i64 (k + 2)]
def mkE' (k : Int) : List C := [.str (markT k), .int .i64 (k + 1)]
def markNSpec : Spec := fun cs => match cs with
  | [.sl rows, .int .i64 k] => some (rowsOk kNd rows && (decide (rows.length ≤ 1048576) && (decide (0 ≤ k) && decide (k ≤ 1099511627776))), [.int .i64 (k + 3 * rows.length), .sl (mk mkN 3 k rows.length)])
  | _ => none
def markESpec : Spec := fun cs => match cs with
  | [.sl rows, .int .i64 k] => some (rowsOk kEn rows && (decide (rows.length ≤ 1048576) && (decide (0 ≤ k) && decide (k ≤ 1099511627776))), [.int .i64 (k + 2 * rows.length), .sl (mk mkE' 2 k rows.length)])
  | _ => none
def pWN : PTy := .wr false [(.slice 92, true)]
def pWE : PTy := .wr false [(.slice 94, true)]
def pWDisk : PTy := .wr true [(.slice 92, true), (.slice 94, true), (.slice 94, true), (.slice 9, true), (.int .i64, false), (.int .i64, false)]
def diskK (k : Int) (a b c d : Nat) : Int := k + 3 * a + 2 * b + 2 * c + d
def markDSpec : Spec := fun cs => match cs with
  | [.sl ns, .sl es, .sl os, .sl ss, .int .i64 _, .int .i64 _, .int .i64 k] => some (diskRows ns es os ss && (diskLens 1048576 ns es os ss && (decide (0 ≤ k) && decide (k ≤ 1073741824))), [.int .i64 (diskK k ns.length es.length os.length ss.length),
      .sl (mk mkN 3 k ns.length), .sl (mk mkE' 2 (k + 3 * ns.length) es.length), .sl (mk mkE' 2 (k + 3 * ns.length + 2 * es.length) os.length), .sl (mk mkS 1 (k + 3 * ns.length + 2 * es.length + 2 * os.length) ss.length)])
  | _ => none
def H_lMarkN (n : Nat) (r : List (List C)) (k i : Int) : St := { slots := [(0, .l (.ref 0 0 n)), (1, int64 k), (5, int64 i)], heap := [(0, .arr 3 r)], next := 1, pins := [0] }
def H_lMarkE (n : Nat) (r : List (List C)) (k i : Int) : St := { slots := [(0, .l (.ref 0 0 n)), (1, int64 k), (5, int64 i)], heap := [(0, .arr 2 r)], next := 1, pins := [0] }
def E_lMarkN : Env := mkE [(2, [0, 1, 5])] [(55, (sg [pI] [rS]), markTextSpec)]
def E_lMarkE : Env := mkE [(2, [0, 1, 5])] [(55, (sg [pI] [rS]), markTextSpec)]
def E_lMarkD : Env := mkE [] [(29, (sg [pWS, pI] [rI]), markSSpec), (53, (sg [pWN, pI] [rI]), markNSpec), (54, (sg [pWE, pI] [rI]), markESpec)]

def cloneSSpec : Spec := fun cs => match cs with
  | [.sl rows] => some (rowsOk [.str] rows && decide (rows.length ≤ 1099511627776), [.sl rows])
  | _ => none
def E_cloneS : Env := mkE [] []

end
end Go.Proofs.YtpjcnjefffakpaaGreatDoor.V

namespace Go.Proofs.YtpjcnjefffakpaaGreatDoor.V
set_option maxRecDepth 100000
theorem lMarkText_tree (H : List Pt → Nat → St → T (List C)) (k : Int) : (vBodyL E_lMarkText noInl (sg [pI] [rS]) Tryz.f55 H [C.int IntKind.i64 k]).eval =
 ((.ask (decide (k ≤ (0 : Int)))
 (.ret [C.str [(109 : UInt8), (48 : UInt8)]])
 (H [Pt.r, Pt.r, Pt.r, Pt.l, Pt.b] (9223372036854775808 : Nat) (H_lMarkText (k) ([])))) : T (List C)).eval := evalEq (by kernel_rfl)
theorem lMarkText_round0 (H : List Pt → Nat → St → T (List C)) (kk : Int) (o : List UInt8) (k : Nat) : (vRound E_lMarkText noInl (sg [pI] [rS]) Tryz.f55 H [Pt.r, Pt.r, Pt.r, Pt.l, Pt.b] k (H_lMarkText kk o)).eval =
 ((.ask (decide ((0 : Int) < kk))
 (.must (decide
  ((strOfRows [[C.int IntKind.u8 (IntKind.u8.wrap (IntKind.i64.wrap ((48 : Int) + kk.tmod (10 : Int))))]]).length +
      o.length ≤
    (9223372036854775807 : Nat)))
  (H [Pt.r, Pt.r, Pt.r, Pt.l, Pt.b] k (H_lMarkText (IntKind.i64.wrap (kk.tdiv (10 : Int))) (strOfRows [[C.int IntKind.u8 (IntKind.u8.wrap (IntKind.i64.wrap ((48 : Int) + kk.tmod (10 : Int))))]] ++ o))))
 (.must (decide ((1 : Nat) + o.length ≤ (9223372036854775807 : Nat)))
  (.ret [C.str ([(109 : UInt8)] ++ o)]))) : T (List C)).eval := evalEq (by kernel_rfl)
theorem lMarkS_tree (H : List Pt → Nat → St → T (List C)) (r : List (List C)) (k : Int) : (vBodyL E_lMarkS noInl (sg [pWS, pI] [rI]) Tryz.f29 H [C.sl r, C.int IntKind.i64 k]).eval =
 ((.must ((true && r.all fun row => decide (row.length = (1 : Nat))) && true &&
  (decide ((0 : Nat) < (1 : Nat)) && true && true && true))
 (H [Pt.r, Pt.l, Pt.r, Pt.b] (9223372036854775808 : Nat) (H_lMarkS (r.length) (r) (k) ((0 : Int))))) : T (List C)).eval := evalEq (by kernel_rfl)
theorem lHeldS_tree (H : List Pt → Nat → St → T (List C)) (r : List (List C)) (k : Int) : (vBodyL E_lHeldS noInl (sg [pSl (9 : TypeId), pI] [rI]) Tryz.f30 H [C.sl r, C.int IntKind.i64 k]).eval =
 ((H [Pt.r, Pt.l, Pt.r, Pt.b] (9223372036854775808 : Nat) (H_lHeldS (r) (k) ((0 : Int)))) : T (List C)).eval := evalEq (by kernel_rfl)
theorem lMarkS_round0 (H : List Pt → Nat → St → T (List C)) (n : Nat) (r : List (List C)) (kk : Int) (i : Int) (k : Nat) : (vRound E_lMarkS noInl (sg [pWS, pI] [rI]) Tryz.f29 H [Pt.r, Pt.l, Pt.r, Pt.b] k (H_lMarkS n r kk i)).eval =
 ((.ask (decide (i < (↑n : Int)))
 (.must (decide (kk ≤ (4611686018427387904 : Int)))
  (.must (decide ((0 : Int) ≤ i) && decide (i < (↑n : Int)))
   (.must (decide ((0 : Nat) + i.toNat < r.length))
    (H [Pt.r, Pt.l, Pt.r, Pt.b] k (H_lMarkS (n) (r.set ((0 : Nat) + i.toNat) (C.str (markT kk) :: List.drop ((0 : Nat) + (1 : Nat)) (r.getD ((0 : Nat) + i.toNat) []))) (IntKind.i64.wrap (kk + (1 : Int))) (IntKind.i64.wrap (i + (1 : Int))))))))
 (.must (true && (false || true) && true && true && ((false || r.all fun r => r.all C.flat) && true && true))
  (.ret [C.int IntKind.i64 kk, C.sl r]))) : T (List C)).eval := evalEq (by kernel_rfl)
theorem lHeldS_round0 (H : List Pt → Nat → St → T (List C)) (r : List (List C)) (kk : Int) (i : Int) (k : Nat) : (vRound E_lHeldS noInl (sg [pSl (9 : TypeId), pI] [rI]) Tryz.f30 H [Pt.r, Pt.l, Pt.r, Pt.b] k (H_lHeldS r kk i)).eval =
 ((.ask (decide (i < (↑r.length : Int)))
 (.must (decide ((0 : Int) ≤ i) && decide (i < (↑r.length : Int)) && decide ((r.getD i.toNat []).length = (1 : Nat)))
  (.must (decide ((0 : Nat) < (r.getD i.toNat []).length) &&
    C.is K.str ((r.getD i.toNat []).getD (0 : Nat) (C.fn (0 : FuncId) [])) &&
  true)
   (.must (decide (kk ≤ (4611686018427387904 : Int)))
    (.ask (!((r.getD i.toNat []).getD (0 : Nat) (C.fn (0 : FuncId) [])).toStr == markT kk)
     (.ret [C.int IntKind.i64 (-1 : Int)])
     (H [Pt.r, Pt.l, Pt.r, Pt.b] k (H_lHeldS (r) (IntKind.i64.wrap (kk + (1 : Int))) (IntKind.i64.wrap (i + (1 : Int)))))))))
 (.ret [C.int IntKind.i64 kk])) : T (List C)).eval := evalEq (by kernel_rfl)
theorem lMarkN_tree (H : List Pt → Nat → St → T (List C)) (r : List (List C)) (k : Int) : (vBodyL E_lMarkN noInl (sg [pWN, pI] [rI]) Tryz.f53 H [C.sl r, C.int IntKind.i64 k]).eval =
 ((.must ((true && r.all fun row => decide (row.length = (3 : Nat))) && true &&
  (decide ((0 : Nat) < (1 : Nat)) && true && true && true))
 (H [Pt.r, Pt.l, Pt.r, Pt.b] (9223372036854775808 : Nat) (H_lMarkN (r.length) (r) (k) ((0 : Int))))) : T (List C)).eval := evalEq (by kernel_rfl)
theorem lMarkE_tree (H : List Pt → Nat → St → T (List C)) (r : List (List C)) (k : Int) : (vBodyL E_lMarkE noInl (sg [pWE, pI] [rI]) Tryz.f54 H [C.sl r, C.int IntKind.i64 k]).eval =
 ((.must ((true && r.all fun row => decide (row.length = (2 : Nat))) && true &&
  (decide ((0 : Nat) < (1 : Nat)) && true && true && true))
 (H [Pt.r, Pt.l, Pt.r, Pt.b] (9223372036854775808 : Nat) (H_lMarkE (r.length) (r) (k) ((0 : Int))))) : T (List C)).eval := evalEq (by kernel_rfl)
theorem lMarkN_round0 (H : List Pt → Nat → St → T (List C)) (n : Nat) (r : List (List C)) (kk : Int) (i : Int) (k : Nat) : (vRound E_lMarkN noInl (sg [pWN, pI] [rI]) Tryz.f53 H [Pt.r, Pt.l, Pt.r, Pt.b] k (H_lMarkN n r kk i)).eval =
 ((.ask (decide (i < (↑n : Int)))
 (.must (decide ((0 : Int) ≤ i) && decide (i < (↑n : Int)))
  (.must (decide ((0 : Nat) + i.toNat < r.length))
   (.must (decide (IntKind.i64.wrap (kk + (1 : Int)) ≤ (4611686018427387904 : Int)))
    (.must (decide ((0 : Int) ≤ i) && decide (i < (↑n : Int)))
     (.must (decide
  ((0 : Nat) + i.toNat <
    (r.set ((0 : Nat) + i.toNat)
        (C.int IntKind.i64 kk ::
          List.drop ((0 : Nat) + (0 : Nat) + (1 : Nat)) (r.getD ((0 : Nat) + i.toNat) []))).length))
      (.must (decide ((0 : Int) ≤ i) && decide (i < (↑n : Int)))
       (.must (decide
  ((0 : Nat) + i.toNat <
    ((r.set ((0 : Nat) + i.toNat)
            (C.int IntKind.i64 kk ::
              List.drop ((0 : Nat) + (0 : Nat) + (1 : Nat)) (r.getD ((0 : Nat) + i.toNat) []))).set
        ((0 : Nat) + i.toNat)
        (((List.take ((0 : Nat) + (1 : Nat))
                  ((r.set ((0 : Nat) + i.toNat)
                        (C.int IntKind.i64 kk ::
                          List.drop ((0 : Nat) + (0 : Nat) + (1 : Nat)) (r.getD ((0 : Nat) + i.toNat) []))).getD
                    ((0 : Nat) + i.toNat) [])).append
              [C.str (markT (IntKind.i64.wrap (kk + (1 : Int))))]).append
          (List.drop ((0 : Nat) + (1 : Nat) + (1 : Nat))
            ((r.set ((0 : Nat) + i.toNat)
                  (C.int IntKind.i64 kk ::
                    List.drop ((0 : Nat) + (0 : Nat) + (1 : Nat)) (r.getD ((0 : Nat) + i.toNat) []))).getD
              ((0 : Nat) + i.toNat) [])))).length))
        (H [Pt.r, Pt.l, Pt.r, Pt.b] k (H_lMarkN (n) (((r.set ((0 : Nat) + i.toNat)
          (C.int IntKind.i64 kk :: List.drop ((0 : Nat) + (0 : Nat) + (1 : Nat)) (r.getD ((0 : Nat) + i.toNat) []))).set
      ((0 : Nat) + i.toNat)
      (((List.take ((0 : Nat) + (1 : Nat))
                ((r.set ((0 : Nat) + i.toNat)
                      (C.int IntKind.i64 kk ::
                        List.drop ((0 : Nat) + (0 : Nat) + (1 : Nat)) (r.getD ((0 : Nat) + i.toNat) []))).getD
                  ((0 : Nat) + i.toNat) [])).append
            [C.str (markT (IntKind.i64.wrap (kk + (1 : Int))))]).append
        (List.drop ((0 : Nat) + (1 : Nat) + (1 : Nat))
          ((r.set ((0 : Nat) + i.toNat)
                (C.int IntKind.i64 kk ::
                  List.drop ((0 : Nat) + (0 : Nat) + (1 : Nat)) (r.getD ((0 : Nat) + i.toNat) []))).getD
            ((0 : Nat) + i.toNat) [])))).set
  ((0 : Nat) + i.toNat)
  (((List.take ((0 : Nat) + (2 : Nat))
            (((r.set ((0 : Nat) + i.toNat)
                      (C.int IntKind.i64 kk ::
                        List.drop ((0 : Nat) + (0 : Nat) + (1 : Nat)) (r.getD ((0 : Nat) + i.toNat) []))).set
                  ((0 : Nat) + i.toNat)
                  (((List.take ((0 : Nat) + (1 : Nat))
                            ((r.set ((0 : Nat) + i.toNat)
                                  (C.int IntKind.i64 kk ::
                                    List.drop ((0 : Nat) + (0 : Nat) + (1 : Nat))
                                      (r.getD ((0 : Nat) + i.toNat) []))).getD
                              ((0 : Nat) + i.toNat) [])).append
                        [C.str (markT (IntKind.i64.wrap (kk + (1 : Int))))]).append
                    (List.drop ((0 : Nat) + (1 : Nat) + (1 : Nat))
                      ((r.set ((0 : Nat) + i.toNat)
                            (C.int IntKind.i64 kk ::
                              List.drop ((0 : Nat) + (0 : Nat) + (1 : Nat)) (r.getD ((0 : Nat) + i.toNat) []))).getD
                        ((0 : Nat) + i.toNat) [])))).getD
              ((0 : Nat) + i.toNat) [])).append
        [C.int IntKind.i64 (IntKind.i64.wrap (IntKind.i64.wrap (kk + (1 : Int)) + (1 : Int)))]).append
    (List.drop ((0 : Nat) + (2 : Nat) + (1 : Nat))
      (((r.set ((0 : Nat) + i.toNat)
                (C.int IntKind.i64 kk ::
                  List.drop ((0 : Nat) + (0 : Nat) + (1 : Nat)) (r.getD ((0 : Nat) + i.toNat) []))).set
            ((0 : Nat) + i.toNat)
            (((List.take ((0 : Nat) + (1 : Nat))
                      ((r.set ((0 : Nat) + i.toNat)
                            (C.int IntKind.i64 kk ::
                              List.drop ((0 : Nat) + (0 : Nat) + (1 : Nat)) (r.getD ((0 : Nat) + i.toNat) []))).getD
                        ((0 : Nat) + i.toNat) [])).append
                  [C.str (markT (IntKind.i64.wrap (kk + (1 : Int))))]).append
              (List.drop ((0 : Nat) + (1 : Nat) + (1 : Nat))
                ((r.set ((0 : Nat) + i.toNat)
                      (C.int IntKind.i64 kk ::
                        List.drop ((0 : Nat) + (0 : Nat) + (1 : Nat)) (r.getD ((0 : Nat) + i.toNat) []))).getD
                  ((0 : Nat) + i.toNat) [])))).getD
        ((0 : Nat) + i.toNat) [])))) (IntKind.i64.wrap (IntKind.i64.wrap (IntKind.i64.wrap (kk + (1 : Int)) + (1 : Int)) + (1 : Int))) (IntKind.i64.wrap (i + (1 : Int))))))))))))
 (.must (true && (false || true) && true && true && ((false || r.all fun r => r.all C.flat) && true && true))
  (.ret [C.int IntKind.i64 kk, C.sl r]))) : T (List C)).eval := evalEq (by kernel_rfl)
theorem lMarkE_round0 (H : List Pt → Nat → St → T (List C)) (n : Nat) (r : List (List C)) (kk : Int) (i : Int) (k : Nat) : (vRound E_lMarkE noInl (sg [pWE, pI] [rI]) Tryz.f54 H [Pt.r, Pt.l, Pt.r, Pt.b] k (H_lMarkE n r kk i)).eval =
 ((.ask (decide (i < (↑n : Int)))
 (.must (decide (kk ≤ (4611686018427387904 : Int)))
  (.must (decide ((0 : Int) ≤ i) && decide (i < (↑n : Int)))
   (.must (decide ((0 : Nat) + i.toNat < r.length))
    (.must (decide ((0 : Int) ≤ i) && decide (i < (↑n : Int)))
     (.must (decide
  ((0 : Nat) + i.toNat <
    (r.set ((0 : Nat) + i.toNat)
        (C.str (markT kk) :: List.drop ((0 : Nat) + (0 : Nat) + (1 : Nat)) (r.getD ((0 : Nat) + i.toNat) []))).length))
      (H [Pt.r, Pt.l, Pt.r, Pt.b] k (H_lMarkE (n) ((r.set ((0 : Nat) + i.toNat)
      (C.str (markT kk) :: List.drop ((0 : Nat) + (0 : Nat) + (1 : Nat)) (r.getD ((0 : Nat) + i.toNat) []))).set
  ((0 : Nat) + i.toNat)
  (((List.take ((0 : Nat) + (1 : Nat))
            ((r.set ((0 : Nat) + i.toNat)
                  (C.str (markT kk) ::
                    List.drop ((0 : Nat) + (0 : Nat) + (1 : Nat)) (r.getD ((0 : Nat) + i.toNat) []))).getD
              ((0 : Nat) + i.toNat) [])).append
        [C.int IntKind.i64 (IntKind.i64.wrap (kk + (1 : Int)))]).append
    (List.drop ((0 : Nat) + (1 : Nat) + (1 : Nat))
      ((r.set ((0 : Nat) + i.toNat)
            (C.str (markT kk) :: List.drop ((0 : Nat) + (0 : Nat) + (1 : Nat)) (r.getD ((0 : Nat) + i.toNat) []))).getD
        ((0 : Nat) + i.toNat) [])))) (IntKind.i64.wrap (IntKind.i64.wrap (kk + (1 : Int)) + (1 : Int))) (IntKind.i64.wrap (i + (1 : Int))))))))))
 (.must (true && (false || true) && true && true && ((false || r.all fun r => r.all C.flat) && true && true))
  (.ret [C.int IntKind.i64 kk, C.sl r]))) : T (List C)).eval := evalEq (by kernel_rfl)
theorem lMarkD_tree (H : List Pt → Nat → St → T (List C)) (ns : List (List C)) (es : List (List C)) (os : List (List C)) (ss : List (List C)) (r : Int) (x : Int) (k : Int) : (vBodyL E_lMarkD noInl (sg [pWDisk, pI] [rI]) Tryz.f28 H
  [C.sl ns, C.sl es, C.sl os, C.sl ss, C.int IntKind.i64 r, C.int IntKind.i64 x, C.int IntKind.i64 k]).eval =
 ((.must ((true && ns.all fun row => decide (row.length = (3 : Nat))) &&
    ((true && es.all fun row => decide (row.length = (2 : Nat))) &&
      ((true && os.all fun row => decide (row.length = (2 : Nat))) &&
        ((true && ss.all fun row => decide (row.length = (1 : Nat))) &&
          (decide ((0 : Nat) < (1 : Nat)) && true && (decide ((0 : Nat) < (1 : Nat)) && true && true))))) &&
  (decide ((0 : Nat) < (1 : Nat)) && true && true && true))
 (.must (true && (true && true) && (decide (ns.length = ns.length) && true && true))
  (.must (rowsOk [K.int IntKind.i64, K.str, K.int IntKind.i64] ns &&
  (decide (ns.length ≤ (1048576 : Nat)) && (decide ((0 : Int) ≤ k) && decide (k ≤ (1099511627776 : Int)))))
   (.must (decide ((0 : Nat) < (1 : Nat)) && true && true && true &&
  ((decide ((mk mkN (3 : Int) k ns.length).length = ns.length) &&
        (mk mkN (3 : Int) k ns.length).all fun r => decide (r.length = (3 : Nat))) &&
      true &&
    true))
    (.must (true && (true && true) && (decide (es.length = es.length) && true && true))
     (.must (rowsOk [K.str, K.int IntKind.i64] es &&
  (decide (es.length ≤ (1048576 : Nat)) &&
    (decide ((0 : Int) ≤ k + (3 : Int) * (↑ns.length : Int)) &&
      decide (k + (3 : Int) * (↑ns.length : Int) ≤ (1099511627776 : Int)))))
      (.must (decide ((0 : Nat) < (1 : Nat)) && true && true && true &&
  ((decide ((mk mkE' (2 : Int) (k + (3 : Int) * (↑ns.length : Int)) es.length).length = es.length) &&
        (mk mkE' (2 : Int) (k + (3 : Int) * (↑ns.length : Int)) es.length).all fun r =>
          decide (r.length = (2 : Nat))) &&
      true &&
    true))
       (.must (true && (true && true) && (decide (os.length = os.length) && true && true))
        (.must (rowsOk [K.str, K.int IntKind.i64] os &&
  (decide (os.length ≤ (1048576 : Nat)) &&
    (decide ((0 : Int) ≤ k + (3 : Int) * (↑ns.length : Int) + (2 : Int) * (↑es.length : Int)) &&
      decide (k + (3 : Int) * (↑ns.length : Int) + (2 : Int) * (↑es.length : Int) ≤ (1099511627776 : Int)))))
         (.must (decide ((0 : Nat) < (1 : Nat)) && true && true && true &&
  ((decide
          ((mk mkE' (2 : Int) (k + (3 : Int) * (↑ns.length : Int) + (2 : Int) * (↑es.length : Int)) os.length).length =
            os.length) &&
        (mk mkE' (2 : Int) (k + (3 : Int) * (↑ns.length : Int) + (2 : Int) * (↑es.length : Int)) os.length).all fun r =>
          decide (r.length = (2 : Nat))) &&
      true &&
    true))
          (.must (true && (true && true) && (decide (ss.length = ss.length) && true && true))
           (.must (rowsOk [K.str] ss &&
  (decide (ss.length ≤ (1073741824 : Nat)) &&
    (decide
        ((0 : Int) ≤
          k + (3 : Int) * (↑ns.length : Int) + (2 : Int) * (↑es.length : Int) + (2 : Int) * (↑os.length : Int)) &&
      decide
        (k + (3 : Int) * (↑ns.length : Int) + (2 : Int) * (↑es.length : Int) + (2 : Int) * (↑os.length : Int) ≤
          (1099511627776 : Int)))))
            (.must (decide ((0 : Nat) < (1 : Nat)) && true && true && true &&
  ((decide
          ((mk mkS (1 : Int)
                (k + (3 : Int) * (↑ns.length : Int) + (2 : Int) * (↑es.length : Int) + (2 : Int) * (↑os.length : Int))
                ss.length).length =
            ss.length) &&
        (mk mkS (1 : Int)
              (k + (3 : Int) * (↑ns.length : Int) + (2 : Int) * (↑es.length : Int) + (2 : Int) * (↑os.length : Int))
              ss.length).all
          fun r => decide (r.length = (1 : Nat))) &&
      true &&
    true))
             (.must (true && (false || true) && true && true &&
  ((false || (mk mkN (3 : Int) k ns.length).all fun r => r.all C.flat) &&
      ((false || (mk mkE' (2 : Int) (k + (3 : Int) * (↑ns.length : Int)) es.length).all fun r => r.all C.flat) &&
        ((false ||
            (mk mkE' (2 : Int) (k + (3 : Int) * (↑ns.length : Int) + (2 : Int) * (↑es.length : Int)) os.length).all
              fun r => r.all C.flat) &&
          ((false ||
              (mk mkS (1 : Int)
                    (k + (3 : Int) * (↑ns.length : Int) + (2 : Int) * (↑es.length : Int) +
                      (2 : Int) * (↑os.length : Int))
                    ss.length).all
                fun r => r.all C.flat) &&
            true))) &&
    true))
              (.ret [C.int IntKind.i64
    (k + (3 : Int) * (↑ns.length : Int) + (2 : Int) * (↑es.length : Int) + (2 : Int) * (↑os.length : Int) +
      (↑ss.length : Int)),
  C.sl (mk mkN (3 : Int) k ns.length), C.sl (mk mkE' (2 : Int) (k + (3 : Int) * (↑ns.length : Int)) es.length),
  C.sl (mk mkE' (2 : Int) (k + (3 : Int) * (↑ns.length : Int) + (2 : Int) * (↑es.length : Int)) os.length),
  C.sl
    (mk mkS (1 : Int)
      (k + (3 : Int) * (↑ns.length : Int) + (2 : Int) * (↑es.length : Int) + (2 : Int) * (↑os.length : Int)) ss.length)]))))))))))))))) : T (List C)).eval := evalEq (by kernel_rfl)
theorem cloneS_no (r : List (List C)) : vBodyN E_cloneS noInl [false] (sg [pSl (9 : TypeId)] [rSl (9 : TypeId)]) Tryz.f52 [C.sl r] =
 (.must true
 (.ask (false)
  (.must true
   (.ret [C.sl []]))
  (.must (decide ((0 : Nat) = (0 : Nat)) && roomy ((0 : Nat) + r.length) (16 : Nat) &&
  r.all fun r => decide (r.length = (1 : Nat)))
   (.must (decide ((0 : Nat) + r.length = r.length) && (false || r.all fun r => r.all C.flat) && true && true && true)
    (.ret [C.sl r]))))) := by kernel_rfl
theorem cloneS_nil (z : Nat) : vBodyN E_cloneS noInl [true] (sg [pSl (9 : TypeId)] [rSl (9 : TypeId)]) Tryz.f52 [C.sl []] =
 (.must true
 (.ask true
  (.must true
   (.ret [C.sl []]))
  (.must true
   (.must true
    (.ret [C.sl []]))))) := by kernel_rfl
end Go.Proofs.YtpjcnjefffakpaaGreatDoor.V

namespace Go.Proofs.YtpjcnjefffakpaaGreatDoor.V

theorem lMarkText_loop : ∀ (f k : Nat) (o : List UInt8) (n : Nat), k < 10 ^ f → f < n → o.length + f ≤ 1000 → k ≤ 4611686018427387904 →
    (vLoop E_lMarkText noInl (sg [pI] [rS]) Tryz.f55 [.r, .r, .r, .l, .b] n (H_lMarkText k o)).eval = some [.str (109 :: digN f k o)] := by
  have stop : ∀ (f : Nat) (o : List UInt8) (n : Nat), 0 < n → o.length ≤ 1000 → (vLoop E_lMarkText noInl (sg [pI] [rS]) Tryz.f55 [.r, .r, .r, .l, .b] n (H_lMarkText (0 : Nat) o)).eval = some [.str (109 :: digN f 0 o)] := by
    intro f o n hn ho
    obtain ⟨m, rfl⟩ : ∃ m, n = m + 1 := ⟨n - 1, by omega⟩
    rw [vLoop_L _ _ _ _ _ _ _ (by kernel_rfl), lMarkText_round0]
    have h1 : 1 + o.length ≤ 9223372036854775807 := by omega
    have h2 : digN f 0 o = o := by cases f <;> simp [digN]
    have h3 : ¬ ((0 : Int) < ((0 : Nat) : Int)) := by omega
    simp only [eval_ask', eval_must', eval_ret', decide_eq_true_eq, h3, if_false, h1, if_true, h2]
    rfl
  intro f
  induction f with
  | zero =>
    intro k o n hk hn ho _
    have : k = 0 := by simpa using hk
    subst this
    exact stop 0 o n (by omega) (by omega)
  | succ f ih =>
    intro k o n hk hn ho hkk
    by_cases h0 : k = 0
    · subst h0; exact stop (f + 1) o n (by omega) (by omega)
    · obtain ⟨m, rfl⟩ : ∃ m, n = m + 1 := ⟨n - 1, by omega⟩
      rw [vLoop_L _ _ _ _ _ _ _ (by kernel_rfl), lMarkText_round0]
      have hpos : (0 : Int) < (k : Int) := by omega
      have e1 : (k : Int).tmod 10 = ((k % 10 : Nat) : Int) := by rw [Int.tmod_eq_emod_of_nonneg (by omega)]; omega
      have e2 : (k : Int).tdiv 10 = ((k / 10 : Nat) : Int) := by rw [Int.tdiv_eq_ediv_of_nonneg (by omega)]; omega
      have w1 : IntKind.i64.wrap ((48 : Int) + ((k % 10 : Nat) : Int)) = ((48 + k % 10 : Nat) : Int) := by rw [wrap64] <;> omega
      have w2 : IntKind.u8.wrap (((48 + k % 10 : Nat) : Int)) = ((48 + k % 10 : Nat) : Int) := by rw [wrapU8] <;> omega
      have w3 : IntKind.i64.wrap (((k / 10 : Nat) : Int)) = ((k / 10 : Nat) : Int) := by rw [wrap64] <;> omega
      have e3 : strOfRows [[C.int IntKind.u8 ((48 + k % 10 : Nat) : Int)]] = [UInt8.ofNat (48 + k % 10)] := by show [UInt8.ofNat (((48 + k % 10 : Nat) : Int)).toNat] = _; rw [Int.toNat_natCast]
      have e4 : digN (f + 1) k o = digN f (k / 10) (UInt8.ofNat (48 + k % 10) :: o) := by simp [digN, h0]
      rw [e1, w1, w2, e2, w3, e3, e4]
      have h1 : 1 + o.length ≤ 9223372036854775807 := by omega
      simp only [eval_ask', eval_must', decide_eq_true_eq, hpos, if_true, List.length_cons, List.length_nil, Nat.zero_add, h1, List.cons_append, List.nil_append]
      exact ih (k / 10) _ m (by rw [Nat.pow_succ] at hk; omega) (by omega) (by simp; omega) (by omega)
theorem lMarkText_E : EnvSound Tryz.prog E_lMarkText := mkE_sound (by simp [])
theorem lMarkText_sound : Sound Tryz.prog 55 (sg [pI] [rS]) markTextSpec := vBody_sound lMarkText_E noInl_ok Tryz.func55 (by kernel_rfl) fun cs outs hk h => by
  unfold markTextSpec at h
  split at h
  · simp only [Option.some.injEq, Prod.mk.injEq, decide_eq_true_eq] at h
    obtain ⟨h1, rfl⟩ := h
    rename_i k
    rw [vBody_L, lMarkText_tree]
    by_cases hk : k ≤ 0
    · simp only [eval_ask', eval_ret', decide_eq_true_eq, hk, if_true, markT]
    · obtain ⟨m, rfl⟩ : ∃ m : Nat, k = m := ⟨k.toNat, by omega⟩
      have := lMarkText_loop 20 m [] 9223372036854775808 (by omega) (by omega) (by simp) (by omega)
      simp only [eval_ask', decide_eq_true_eq, hk, if_false, markT, Int.toNat_natCast]
      exact this
  · cases h

theorem mk_len (f : Int → List C) (s k : Int) (n : Nat) : (mk f s k n).length = n := by simp [mk]
theorem mk_succ (f : Int → List C) (s k : Int) (n : Nat) : mk f s k (n + 1) = mk f s k n ++ [f (k + s * n)] := by simp [mk, List.range_succ]
theorem mk_all (f : Int → List C) (s k : Int) (n : Nat) (p : List C → Bool) (h : ∀ k, p (f k) = true) : (mk f s k n).all p = true := by simp [mk, h]
theorem set_mid {A : Type} (a l : List A) (i : Nat) (x : A) (ha : a.length = i) (hi : i < l.length) : (a ++ l.drop i).set i x = (a ++ [x]) ++ l.drop (i + 1) := by
  rw [List.drop_eq_getElem_cons hi, List.set_append_right _ _ (by omega), ha, Nat.sub_self, List.set_cons_zero, List.append_assoc]
  rfl
theorem getD_mid {A : Type} (a l : List A) (i : Nat) (d : A) (ha : a.length = i) : (a ++ l.drop i).getD i d = l.getD i d := by
  simp [List.getD_eq_getElem?_getD, List.getElem?_append_right, ha]
theorem getD_set_self {A : Type} (l : List A) (i : Nat) (x d : A) (hi : i < l.length) : (l.set i x).getD i d = x := by
  simp [List.getD_eq_getElem?_getD, hi]
theorem rowsOk_getD {ks : List K} {rows : List (List C)} (h : rowsOk ks rows = true) (i : Nat) (hi : i < rows.length) : kindsOk (rows.getD i []) ks = true := by
  simp only [rowsOk, List.all_eq_true] at h
  exact h _ (by simp [List.getD_eq_getElem?_getD, hi])
theorem rowsOk_len {ks : List K} {rows : List (List C)} (h : rowsOk ks rows = true) (n : Nat) (hn : ks.length = n) : (rows.all fun row => decide (row.length = n)) = true := by
  have kl : ∀ (cs : List C) (ks : List K), kindsOk cs ks = true → cs.length = ks.length := by
    intro cs
    induction cs with
    | nil => intro ks h; cases ks <;> simp [kindsOk] at h ⊢
    | cons c cs ih => intro ks h; cases ks <;> simp [kindsOk] at h ⊢; exact ih _ h.2
  simp only [rowsOk, List.all_eq_true] at h ⊢
  intro r hr
  simp [kl _ _ (h r hr), hn]
theorem lMarkS_loop (rows : List (List C)) (k : Int) (hr : rowsOk [.str] rows = true) (hl : rows.length ≤ 1073741824) (h0 : 0 ≤ k) (h1 : k ≤ 1099511627776) : ∀ (n i : Nat), i ≤ rows.length → rows.length < i + n →
    (vLoop E_lMarkS noInl (sg [pWS, pI] [rI]) Tryz.f29 [.r, .l, .r, .b] n (H_lMarkS rows.length (mk mkS 1 k i ++ rows.drop i) (k + 1 * i) i)).eval = some [.int .i64 (k + rows.length), .sl (mk mkS 1 k rows.length)] := by
  intro n
  induction n with
  | zero => intro i a b; omega
  | succ n ih =>
    intro i a b
    rw [vLoop_L _ _ _ _ _ _ _ (by kernel_rfl), lMarkS_round0]
    by_cases hi : i < rows.length
    · have w : IntKind.i64.wrap ((i : Int) + 1) = ((i + 1 : Nat) : Int) := by rw [wrap64] <;> omega
      have w2 : IntKind.i64.wrap (k + 1 * (i : Int) + 1) = k + 1 * ((i + 1 : Nat) : Int) := by rw [wrap64] <;> omega
      have hz : (0 : Int) ≤ i := by omega
      have hi' : (i : Int) < rows.length := by omega
      have hk : k + 1 * (i : Int) ≤ 4611686018427387904 := by omega
      have g := row_str (rowsOk_getD hr i hi)
      have hlen : i < (mk mkS 1 k i ++ rows.drop i).length := by simp [mk_len]; omega
      rw [Nat.zero_add, Int.toNat_natCast, getD_mid _ _ _ _ (mk_len _ _ _ _), g]
      have hd : List.drop (0 + 1) (eStr (rowStr (rows.getD i []))) = [] := rfl
      rw [hd, set_mid _ _ _ _ (mk_len _ _ _ _) hi]
      have e : mk mkS 1 k i ++ [[C.str (markT (k + 1 * (i : Int)))]] = mk mkS 1 k (i + 1) := (mk_succ mkS 1 k i).symm
      rw [e]
      simp only [eval_must', eval_ask', decide_eq_true_eq, Bool.and_eq_true, hz, hi', hk, hlen, and_self, if_true, w, w2]
      exact ih (i + 1) (by omega) (by omega)
    · have e : i = rows.length := by omega
      subst e
      have hi' : ¬ ((rows.length : Int) < (rows.length : Int)) := by omega
      have hf : ((mk mkS 1 k rows.length).all fun r => r.all C.flat) = true := mk_all _ _ _ _ _ fun k => rfl
      simp only [eval_ask', eval_must', eval_ret', decide_eq_true_eq, hi', if_false, List.drop_length, List.append_nil, hf, Bool.false_or, Bool.or_true, Bool.and_true, Bool.and_self, if_true, Int.one_mul]
theorem lMarkS_E : EnvSound Tryz.prog E_lMarkS := mkE_sound (by simp [lMarkText_sound])
theorem lMarkS_sound : Sound Tryz.prog 29 (sg [pWS, pI] [rI]) markSSpec := vBody_sound lMarkS_E noInl_ok Tryz.func29 (by kernel_rfl) fun cs outs hk h => by
  unfold markSSpec at h
  split at h
  · simp only [Option.some.injEq, Prod.mk.injEq, Bool.and_eq_true, decide_eq_true_eq] at h
    obtain ⟨⟨h1, h2, h3, h4⟩, rfl⟩ := h
    rename_i rows k
    rw [vBody_L, lMarkS_tree]
    have := lMarkS_loop rows k h1 h2 h3 h4 9223372036854775808 0 (by omega) (by omega)
    rw [show mk mkS 1 k 0 ++ rows.drop 0 = rows by simp [mk], show k + 1 * ((0 : Nat) : Int) = k by omega] at this
    have r1 := rowsOk_len h1 1 rfl
    simp only [eval_must', r1, Bool.and_true, Bool.true_and, Nat.zero_lt_one, decide_true, if_true]
    exact this
  · cases h
theorem lHeldS_loop (l : List (List UInt8)) (hl : l.length ≤ 1073741824) : ∀ (n i : Nat) (k : Int), 0 ≤ k → k ≤ 1099511627776 + i → i ≤ l.length → l.length < i + n →
    (vLoop E_lHeldS noInl (sg [pSl 9, pI] [rI]) Tryz.f30 [.r, .l, .r, .b] n (H_lHeldS (l.map eStr) k i)).eval = some [.int .i64 (heldS (l.drop i) k)] := by
  intro n
  induction n with
  | zero => intro i k _ _ a b; omega
  | succ n ih =>
    intro i k k0 k1 a b
    rw [vLoop_L _ _ _ _ _ _ _ (by kernel_rfl), lHeldS_round0]
    by_cases hi : i < l.length
    · have g := map_getD eStr l [] i hi
      have w : IntKind.i64.wrap ((i : Int) + 1) = ((i + 1 : Nat) : Int) := by rw [wrap64] <;> omega
      have w2 : IntKind.i64.wrap (k + 1) = k + 1 := by rw [wrap64] <;> omega
      have hz : (0 : Int) ≤ i := by omega
      have hi' : (i : Int) < l.length := by omega
      have hk : k ≤ 4611686018427387904 := by omega
      rw [drop_cons l i [] hi]
      generalize l.getD i [] = y at g ⊢
      simp only [eval_must', eval_ask', eval_ret', if_true, decide_eq_true_eq, Bool.and_eq_true, w, w2, hz, hi', hk, Int.toNat_natCast, List.length_map, g, and_self, List.getD_cons_zero, C.toStr, C.is, List.length_cons, List.length_nil, Nat.zero_add, Nat.zero_lt_succ, decide_true, Bool.not_eq_true', beq_eq_false_iff_ne, ne_eq, heldS]
      by_cases hy : y = markT k
      · simp only [hy, not_true, if_false, if_true]
        exact ih (i + 1) (k + 1) (by omega) (by omega) (by omega) (by omega)
      · simp only [hy, not_false_iff, if_true, if_false]
    · have e : i = l.length := by omega
      subst e
      have hi' : ¬ ((l.length : Int) < (l.length : Int)) := by omega
      simp only [eval_ask', eval_ret', decide_eq_true_eq, List.length_map, hi', if_false, List.drop_length, heldS]
theorem lHeldS_E : EnvSound Tryz.prog E_lHeldS := mkE_sound (by simp [lMarkText_sound])
theorem lHeldS_sound : Sound Tryz.prog 30 (sg [pSl 9, pI] [rI]) heldSSpec := vBody_sound lHeldS_E noInl_ok Tryz.func30 (by kernel_rfl) fun cs outs hk h => by
  unfold heldSSpec at h
  split at h
  · simp only [Option.some.injEq, Prod.mk.injEq, Bool.and_eq_true, decide_eq_true_eq] at h
    obtain ⟨⟨h1, h2, h3, h4⟩, rfl⟩ := h
    rename_i rows k
    have hr := rows_strs h1
    generalize strs rows = l at hr ⊢
    subst hr
    rw [List.length_map] at h2
    rw [vBody_L, lHeldS_tree]
    exact lHeldS_loop l h2 9223372036854775808 0 k h3 (by omega) (by omega) (by omega)
  · cases h
/-- what is marked is held -/
theorem held_mk (k : Int) : ∀ (n i : Nat), heldS ((List.range' i n).map fun (j : Nat) => markT (k + 1 * (j : Int))) (k + i) = k + i + n := by
  intro n
  induction n with
  | zero => intro i; simp [heldS]
  | succ n ih =>
    intro i
    have := ih (i + 1)
    have e : k + ((i + 1 : Nat) : Int) = k + i + 1 := by omega
    rw [e] at this
    simp only [List.range'_succ, List.map_cons, heldS, Int.one_mul, if_true] at this ⊢
    rw [this]
    omega
theorem held_marks (k : Int) (n : Nat) : heldS (strs (mk mkS 1 k n)) k = k + n := by
  have := held_mk k n 0
  rw [show strs (mk mkS 1 k n) = (List.range' 0 n).map fun (j : Nat) => markT (k + 1 * (j : Int)) by simp [strs, mk, rowStr, mkS, C.toStr, List.range_eq_range', Function.comp_def]]
  have e : k + ((0 : Nat) : Int) = k := by omega
  rw [e] at this
  exact this

theorem lMarkN_loop (rows : List (List C)) (k : Int) (hr : rowsOk kNd rows = true) (hl : rows.length ≤ 1048576) (h0 : 0 ≤ k) (h1 : k ≤ 1099511627776) : ∀ (n i : Nat), i ≤ rows.length → rows.length < i + n →
    (vLoop E_lMarkN noInl (sg [pWN, pI] [rI]) Tryz.f53 [.r, .l, .r, .b] n (H_lMarkN rows.length (mk mkN 3 k i ++ rows.drop i) (k + 3 * i) i)).eval = some [.int .i64 (k + 3 * rows.length), .sl (mk mkN 3 k rows.length)] := by
  intro n
  induction n with
  | zero => intro i a b; omega
  | succ n ih =>
    intro i a b
    rw [vLoop_L _ _ _ _ _ _ _ (by kernel_rfl), lMarkN_round0]
    by_cases hi : i < rows.length
    · have w : IntKind.i64.wrap ((i : Int) + 1) = ((i + 1 : Nat) : Int) := by rw [wrap64] <;> omega
      have w1 : IntKind.i64.wrap (k + 3 * (i : Int) + 1) = k + 3 * (i : Int) + 1 := by rw [wrap64] <;> omega
      have w2 : IntKind.i64.wrap (k + 3 * (i : Int) + 1 + 1) = k + 3 * (i : Int) + 2 := by rw [wrap64] <;> omega
      have w3 : IntKind.i64.wrap (k + 3 * (i : Int) + 2 + 1) = k + 3 * (i : Int) + 3 := by rw [wrap64] <;> omega
      have wk : k + 3 * (i : Int) + 3 = k + 3 * ((i + 1 : Nat) : Int) := by omega
      have hz : (0 : Int) ≤ i := by omega
      have hi' : (i : Int) < rows.length := by omega
      have hk : k + 3 * (i : Int) ≤ 4611686018427387904 := by omega
      have hk1 : k + 3 * (i : Int) + 1 ≤ 4611686018427387904 := by omega
      have g := row_nd (rowsOk_getD hr i hi)
      have hlen : i < (mk mkN 3 k i ++ rows.drop i).length := by simp [mk_len]; omega
      simp only [Nat.zero_add, Nat.add_zero, Int.toNat_natCast, List.set_set, List.length_set, getD_set_self _ _ _ _ hlen, w, w1, w2, w3, List.append_eq]
      simp only [getD_mid _ _ _ _ (mk_len _ _ _ _), set_mid _ _ _ _ (mk_len _ _ _ _) hi]
      rw [g]
      simp only [List.drop_succ_cons, List.drop_zero, List.take_succ_cons, List.take_zero, List.cons_append, List.nil_append, List.drop_nil, List.append_nil, List.append_assoc]
      have e : mk mkN 3 k i ++ [[C.int .i64 (k + 3 * (i : Int)), C.str (markT (k + 3 * (i : Int) + 1)), C.int .i64 (k + 3 * (i : Int) + 2)]] = mk mkN 3 k (i + 1) := (mk_succ mkN 3 k i).symm
      simp only [eval_must', eval_ask', decide_eq_true_eq, Bool.and_eq_true, hz, hi', hk, hk1, hlen, and_self, if_true]
      have := ih (i + 1) (by omega) (by omega)
      rw [← e, ← wk, List.append_assoc] at this
      exact this
    · have e : i = rows.length := by omega
      subst e
      have hi' : ¬ ((rows.length : Int) < (rows.length : Int)) := by omega
      have hf : ((mk mkN 3 k rows.length).all fun r => r.all C.flat) = true := mk_all _ _ _ _ _ fun k => rfl
      simp only [eval_ask', eval_must', eval_ret', decide_eq_true_eq, hi', if_false, List.drop_length, List.append_nil, hf, Bool.false_or, Bool.or_true, Bool.and_true, Bool.and_self, if_true]
theorem lMarkN_E : EnvSound Tryz.prog E_lMarkN := mkE_sound (by simp [lMarkText_sound])
theorem lMarkN_sound : Sound Tryz.prog 53 (sg [pWN, pI] [rI]) markNSpec := vBody_sound lMarkN_E noInl_ok Tryz.func53 (by kernel_rfl) fun cs outs hk h => by
  unfold markNSpec at h
  split at h
  · simp only [Option.some.injEq, Prod.mk.injEq, Bool.and_eq_true, decide_eq_true_eq] at h
    obtain ⟨⟨h1, h2, h3, h4⟩, rfl⟩ := h
    rename_i rows k
    rw [vBody_L, lMarkN_tree]
    have := lMarkN_loop rows k h1 h2 h3 h4 9223372036854775808 0 (by omega) (by omega)
    rw [show mk mkN 3 k 0 ++ rows.drop 0 = rows by simp [mk], show k + 3 * ((0 : Nat) : Int) = k by omega] at this
    have r1 := rowsOk_len h1 3 rfl
    simp only [eval_must', r1, Bool.and_true, Bool.true_and, Nat.zero_lt_one, decide_true, if_true]
    exact this
  · cases h
theorem lMarkE_loop (rows : List (List C)) (k : Int) (hr : rowsOk kEn rows = true) (hl : rows.length ≤ 1048576) (h0 : 0 ≤ k) (h1 : k ≤ 1099511627776) : ∀ (n i : Nat), i ≤ rows.length → rows.length < i + n →
    (vLoop E_lMarkE noInl (sg [pWE, pI] [rI]) Tryz.f54 [.r, .l, .r, .b] n (H_lMarkE rows.length (mk mkE' 2 k i ++ rows.drop i) (k + 2 * i) i)).eval = some [.int .i64 (k + 2 * rows.length), .sl (mk mkE' 2 k rows.length)] := by
  intro n
  induction n with
  | zero => intro i a b; omega
  | succ n ih =>
    intro i a b
    rw [vLoop_L _ _ _ _ _ _ _ (by kernel_rfl), lMarkE_round0]
    by_cases hi : i < rows.length
    · have w : IntKind.i64.wrap ((i : Int) + 1) = ((i + 1 : Nat) : Int) := by rw [wrap64] <;> omega
      have w1 : IntKind.i64.wrap (k + 2 * (i : Int) + 1) = k + 2 * (i : Int) + 1 := by rw [wrap64] <;> omega
      have w2 : IntKind.i64.wrap (k + 2 * (i : Int) + 1 + 1) = k + 2 * (i : Int) + 2 := by rw [wrap64] <;> omega
      have w3 : IntKind.i64.wrap (k + 2 * (i : Int) + 2 + 1) = k + 2 * (i : Int) + 3 := by rw [wrap64] <;> omega
      have wk : k + 2 * (i : Int) + 2 = k + 2 * ((i + 1 : Nat) : Int) := by omega
      have hz : (0 : Int) ≤ i := by omega
      have hi' : (i : Int) < rows.length := by omega
      have hk : k + 2 * (i : Int) ≤ 4611686018427387904 := by omega
      have hk1 : k + 2 * (i : Int) + 1 ≤ 4611686018427387904 := by omega
      have g := row_en (rowsOk_getD hr i hi)
      have hlen : i < (mk mkE' 2 k i ++ rows.drop i).length := by simp [mk_len]; omega
      simp only [Nat.zero_add, Nat.add_zero, Int.toNat_natCast, List.set_set, List.length_set, getD_set_self _ _ _ _ hlen, w, w1, w2, w3, List.append_eq]
      simp only [getD_mid _ _ _ _ (mk_len _ _ _ _), set_mid _ _ _ _ (mk_len _ _ _ _) hi]
      rw [g]
      simp only [List.drop_succ_cons, List.drop_zero, List.take_succ_cons, List.take_zero, List.cons_append, List.nil_append, List.drop_nil, List.append_nil, List.append_assoc]
      have e : mk mkE' 2 k i ++ [[C.str (markT (k + 2 * (i : Int))), C.int .i64 (k + 2 * (i : Int) + 1)]] = mk mkE' 2 k (i + 1) := (mk_succ mkE' 2 k i).symm
      simp only [eval_must', eval_ask', decide_eq_true_eq, Bool.and_eq_true, hz, hi', hk, hk1, hlen, and_self, if_true]
      have := ih (i + 1) (by omega) (by omega)
      rw [← e, ← wk, List.append_assoc] at this
      exact this
    · have e : i = rows.length := by omega
      subst e
      have hi' : ¬ ((rows.length : Int) < (rows.length : Int)) := by omega
      have hf : ((mk mkE' 2 k rows.length).all fun r => r.all C.flat) = true := mk_all _ _ _ _ _ fun k => rfl
      simp only [eval_ask', eval_must', eval_ret', decide_eq_true_eq, hi', if_false, List.drop_length, List.append_nil, hf, Bool.false_or, Bool.or_true, Bool.and_true, Bool.and_self, if_true]
theorem lMarkE_E : EnvSound Tryz.prog E_lMarkE := mkE_sound (by simp [lMarkText_sound])
theorem lMarkE_sound : Sound Tryz.prog 54 (sg [pWE, pI] [rI]) markESpec := vBody_sound lMarkE_E noInl_ok Tryz.func54 (by kernel_rfl) fun cs outs hk h => by
  unfold markESpec at h
  split at h
  · simp only [Option.some.injEq, Prod.mk.injEq, Bool.and_eq_true, decide_eq_true_eq] at h
    obtain ⟨⟨h1, h2, h3, h4⟩, rfl⟩ := h
    rename_i rows k
    rw [vBody_L, lMarkE_tree]
    have := lMarkE_loop rows k h1 h2 h3 h4 9223372036854775808 0 (by omega) (by omega)
    rw [show mk mkE' 2 k 0 ++ rows.drop 0 = rows by simp [mk], show k + 2 * ((0 : Nat) : Int) = k by omega] at this
    have r1 := rowsOk_len h1 2 rfl
    simp only [eval_must', r1, Bool.and_true, Bool.true_and, Nat.zero_lt_one, decide_true, if_true]
    exact this
  · cases h
theorem lMarkD_E : EnvSound Tryz.prog E_lMarkD := mkE_sound (by simp [lMarkS_sound, lMarkN_sound, lMarkE_sound])
theorem lMarkD_sound : Sound Tryz.prog 28 (sg [pWDisk, pI] [rI]) markDSpec := vBody_sound lMarkD_E noInl_ok Tryz.func28 (by kernel_rfl) fun cs outs hk h => by
  unfold markDSpec at h
  split at h
  · simp only [Option.some.injEq, Prod.mk.injEq, Bool.and_eq_true, decide_eq_true_eq] at h
    obtain ⟨⟨h1, h2, h3, h4⟩, rfl⟩ := h
    rename_i ns es os ss r x k
    simp only [diskRows, Bool.and_eq_true] at h1
    obtain ⟨⟨⟨a1, a2⟩, a3⟩, a4⟩ := h1
    simp only [diskLens, Bool.and_eq_true, decide_eq_true_eq] at h2
    obtain ⟨⟨⟨b1, b2⟩, b3⟩, b4⟩ := h2
    rw [vBody_L, lMarkD_tree]
    have c1 := rowsOk_len a1 3 rfl
    have c2 := rowsOk_len a2 2 rfl
    have c3 := rowsOk_len a3 2 rfl
    have c4 := rowsOk_len a4 1 rfl
    have l1 : ∀ k n, ((mk mkN 3 k n).all fun r => decide (r.length = 3)) = true := fun k n => mk_all _ _ _ _ _ fun k => rfl
    have l2 : ∀ k n, ((mk mkE' 2 k n).all fun r => decide (r.length = 2)) = true := fun k n => mk_all _ _ _ _ _ fun k => rfl
    have l3 : ∀ k n, ((mk mkS 1 k n).all fun r => decide (r.length = 1)) = true := fun k n => mk_all _ _ _ _ _ fun k => rfl
    have f1 : ∀ k n, ((mk mkN 3 k n).all fun r => r.all C.flat) = true := fun k n => mk_all _ _ _ _ _ fun k => rfl
    have f2 : ∀ k n, ((mk mkE' 2 k n).all fun r => r.all C.flat) = true := fun k n => mk_all _ _ _ _ _ fun k => rfl
    have f3 : ∀ k n, ((mk mkS 1 k n).all fun r => r.all C.flat) = true := fun k n => mk_all _ _ _ _ _ fun k => rfl
    have b5 : ss.length ≤ 1073741824 := by omega
    have k1 : k ≤ 1099511627776 := by omega
    have k2 : 0 ≤ k + 3 * (ns.length : Int) ∧ k + 3 * (ns.length : Int) ≤ 1099511627776 := by omega
    have k3 : 0 ≤ k + 3 * (ns.length : Int) + 2 * (es.length : Int) ∧ k + 3 * (ns.length : Int) + 2 * (es.length : Int) ≤ 1099511627776 := by omega
    have k4 : 0 ≤ k + 3 * (ns.length : Int) + 2 * (es.length : Int) + 2 * (os.length : Int) ∧ k + 3 * (ns.length : Int) + 2 * (es.length : Int) + 2 * (os.length : Int) ≤ 1099511627776 := by omega
    simp only [eval_must', eval_ret', a1, a2, a3, a4, b1, b2, b3, b4, b5, c1, c2, c3, c4, l1, l2, l3, f1, f2, f3, h3, k1, k2.1, k2.2, k3.1, k3.2, k4.1, k4.2, mk_len, Nat.zero_lt_one, decide_true, Bool.and_self, Bool.false_or, Bool.or_true, Bool.true_and, Bool.and_true, if_true, diskK]
  · cases h

theorem cloneS_E : EnvSound Tryz.prog E_cloneS := mkE_sound (by simp)
theorem cloneS_sound : Sound Tryz.prog 52 (sg [pSl 9] [rSl 9]) cloneSSpec := vBodyN_sound cloneS_E noInl_ok Tryz.func52 (by kernel_rfl) rfl fun cs outs hk h bs hb => by
  unfold cloneSSpec at h
  split at h
  · simp only [Option.some.injEq, Prod.mk.injEq, Bool.and_eq_true, decide_eq_true_eq] at h
    obtain ⟨⟨h1, h2⟩, rfl⟩ := h
    rename_i rows
    have r1 := rowsOk_len h1 1 rfl
    match bs, hb with
    | [true], hb =>
      have : rows = [] := by simpa [nilOf] using hb
      subst this
      rw [cloneS_nil 0]
      rfl
    | [false], _ =>
      rw [cloneS_no]
      have hroom : roomy rows.length 16 = true := by unfold roomy; simp; omega
      have hf : (rows.all fun r => r.all C.flat) = true := by
        simp only [rowsOk, List.all_eq_true] at h1 ⊢
        intro r hr c hc
        have := row_str (h1 r hr)
        rw [this] at hc
        obtain rfl := List.mem_singleton.1 hc
        rfl
      simp only [eval_must', eval_ask', eval_ret', r1, hroom, hf, Nat.zero_add, decide_true, Bool.and_self, Bool.or_true, Bool.and_true, if_true, Bool.false_eq_true, if_false]
    | [], hb => simp [nilOf] at hb
    | _ :: _ :: _, hb => simp [nilOf] at hb
  · cases h

end Go.Proofs.YtpjcnjefffakpaaGreatDoor.V

namespace Go.Proofs.YtpjcnjefffakpaaGreatDoor.V
noncomputable section

def rangeOk (n : Nat) (a b : Int) : Bool := decide (0 ≤ a) && decide (a ≤ b) && decide (b ≤ n)
def rangeOf (l : List (List UInt8)) (a b : Int) : List (List UInt8) := if rangeOk l.length a b then (l.drop a.toNat).take (b.toNat - a.toNat) else []
def rangeCode (n : Nat) (a b : Int) : Int := if rangeOk n a b then 0 else 1
def rangeSpec : Spec := fun cs => match cs with
  | [.sl n1, .sl e1, .sl _, .sl _, .int .i64 _, .int .i64 _, .int .i64 a, .int .i64 b] => some (dkOk n1 e1, [.sl ((rangeOf (recsOf n1 e1) a b).map eStr), .int .i64 (rangeCode (recsOf n1 e1).length a b)])
  | _ => none
def diskIntIntLaw : Spec := fun cs => match cs with
  | [.sl ns, .sl es, .sl os, .sl ss, .int .i64 _, .int .i64 _, .int .i64 _, .int .i64 _] => some (lawDisk ns es os ss, [.bool true])
  | _ => none
def E_sLogRange : Env := mkE [] [(40, (sg [pDisk] [rSl 9]), rowOfSpec)]
def E_iLogRange : Env := mkE [] [(48, (sg [pI, pI, pI] [rB]), inSpec), (44, (sg [pDisk] [rSl 9]), rowOfSpec), (52, (sg [pSl 9] [rSl 9]), cloneSSpec)]
def E_lLogRange : Env := mkE [] [(27, (sg [pSl 9, pSl 9] [rB]), eqStrSpec), (12, (sg [pLDisk, pI] [rI]), szDiskSpec), (14, (sg [pLDisk] [rDisk]), toDiskSpec), (16, (sg [pDisk, pDisk] [rB]), eqDiskSpec), (29, (sg [pWS, pI] [rI]), markSSpec), (30, (sg [pSl 9, pI] [rI]), heldSSpec), (28, (sg [pWDisk, pI] [rI]), markDSpec), (25, (sg [pDisk, pI, pI] [rSl 9, rI]), rangeSpec), (26, (sg [pDisk, pI, pI] [rSl 9, rI]), rangeSpec)]

def tailAt (n : Nat) (k : Int) : Nat := (IntKind.i64.wrap ((n : Int) - broughtOf k 0 n)).toNat
def tailOf (l : List (List UInt8)) (n : Int) : List (List UInt8) := l.drop (tailAt l.length n)
def tailSpec : Spec := fun cs => match cs with
  | [.sl n1, .sl e1, .sl _, .sl _, .int .i64 _, .int .i64 _, .int .i64 a] => some (dkOk n1 e1, [.sl ((tailOf (recsOf n1 e1) a).map eStr)])
  | _ => none
def E_sLogTail : Env := mkE [] [(56, (sg [pI, pI, pI] [rI]), broughtSpec), (40, (sg [pDisk] [rSl 9]), rowOfSpec)]
def E_iLogTail : Env := mkE [] [(57, (sg [pI, pI, pI] [rI]), broughtSpec), (44, (sg [pDisk] [rSl 9]), rowOfSpec), (52, (sg [pSl 9] [rSl 9]), cloneSSpec)]
def E_lLogTail : Env := mkE [] [(27, (sg [pSl 9, pSl 9] [rB]), eqStrSpec), (12, (sg [pLDisk, pI] [rI]), szDiskSpec), (14, (sg [pLDisk] [rDisk]), toDiskSpec), (16, (sg [pDisk, pDisk] [rB]), eqDiskSpec), (29, (sg [pWS, pI] [rI]), markSSpec), (30, (sg [pSl 9, pI] [rI]), heldSSpec), (28, (sg [pWDisk, pI] [rI]), markDSpec), (31, (sg [pDisk, pI] [rSl 9]), tailSpec), (32, (sg [pDisk, pI] [rSl 9]), tailSpec)]

end
end Go.Proofs.YtpjcnjefffakpaaGreatDoor.V

namespace Go.Proofs.YtpjcnjefffakpaaGreatDoor.V
set_option maxRecDepth 100000
theorem sLogRange_tree (H : List Pt → Nat → St → T (List C)) (ns : List (List C)) (es : List (List C)) (os : List (List C)) (ss : List (List C)) (r : Int) (x : Int) (a : Int) (b : Int) : (vBodyL E_sLogRange noInl (sg [pDisk, pI, pI] [rSl (9 : TypeId), rI]) Tryz.f25 H
  [C.sl ns, C.sl es, C.sl os, C.sl ss, C.int IntKind.i64 r, C.int IntKind.i64 x, C.int IntKind.i64 a,
    C.int IntKind.i64 b]).eval =
 ((.must (dkOk ns es)
 (.must ((true && (List.map eStr (lkRecs (chain (nds ns) (ens es)))).all fun row => decide (row.length = (1 : Nat))) && true &&
    true &&
  true)
  (.ask (decide (a < (0 : Int)))
   (.ret [C.sl [], C.int IntKind.i64 (1 : Int)])
   (.ask (decide (b < a))
    (.ret [C.sl [], C.int IntKind.i64 (1 : Int)])
    (.ask (decide ((↑(List.map eStr (lkRecs (chain (nds ns) (ens es)))).length : Int) < b))
     (.ret [C.sl [], C.int IntKind.i64 (1 : Int)])
     (.must (decide ((0 : Int) ≤ b) && decide (b ≤ (↑(List.map eStr (lkRecs (chain (nds ns) (ens es)))).length : Int)) &&
  (decide ((0 : Int) ≤ a) && decide (a ≤ b)))
      (.must (decide ((0 : Nat) = (0 : Nat)) &&
    roomy
      ((0 : Nat) +
        (List.take (b.toNat - a.toNat)
            (List.drop ((0 : Nat) + a.toNat) (List.map eStr (lkRecs (chain (nds ns) (ens es)))))).length)
      (16 : Nat) &&
  (List.take (b.toNat - a.toNat)
        (List.drop ((0 : Nat) + a.toNat) (List.map eStr (lkRecs (chain (nds ns) (ens es)))))).all
    fun r => decide (r.length = (1 : Nat)))
       (.must (decide
          ((0 : Nat) +
              (List.take (b.toNat - a.toNat)
                  (List.drop ((0 : Nat) + a.toNat) (List.map eStr (lkRecs (chain (nds ns) (ens es)))))).length =
            (List.take (b.toNat - a.toNat)
                (List.drop ((0 : Nat) + a.toNat) (List.map eStr (lkRecs (chain (nds ns) (ens es)))))).length) &&
        (false ||
          (List.take (b.toNat - a.toNat)
                (List.drop ((0 : Nat) + a.toNat) (List.map eStr (lkRecs (chain (nds ns) (ens es)))))).all
            fun r => r.all C.flat) &&
      true &&
    (true && (false || true) && true && true) &&
  true)
        (.ret [C.sl
    (List.take (b.toNat - a.toNat)
      (List.drop ((0 : Nat) + a.toNat) (List.map eStr (lkRecs (chain (nds ns) (ens es)))))),
  C.int IntKind.i64 (0 : Int)]))))))))) : T (List C)).eval := evalEq (by kernel_rfl)
theorem iLogRange_tree (H : List Pt → Nat → St → T (List C)) (ns : List (List C)) (es : List (List C)) (os : List (List C)) (ss : List (List C)) (r : Int) (x : Int) (a : Int) (b : Int) : (vBodyL E_iLogRange noInl (sg [pDisk, pI, pI] [rSl (9 : TypeId), rI]) Tryz.f26 H
  [C.sl ns, C.sl es, C.sl os, C.sl ss, C.int IntKind.i64 r, C.int IntKind.i64 x, C.int IntKind.i64 a,
    C.int IntKind.i64 b]).eval =
 ((.must (dkOk ns es)
 (.must ((true && (List.map eStr (lkRecs (chain (nds ns) (ens es)))).all fun row => decide (row.length = (1 : Nat))) && true &&
    true &&
  true)
  (.ask (inB b (0 : Int) (↑(List.map eStr (lkRecs (chain (nds ns) (ens es)))).length : Int))
   (.ask (inB a (0 : Int) b)
    (.must (decide ((0 : Int) ≤ b) && decide (b ≤ (↑(List.map eStr (lkRecs (chain (nds ns) (ens es)))).length : Int)) &&
  (decide ((0 : Int) ≤ a) && decide (a ≤ b)))
     (.must (rowsOk [K.str]
    (List.take (b.toNat - a.toNat)
      (List.drop ((0 : Nat) + a.toNat) (List.map eStr (lkRecs (chain (nds ns) (ens es)))))) &&
  decide
    ((List.take (b.toNat - a.toNat)
          (List.drop ((0 : Nat) + a.toNat) (List.map eStr (lkRecs (chain (nds ns) (ens es)))))).length ≤
      (1099511627776 : Nat)))
      (.must ((true &&
        (List.take (b.toNat - a.toNat)
              (List.drop ((0 : Nat) + a.toNat) (List.map eStr (lkRecs (chain (nds ns) (ens es)))))).all
          fun row => decide (row.length = (1 : Nat))) &&
      true &&
    true &&
  true)
       (.must (decide
          ((List.take (b.toNat - a.toNat)
                (List.drop ((0 : Nat) + a.toNat) (List.map eStr (lkRecs (chain (nds ns) (ens es)))))).length =
            (List.take (b.toNat - a.toNat)
                (List.drop ((0 : Nat) + a.toNat) (List.map eStr (lkRecs (chain (nds ns) (ens es)))))).length) &&
        (false ||
          (List.take (b.toNat - a.toNat)
                (List.drop ((0 : Nat) + a.toNat) (List.map eStr (lkRecs (chain (nds ns) (ens es)))))).all
            fun r => r.all C.flat) &&
      true &&
    (true && (false || true) && true && true) &&
  true)
        (.ret [C.sl
    (List.take (b.toNat - a.toNat)
      (List.drop ((0 : Nat) + a.toNat) (List.map eStr (lkRecs (chain (nds ns) (ens es)))))),
  C.int IntKind.i64 (0 : Int)])))))
    (.ret [C.sl [], C.int IntKind.i64 (1 : Int)]))
   (.ret [C.sl [], C.int IntKind.i64 (1 : Int)])))) : T (List C)).eval := evalEq (by kernel_rfl)
theorem lLogRange_tree (H : List Pt → Nat → St → T (List C)) (ns : List (List C)) (es : List (List C)) (os : List (List C)) (ss : List (List C)) (r : Int) (x : Int) (a : Int) (b : Int) : (vBodyL E_lLogRange noInl (sg [pLDisk, pI, pI] [rB]) Tryz.f8 H
  [C.sl ns, C.sl es, C.sl os, C.sl ss, C.int IntKind.i64 r, C.int IntKind.i64 x, C.int IntKind.i64 a,
    C.int IntKind.i64 b]).eval =
 ((.must (decide ((0 : Int) ≤ (1048576 : Int)) && decide ((1048576 : Int) ≤ (1048576 : Int)) &&
  (diskLens (281474976710656 : Nat) ns es os ss && diskRows ns es os ss && diskTexts ns es os ss))
 (.ask (decide (szDisk (nds ns) (ens es) (ens os) (strs ss) (1048576 : Int) < (0 : Int)))
  (.ret [C.bool true])
  (.must (diskLens (1048576 : Nat) ns es os ss && diskRows ns es os ss)
   (.must ((true && ns.all fun row => decide (row.length = (3 : Nat))) &&
      ((true && es.all fun row => decide (row.length = (2 : Nat))) &&
        ((true && os.all fun row => decide (row.length = (2 : Nat))) &&
          ((true && ss.all fun row => decide (row.length = (1 : Nat))) &&
            (decide ((0 : Nat) < (1 : Nat)) && true && (decide ((0 : Nat) < (1 : Nat)) && true && true))))) &&
    true &&
  true)
    (.must (dkOk (List.take ns.length ns) (List.take es.length es))
     (.must ((true &&
        (List.map eStr (rangeOf (recsOf (List.take ns.length ns) (List.take es.length es)) a b)).all fun row =>
          decide (row.length = (1 : Nat))) &&
      true &&
    (decide ((0 : Nat) < (1 : Nat)) && true && true && true) &&
  true)
      (.must (diskLens (1048576 : Nat) ns es os ss && diskRows ns es os ss)
       (.must ((true && ns.all fun row => decide (row.length = (3 : Nat))) &&
      ((true && es.all fun row => decide (row.length = (2 : Nat))) &&
        ((true && os.all fun row => decide (row.length = (2 : Nat))) &&
          ((true && ss.all fun row => decide (row.length = (1 : Nat))) &&
            (decide ((0 : Nat) < (1 : Nat)) && true && (decide ((0 : Nat) < (1 : Nat)) && true && true))))) &&
    true &&
  true)
        (.must (dkOk (List.take ns.length ns) (List.take es.length es))
         (.must ((true &&
        (List.map eStr (rangeOf (recsOf (List.take ns.length ns) (List.take es.length es)) a b)).all fun row =>
          decide (row.length = (1 : Nat))) &&
      true &&
    (decide ((0 : Nat) < (1 : Nat)) && true && true && true) &&
  true)
          (.must (decide
    ((List.take (List.map eStr (rangeOf (recsOf (List.take ns.length ns) (List.take es.length es)) a b)).length
          (List.map eStr (rangeOf (recsOf (List.take ns.length ns) (List.take es.length es)) a b))).length ≤
      (1073741824 : Nat)) &&
  (rowsOk [K.str]
      (List.take (List.map eStr (rangeOf (recsOf (List.take ns.length ns) (List.take es.length es)) a b)).length
        (List.map eStr (rangeOf (recsOf (List.take ns.length ns) (List.take es.length es)) a b))) &&
    rowsOk [K.str]
      (List.take (List.map eStr (rangeOf (recsOf (List.take ns.length ns) (List.take es.length es)) a b)).length
        (List.map eStr (rangeOf (recsOf (List.take ns.length ns) (List.take es.length es)) a b)))))
           (.ask (decide
  (strs
      (List.take (List.map eStr (rangeOf (recsOf (List.take ns.length ns) (List.take es.length es)) a b)).length
        (List.map eStr (rangeOf (recsOf (List.take ns.length ns) (List.take es.length es)) a b))) =
    strs
      (List.take (List.map eStr (rangeOf (recsOf (List.take ns.length ns) (List.take es.length es)) a b)).length
        (List.map eStr (rangeOf (recsOf (List.take ns.length ns) (List.take es.length es)) a b)))))
            (.ask (rangeCode (recsOf (List.take ns.length ns) (List.take es.length es)).length a b !=
  rangeCode (recsOf (List.take ns.length ns) (List.take es.length es)).length a b)
             (.ret [C.bool false])
             (.must (diskLens (1048576 : Nat) ns es os ss && diskRows ns es os ss)
              (.must ((true && ns.all fun row => decide (row.length = (3 : Nat))) &&
      ((true && es.all fun row => decide (row.length = (2 : Nat))) &&
        ((true && os.all fun row => decide (row.length = (2 : Nat))) &&
          ((true && ss.all fun row => decide (row.length = (1 : Nat))) &&
            (decide ((0 : Nat) < (1 : Nat)) && true && (decide ((0 : Nat) < (1 : Nat)) && true && true))))) &&
    true &&
  true)
               (.must (diskLens (1048576 : Nat) (List.take ns.length ns) (List.take es.length es) (List.take os.length os)
      (List.take ss.length ss) &&
    diskRows (List.take ns.length ns) (List.take es.length es) (List.take os.length os) (List.take ss.length ss) &&
  diskRows (List.take ns.length ns) (List.take es.length es) (List.take os.length os) (List.take ss.length ss))
                (.ask (eqDk (List.take ns.length ns) (List.take es.length es) (List.take os.length os) (List.take ss.length ss) r x
  (List.take ns.length ns) (List.take es.length es) (List.take os.length os) (List.take ss.length ss) r x)
                 (.must (true && (true && (true && (true && (true && (true && (true && true)))))) &&
  (decide (ns.length = ns.length) &&
      (decide (es.length = es.length) &&
        (decide (os.length = os.length) && (decide (ss.length = ss.length) && true))) &&
    true))
                  (.must (diskRows ns es os ss &&
  (diskLens (1048576 : Nat) ns es os ss && (decide ((0 : Int) ≤ (1 : Int)) && decide ((1 : Int) ≤ (1073741824 : Int)))))
                   (.must (decide ((0 : Nat) < (1 : Nat)) && true && true && true &&
  ((decide ((mk mkN (3 : Int) (1 : Int) ns.length).length = ns.length) &&
        (mk mkN (3 : Int) (1 : Int) ns.length).all fun r => decide (r.length = (3 : Nat))) &&
      ((decide ((mk mkE' (2 : Int) ((1 : Int) + (3 : Int) * (↑ns.length : Int)) es.length).length = es.length) &&
          (mk mkE' (2 : Int) ((1 : Int) + (3 : Int) * (↑ns.length : Int)) es.length).all fun r =>
            decide (r.length = (2 : Nat))) &&
        ((decide
              ((mk mkE' (2 : Int) ((1 : Int) + (3 : Int) * (↑ns.length : Int) + (2 : Int) * (↑es.length : Int))
                    os.length).length =
                os.length) &&
            (mk mkE' (2 : Int) ((1 : Int) + (3 : Int) * (↑ns.length : Int) + (2 : Int) * (↑es.length : Int))
                  os.length).all
              fun r => decide (r.length = (2 : Nat))) &&
          ((decide
                ((mk mkS (1 : Int)
                      ((1 : Int) + (3 : Int) * (↑ns.length : Int) + (2 : Int) * (↑es.length : Int) +
                        (2 : Int) * (↑os.length : Int))
                      ss.length).length =
                  ss.length) &&
              (mk mkS (1 : Int)
                    ((1 : Int) + (3 : Int) * (↑ns.length : Int) + (2 : Int) * (↑es.length : Int) +
                      (2 : Int) * (↑os.length : Int))
                    ss.length).all
                fun r => decide (r.length = (1 : Nat))) &&
            true))) &&
    true))
                    (.must (decide
    ((List.take (List.map eStr (rangeOf (recsOf (List.take ns.length ns) (List.take es.length es)) a b)).length
          (List.map eStr (rangeOf (recsOf (List.take ns.length ns) (List.take es.length es)) a b))).length ≤
      (1073741824 : Nat)) &&
  (rowsOk [K.str]
      (List.take (List.map eStr (rangeOf (recsOf (List.take ns.length ns) (List.take es.length es)) a b)).length
        (List.map eStr (rangeOf (recsOf (List.take ns.length ns) (List.take es.length es)) a b))) &&
    rowsOk [K.str]
      (List.take (List.map eStr (rangeOf (recsOf (List.take ns.length ns) (List.take es.length es)) a b)).length
        (List.map eStr (rangeOf (recsOf (List.take ns.length ns) (List.take es.length es)) a b)))))
                     (.ask (decide
  (strs
      (List.take (List.map eStr (rangeOf (recsOf (List.take ns.length ns) (List.take es.length es)) a b)).length
        (List.map eStr (rangeOf (recsOf (List.take ns.length ns) (List.take es.length es)) a b))) =
    strs
      (List.take (List.map eStr (rangeOf (recsOf (List.take ns.length ns) (List.take es.length es)) a b)).length
        (List.map eStr (rangeOf (recsOf (List.take ns.length ns) (List.take es.length es)) a b)))))
                      (.ask (rangeCode (recsOf (List.take ns.length ns) (List.take es.length es)).length a b !=
  rangeCode (recsOf (List.take ns.length ns) (List.take es.length es)).length a b)
                       (.ret [C.bool false])
                       (.must (true && (true && true) &&
  (decide
        ((List.map eStr (rangeOf (recsOf (List.take ns.length ns) (List.take es.length es)) a b)).length =
          (List.map eStr (rangeOf (recsOf (List.take ns.length ns) (List.take es.length es)) a b)).length) &&
      true &&
    true))
                        (.must (rowsOk [K.str] (List.map eStr (rangeOf (recsOf (List.take ns.length ns) (List.take es.length es)) a b)) &&
  (decide
      ((List.map eStr (rangeOf (recsOf (List.take ns.length ns) (List.take es.length es)) a b)).length ≤
        (1073741824 : Nat)) &&
    (decide ((0 : Int) ≤ (1 : Int)) && decide ((1 : Int) ≤ (1099511627776 : Int)))))
                         (.must (decide ((0 : Nat) < (1 : Nat)) && true && true && true &&
  ((decide
          ((mk mkS (1 : Int) (1 : Int)
                (List.map eStr
                    (rangeOf (recsOf (List.take ns.length ns) (List.take es.length es)) a b)).length).length =
            (List.map eStr (rangeOf (recsOf (List.take ns.length ns) (List.take es.length es)) a b)).length) &&
        (mk mkS (1 : Int) (1 : Int)
              (List.map eStr (rangeOf (recsOf (List.take ns.length ns) (List.take es.length es)) a b)).length).all
          fun r => decide (r.length = (1 : Nat))) &&
      true &&
    true))
                          (.must (rowsOk [K.str]
    (List.take (List.map eStr (rangeOf (recsOf (List.take ns.length ns) (List.take es.length es)) a b)).length
      (mk mkS (1 : Int) (1 : Int)
        (List.map eStr (rangeOf (recsOf (List.take ns.length ns) (List.take es.length es)) a b)).length)) &&
  (decide
      ((List.take (List.map eStr (rangeOf (recsOf (List.take ns.length ns) (List.take es.length es)) a b)).length
            (mk mkS (1 : Int) (1 : Int)
              (List.map eStr (rangeOf (recsOf (List.take ns.length ns) (List.take es.length es)) a b)).length)).length ≤
        (1073741824 : Nat)) &&
    (decide ((0 : Int) ≤ (1 : Int)) && decide ((1 : Int) ≤ (1099511627776 : Int)))))
                           (.ask (decide
  (heldS
      (strs
        (List.take (List.map eStr (rangeOf (recsOf (List.take ns.length ns) (List.take es.length es)) a b)).length
          (mk mkS (1 : Int) (1 : Int)
            (List.map eStr (rangeOf (recsOf (List.take ns.length ns) (List.take es.length es)) a b)).length)))
      (1 : Int) <
    (0 : Int)))
                            (.ret [C.bool false])
                            (.ask (heldS
    (strs
      (List.take (List.map eStr (rangeOf (recsOf (List.take ns.length ns) (List.take es.length es)) a b)).length
        (mk mkS (1 : Int) (1 : Int)
          (List.map eStr (rangeOf (recsOf (List.take ns.length ns) (List.take es.length es)) a b)).length)))
    (1 : Int) !=
  Int.ofNat
    ((1 : Nat) + (List.map eStr (rangeOf (recsOf (List.take ns.length ns) (List.take es.length es)) a b)).length))
                             (.ret [C.bool false])
                             (.must (diskLens (1048576 : Nat) ns es os ss && diskRows ns es os ss)
                              (.must ((true && ns.all fun row => decide (row.length = (3 : Nat))) &&
      ((true && es.all fun row => decide (row.length = (2 : Nat))) &&
        ((true && os.all fun row => decide (row.length = (2 : Nat))) &&
          ((true && ss.all fun row => decide (row.length = (1 : Nat))) &&
            (decide ((0 : Nat) < (1 : Nat)) && true && (decide ((0 : Nat) < (1 : Nat)) && true && true))))) &&
    true &&
  true)
                               (.must (dkOk (List.take ns.length ns) (List.take es.length es))
                                (.must ((true &&
        (List.map eStr (rangeOf (recsOf (List.take ns.length ns) (List.take es.length es)) a b)).all fun row =>
          decide (row.length = (1 : Nat))) &&
      true &&
    (decide ((0 : Nat) < (1 : Nat)) && true && true && true) &&
  true)
                                 (.must (decide
    ((List.take (List.map eStr (rangeOf (recsOf (List.take ns.length ns) (List.take es.length es)) a b)).length
          (List.map eStr (rangeOf (recsOf (List.take ns.length ns) (List.take es.length es)) a b))).length ≤
      (1073741824 : Nat)) &&
  (rowsOk [K.str]
      (List.take (List.map eStr (rangeOf (recsOf (List.take ns.length ns) (List.take es.length es)) a b)).length
        (List.map eStr (rangeOf (recsOf (List.take ns.length ns) (List.take es.length es)) a b))) &&
    rowsOk [K.str]
      (List.take (List.map eStr (rangeOf (recsOf (List.take ns.length ns) (List.take es.length es)) a b)).length
        (List.map eStr (rangeOf (recsOf (List.take ns.length ns) (List.take es.length es)) a b)))))
                                  (.ask (decide
  (strs
      (List.take (List.map eStr (rangeOf (recsOf (List.take ns.length ns) (List.take es.length es)) a b)).length
        (List.map eStr (rangeOf (recsOf (List.take ns.length ns) (List.take es.length es)) a b))) =
    strs
      (List.take (List.map eStr (rangeOf (recsOf (List.take ns.length ns) (List.take es.length es)) a b)).length
        (List.map eStr (rangeOf (recsOf (List.take ns.length ns) (List.take es.length es)) a b)))))
                                   (.ask (rangeCode (recsOf (List.take ns.length ns) (List.take es.length es)).length a b !=
  rangeCode (recsOf (List.take ns.length ns) (List.take es.length es)).length a b)
                                    (.ret [C.bool false])
                                    (.must (rowsOk [K.str]
    (List.take (List.map eStr (rangeOf (recsOf (List.take ns.length ns) (List.take es.length es)) a b)).length
      (mk mkS (1 : Int) (1 : Int)
        (List.map eStr (rangeOf (recsOf (List.take ns.length ns) (List.take es.length es)) a b)).length)) &&
  (decide
      ((List.take (List.map eStr (rangeOf (recsOf (List.take ns.length ns) (List.take es.length es)) a b)).length
            (mk mkS (1 : Int) (1 : Int)
              (List.map eStr (rangeOf (recsOf (List.take ns.length ns) (List.take es.length es)) a b)).length)).length ≤
        (1073741824 : Nat)) &&
    (decide ((0 : Int) ≤ (1 : Int)) && decide ((1 : Int) ≤ (1099511627776 : Int)))))
                                     (.ask (decide
  (heldS
      (strs
        (List.take (List.map eStr (rangeOf (recsOf (List.take ns.length ns) (List.take es.length es)) a b)).length
          (mk mkS (1 : Int) (1 : Int)
            (List.map eStr (rangeOf (recsOf (List.take ns.length ns) (List.take es.length es)) a b)).length)))
      (1 : Int) <
    (0 : Int)))
                                      (.ret [C.bool false])
                                      (.ask (heldS
    (strs
      (List.take (List.map eStr (rangeOf (recsOf (List.take ns.length ns) (List.take es.length es)) a b)).length
        (mk mkS (1 : Int) (1 : Int)
          (List.map eStr (rangeOf (recsOf (List.take ns.length ns) (List.take es.length es)) a b)).length)))
    (1 : Int) !=
  Int.ofNat
    ((1 : Nat) + (List.map eStr (rangeOf (recsOf (List.take ns.length ns) (List.take es.length es)) a b)).length))
                                       (.ret [C.bool false])
                                       (.ret [C.bool true])))))
                                   (.ret [C.bool false]))))))))))))))
                      (.ret [C.bool false]))))))
                 (.ret [C.bool false]))))))
            (.ret [C.bool false]))))))))))))) : T (List C)).eval := evalEq (by kernel_rfl)
theorem sLogTail_tree (H : List Pt → Nat → St → T (List C)) (ns : List (List C)) (es : List (List C)) (os : List (List C)) (ss : List (List C)) (r : Int) (x : Int) (a : Int) : (vBodyL E_sLogTail noInl (sg [pDisk, pI] [rSl (9 : TypeId)]) Tryz.f31 H
  [C.sl ns, C.sl es, C.sl os, C.sl ss, C.int IntKind.i64 r, C.int IntKind.i64 x, C.int IntKind.i64 a]).eval =
 ((.must (dkOk ns es)
 (.must ((true && (List.map eStr (lkRecs (chain (nds ns) (ens es)))).all fun row => decide (row.length = (1 : Nat))) && true &&
    true &&
  true)
  (.must (decide
    ((0 : Int) ≤
      IntKind.i64.wrap
        ((↑(List.map eStr (lkRecs (chain (nds ns) (ens es)))).length : Int) -
          broughtOf a (0 : Int) (↑(List.map eStr (lkRecs (chain (nds ns) (ens es)))).length : Int))) &&
  decide
    (IntKind.i64.wrap
        ((↑(List.map eStr (lkRecs (chain (nds ns) (ens es)))).length : Int) -
          broughtOf a (0 : Int) (↑(List.map eStr (lkRecs (chain (nds ns) (ens es)))).length : Int)) ≤
      (↑(List.map eStr (lkRecs (chain (nds ns) (ens es)))).length : Int)))
   (.must (decide ((0 : Nat) = (0 : Nat)) &&
    roomy
      ((0 : Nat) +
        (List.take
            ((List.map eStr (lkRecs (chain (nds ns) (ens es)))).length -
              (IntKind.i64.wrap
                  ((↑(List.map eStr (lkRecs (chain (nds ns) (ens es)))).length : Int) -
                    broughtOf a (0 : Int) (↑(List.map eStr (lkRecs (chain (nds ns) (ens es)))).length : Int))).toNat)
            (List.drop
              ((0 : Nat) +
                (IntKind.i64.wrap
                    ((↑(List.map eStr (lkRecs (chain (nds ns) (ens es)))).length : Int) -
                      broughtOf a (0 : Int) (↑(List.map eStr (lkRecs (chain (nds ns) (ens es)))).length : Int))).toNat)
              (List.map eStr (lkRecs (chain (nds ns) (ens es)))))).length)
      (16 : Nat) &&
  (List.take
        ((List.map eStr (lkRecs (chain (nds ns) (ens es)))).length -
          (IntKind.i64.wrap
              ((↑(List.map eStr (lkRecs (chain (nds ns) (ens es)))).length : Int) -
                broughtOf a (0 : Int) (↑(List.map eStr (lkRecs (chain (nds ns) (ens es)))).length : Int))).toNat)
        (List.drop
          ((0 : Nat) +
            (IntKind.i64.wrap
                ((↑(List.map eStr (lkRecs (chain (nds ns) (ens es)))).length : Int) -
                  broughtOf a (0 : Int) (↑(List.map eStr (lkRecs (chain (nds ns) (ens es)))).length : Int))).toNat)
          (List.map eStr (lkRecs (chain (nds ns) (ens es)))))).all
    fun r => decide (r.length = (1 : Nat)))
    (.must (decide
          ((0 : Nat) +
              (List.take
                  ((List.map eStr (lkRecs (chain (nds ns) (ens es)))).length -
                    (IntKind.i64.wrap
                        ((↑(List.map eStr (lkRecs (chain (nds ns) (ens es)))).length : Int) -
                          broughtOf a (0 : Int)
                            (↑(List.map eStr (lkRecs (chain (nds ns) (ens es)))).length : Int))).toNat)
                  (List.drop
                    ((0 : Nat) +
                      (IntKind.i64.wrap
                          ((↑(List.map eStr (lkRecs (chain (nds ns) (ens es)))).length : Int) -
                            broughtOf a (0 : Int)
                              (↑(List.map eStr (lkRecs (chain (nds ns) (ens es)))).length : Int))).toNat)
                    (List.map eStr (lkRecs (chain (nds ns) (ens es)))))).length =
            (List.take
                ((List.map eStr (lkRecs (chain (nds ns) (ens es)))).length -
                  (IntKind.i64.wrap
                      ((↑(List.map eStr (lkRecs (chain (nds ns) (ens es)))).length : Int) -
                        broughtOf a (0 : Int)
                          (↑(List.map eStr (lkRecs (chain (nds ns) (ens es)))).length : Int))).toNat)
                (List.drop
                  ((0 : Nat) +
                    (IntKind.i64.wrap
                        ((↑(List.map eStr (lkRecs (chain (nds ns) (ens es)))).length : Int) -
                          broughtOf a (0 : Int)
                            (↑(List.map eStr (lkRecs (chain (nds ns) (ens es)))).length : Int))).toNat)
                  (List.map eStr (lkRecs (chain (nds ns) (ens es)))))).length) &&
        (false ||
          (List.take
                ((List.map eStr (lkRecs (chain (nds ns) (ens es)))).length -
                  (IntKind.i64.wrap
                      ((↑(List.map eStr (lkRecs (chain (nds ns) (ens es)))).length : Int) -
                        broughtOf a (0 : Int)
                          (↑(List.map eStr (lkRecs (chain (nds ns) (ens es)))).length : Int))).toNat)
                (List.drop
                  ((0 : Nat) +
                    (IntKind.i64.wrap
                        ((↑(List.map eStr (lkRecs (chain (nds ns) (ens es)))).length : Int) -
                          broughtOf a (0 : Int)
                            (↑(List.map eStr (lkRecs (chain (nds ns) (ens es)))).length : Int))).toNat)
                  (List.map eStr (lkRecs (chain (nds ns) (ens es)))))).all
            fun r => r.all C.flat) &&
      true &&
    true &&
  true)
     (.ret [C.sl
    (List.take
      ((List.map eStr (lkRecs (chain (nds ns) (ens es)))).length -
        (IntKind.i64.wrap
            ((↑(List.map eStr (lkRecs (chain (nds ns) (ens es)))).length : Int) -
              broughtOf a (0 : Int) (↑(List.map eStr (lkRecs (chain (nds ns) (ens es)))).length : Int))).toNat)
      (List.drop
        ((0 : Nat) +
          (IntKind.i64.wrap
              ((↑(List.map eStr (lkRecs (chain (nds ns) (ens es)))).length : Int) -
                broughtOf a (0 : Int) (↑(List.map eStr (lkRecs (chain (nds ns) (ens es)))).length : Int))).toNat)
        (List.map eStr (lkRecs (chain (nds ns) (ens es))))))])))))) : T (List C)).eval := evalEq (by kernel_rfl)
theorem iLogTail_tree (H : List Pt → Nat → St → T (List C)) (ns : List (List C)) (es : List (List C)) (os : List (List C)) (ss : List (List C)) (r : Int) (x : Int) (a : Int) : (vBodyL E_iLogTail noInl (sg [pDisk, pI] [rSl (9 : TypeId)]) Tryz.f32 H
  [C.sl ns, C.sl es, C.sl os, C.sl ss, C.int IntKind.i64 r, C.int IntKind.i64 x, C.int IntKind.i64 a]).eval =
 ((.must (dkOk ns es)
 (.must ((true && (List.map eStr (lkRecs (chain (nds ns) (ens es)))).all fun row => decide (row.length = (1 : Nat))) && true &&
    true &&
  true)
  (.must (decide
    ((0 : Int) ≤
      IntKind.i64.wrap
        ((↑(List.map eStr (lkRecs (chain (nds ns) (ens es)))).length : Int) -
          broughtOf a (0 : Int) (↑(List.map eStr (lkRecs (chain (nds ns) (ens es)))).length : Int))) &&
  decide
    (IntKind.i64.wrap
        ((↑(List.map eStr (lkRecs (chain (nds ns) (ens es)))).length : Int) -
          broughtOf a (0 : Int) (↑(List.map eStr (lkRecs (chain (nds ns) (ens es)))).length : Int)) ≤
      (↑(List.map eStr (lkRecs (chain (nds ns) (ens es)))).length : Int)))
   (.must (rowsOk [K.str]
    (List.take
      ((List.map eStr (lkRecs (chain (nds ns) (ens es)))).length -
        (IntKind.i64.wrap
            ((↑(List.map eStr (lkRecs (chain (nds ns) (ens es)))).length : Int) -
              broughtOf a (0 : Int) (↑(List.map eStr (lkRecs (chain (nds ns) (ens es)))).length : Int))).toNat)
      (List.drop
        ((0 : Nat) +
          (IntKind.i64.wrap
              ((↑(List.map eStr (lkRecs (chain (nds ns) (ens es)))).length : Int) -
                broughtOf a (0 : Int) (↑(List.map eStr (lkRecs (chain (nds ns) (ens es)))).length : Int))).toNat)
        (List.map eStr (lkRecs (chain (nds ns) (ens es)))))) &&
  decide
    ((List.take
          ((List.map eStr (lkRecs (chain (nds ns) (ens es)))).length -
            (IntKind.i64.wrap
                ((↑(List.map eStr (lkRecs (chain (nds ns) (ens es)))).length : Int) -
                  broughtOf a (0 : Int) (↑(List.map eStr (lkRecs (chain (nds ns) (ens es)))).length : Int))).toNat)
          (List.drop
            ((0 : Nat) +
              (IntKind.i64.wrap
                  ((↑(List.map eStr (lkRecs (chain (nds ns) (ens es)))).length : Int) -
                    broughtOf a (0 : Int) (↑(List.map eStr (lkRecs (chain (nds ns) (ens es)))).length : Int))).toNat)
            (List.map eStr (lkRecs (chain (nds ns) (ens es)))))).length ≤
      (1099511627776 : Nat)))
    (.must ((true &&
        (List.take
              ((List.map eStr (lkRecs (chain (nds ns) (ens es)))).length -
                (IntKind.i64.wrap
                    ((↑(List.map eStr (lkRecs (chain (nds ns) (ens es)))).length : Int) -
                      broughtOf a (0 : Int) (↑(List.map eStr (lkRecs (chain (nds ns) (ens es)))).length : Int))).toNat)
              (List.drop
                ((0 : Nat) +
                  (IntKind.i64.wrap
                      ((↑(List.map eStr (lkRecs (chain (nds ns) (ens es)))).length : Int) -
                        broughtOf a (0 : Int)
                          (↑(List.map eStr (lkRecs (chain (nds ns) (ens es)))).length : Int))).toNat)
                (List.map eStr (lkRecs (chain (nds ns) (ens es)))))).all
          fun row => decide (row.length = (1 : Nat))) &&
      true &&
    true &&
  true)
     (.must (decide
          ((List.take
                ((List.map eStr (lkRecs (chain (nds ns) (ens es)))).length -
                  (IntKind.i64.wrap
                      ((↑(List.map eStr (lkRecs (chain (nds ns) (ens es)))).length : Int) -
                        broughtOf a (0 : Int)
                          (↑(List.map eStr (lkRecs (chain (nds ns) (ens es)))).length : Int))).toNat)
                (List.drop
                  ((0 : Nat) +
                    (IntKind.i64.wrap
                        ((↑(List.map eStr (lkRecs (chain (nds ns) (ens es)))).length : Int) -
                          broughtOf a (0 : Int)
                            (↑(List.map eStr (lkRecs (chain (nds ns) (ens es)))).length : Int))).toNat)
                  (List.map eStr (lkRecs (chain (nds ns) (ens es)))))).length =
            (List.take
                ((List.map eStr (lkRecs (chain (nds ns) (ens es)))).length -
                  (IntKind.i64.wrap
                      ((↑(List.map eStr (lkRecs (chain (nds ns) (ens es)))).length : Int) -
                        broughtOf a (0 : Int)
                          (↑(List.map eStr (lkRecs (chain (nds ns) (ens es)))).length : Int))).toNat)
                (List.drop
                  ((0 : Nat) +
                    (IntKind.i64.wrap
                        ((↑(List.map eStr (lkRecs (chain (nds ns) (ens es)))).length : Int) -
                          broughtOf a (0 : Int)
                            (↑(List.map eStr (lkRecs (chain (nds ns) (ens es)))).length : Int))).toNat)
                  (List.map eStr (lkRecs (chain (nds ns) (ens es)))))).length) &&
        (false ||
          (List.take
                ((List.map eStr (lkRecs (chain (nds ns) (ens es)))).length -
                  (IntKind.i64.wrap
                      ((↑(List.map eStr (lkRecs (chain (nds ns) (ens es)))).length : Int) -
                        broughtOf a (0 : Int)
                          (↑(List.map eStr (lkRecs (chain (nds ns) (ens es)))).length : Int))).toNat)
                (List.drop
                  ((0 : Nat) +
                    (IntKind.i64.wrap
                        ((↑(List.map eStr (lkRecs (chain (nds ns) (ens es)))).length : Int) -
                          broughtOf a (0 : Int)
                            (↑(List.map eStr (lkRecs (chain (nds ns) (ens es)))).length : Int))).toNat)
                  (List.map eStr (lkRecs (chain (nds ns) (ens es)))))).all
            fun r => r.all C.flat) &&
      true &&
    true &&
  true)
      (.ret [C.sl
    (List.take
      ((List.map eStr (lkRecs (chain (nds ns) (ens es)))).length -
        (IntKind.i64.wrap
            ((↑(List.map eStr (lkRecs (chain (nds ns) (ens es)))).length : Int) -
              broughtOf a (0 : Int) (↑(List.map eStr (lkRecs (chain (nds ns) (ens es)))).length : Int))).toNat)
      (List.drop
        ((0 : Nat) +
          (IntKind.i64.wrap
              ((↑(List.map eStr (lkRecs (chain (nds ns) (ens es)))).length : Int) -
                broughtOf a (0 : Int) (↑(List.map eStr (lkRecs (chain (nds ns) (ens es)))).length : Int))).toNat)
        (List.map eStr (lkRecs (chain (nds ns) (ens es))))))]))))))) : T (List C)).eval := evalEq (by kernel_rfl)
theorem lLogTail_tree (H : List Pt → Nat → St → T (List C)) (ns : List (List C)) (es : List (List C)) (os : List (List C)) (ss : List (List C)) (r : Int) (x : Int) (a : Int) : (vBodyL E_lLogTail noInl (sg [pLDisk, pI] [rB]) Tryz.f9 H
  [C.sl ns, C.sl es, C.sl os, C.sl ss, C.int IntKind.i64 r, C.int IntKind.i64 x, C.int IntKind.i64 a]).eval =
 ((.must (decide ((0 : Int) ≤ (1048576 : Int)) && decide ((1048576 : Int) ≤ (1048576 : Int)) &&
  (diskLens (281474976710656 : Nat) ns es os ss && diskRows ns es os ss && diskTexts ns es os ss))
 (.ask (decide (szDisk (nds ns) (ens es) (ens os) (strs ss) (1048576 : Int) < (0 : Int)))
  (.ret [C.bool true])
  (.must (diskLens (1048576 : Nat) ns es os ss && diskRows ns es os ss)
   (.must ((true && ns.all fun row => decide (row.length = (3 : Nat))) &&
      ((true && es.all fun row => decide (row.length = (2 : Nat))) &&
        ((true && os.all fun row => decide (row.length = (2 : Nat))) &&
          ((true && ss.all fun row => decide (row.length = (1 : Nat))) &&
            (decide ((0 : Nat) < (1 : Nat)) && true && (decide ((0 : Nat) < (1 : Nat)) && true && true))))) &&
    true &&
  true)
    (.must (dkOk (List.take ns.length ns) (List.take es.length es))
     (.must ((true &&
        (List.map eStr (tailOf (recsOf (List.take ns.length ns) (List.take es.length es)) a)).all fun row =>
          decide (row.length = (1 : Nat))) &&
      true &&
    true &&
  true)
      (.must (diskLens (1048576 : Nat) ns es os ss && diskRows ns es os ss)
       (.must ((true && ns.all fun row => decide (row.length = (3 : Nat))) &&
      ((true && es.all fun row => decide (row.length = (2 : Nat))) &&
        ((true && os.all fun row => decide (row.length = (2 : Nat))) &&
          ((true && ss.all fun row => decide (row.length = (1 : Nat))) &&
            (decide ((0 : Nat) < (1 : Nat)) && true && (decide ((0 : Nat) < (1 : Nat)) && true && true))))) &&
    true &&
  true)
        (.must (dkOk (List.take ns.length ns) (List.take es.length es))
         (.must ((true &&
        (List.map eStr (tailOf (recsOf (List.take ns.length ns) (List.take es.length es)) a)).all fun row =>
          decide (row.length = (1 : Nat))) &&
      true &&
    true &&
  true)
          (.must (decide
    ((List.take (List.map eStr (tailOf (recsOf (List.take ns.length ns) (List.take es.length es)) a)).length
          (List.map eStr (tailOf (recsOf (List.take ns.length ns) (List.take es.length es)) a))).length ≤
      (1073741824 : Nat)) &&
  (rowsOk [K.str]
      (List.take (List.map eStr (tailOf (recsOf (List.take ns.length ns) (List.take es.length es)) a)).length
        (List.map eStr (tailOf (recsOf (List.take ns.length ns) (List.take es.length es)) a))) &&
    rowsOk [K.str]
      (List.take (List.map eStr (tailOf (recsOf (List.take ns.length ns) (List.take es.length es)) a)).length
        (List.map eStr (tailOf (recsOf (List.take ns.length ns) (List.take es.length es)) a)))))
           (.ask (decide
  (strs
      (List.take (List.map eStr (tailOf (recsOf (List.take ns.length ns) (List.take es.length es)) a)).length
        (List.map eStr (tailOf (recsOf (List.take ns.length ns) (List.take es.length es)) a))) =
    strs
      (List.take (List.map eStr (tailOf (recsOf (List.take ns.length ns) (List.take es.length es)) a)).length
        (List.map eStr (tailOf (recsOf (List.take ns.length ns) (List.take es.length es)) a)))))
            (.must (diskLens (1048576 : Nat) ns es os ss && diskRows ns es os ss)
             (.must ((true && ns.all fun row => decide (row.length = (3 : Nat))) &&
      ((true && es.all fun row => decide (row.length = (2 : Nat))) &&
        ((true && os.all fun row => decide (row.length = (2 : Nat))) &&
          ((true && ss.all fun row => decide (row.length = (1 : Nat))) &&
            (decide ((0 : Nat) < (1 : Nat)) && true && (decide ((0 : Nat) < (1 : Nat)) && true && true))))) &&
    true &&
  true)
              (.must (diskLens (1048576 : Nat) (List.take ns.length ns) (List.take es.length es) (List.take os.length os)
      (List.take ss.length ss) &&
    diskRows (List.take ns.length ns) (List.take es.length es) (List.take os.length os) (List.take ss.length ss) &&
  diskRows (List.take ns.length ns) (List.take es.length es) (List.take os.length os) (List.take ss.length ss))
               (.ask (eqDk (List.take ns.length ns) (List.take es.length es) (List.take os.length os) (List.take ss.length ss) r x
  (List.take ns.length ns) (List.take es.length es) (List.take os.length os) (List.take ss.length ss) r x)
                (.must (true && (true && (true && (true && (true && (true && (true && true)))))) &&
  (decide (ns.length = ns.length) &&
      (decide (es.length = es.length) &&
        (decide (os.length = os.length) && (decide (ss.length = ss.length) && true))) &&
    true))
                 (.must (diskRows ns es os ss &&
  (diskLens (1048576 : Nat) ns es os ss && (decide ((0 : Int) ≤ (1 : Int)) && decide ((1 : Int) ≤ (1073741824 : Int)))))
                  (.must (decide ((0 : Nat) < (1 : Nat)) && true && true && true &&
  ((decide ((mk mkN (3 : Int) (1 : Int) ns.length).length = ns.length) &&
        (mk mkN (3 : Int) (1 : Int) ns.length).all fun r => decide (r.length = (3 : Nat))) &&
      ((decide ((mk mkE' (2 : Int) ((1 : Int) + (3 : Int) * (↑ns.length : Int)) es.length).length = es.length) &&
          (mk mkE' (2 : Int) ((1 : Int) + (3 : Int) * (↑ns.length : Int)) es.length).all fun r =>
            decide (r.length = (2 : Nat))) &&
        ((decide
              ((mk mkE' (2 : Int) ((1 : Int) + (3 : Int) * (↑ns.length : Int) + (2 : Int) * (↑es.length : Int))
                    os.length).length =
                os.length) &&
            (mk mkE' (2 : Int) ((1 : Int) + (3 : Int) * (↑ns.length : Int) + (2 : Int) * (↑es.length : Int))
                  os.length).all
              fun r => decide (r.length = (2 : Nat))) &&
          ((decide
                ((mk mkS (1 : Int)
                      ((1 : Int) + (3 : Int) * (↑ns.length : Int) + (2 : Int) * (↑es.length : Int) +
                        (2 : Int) * (↑os.length : Int))
                      ss.length).length =
                  ss.length) &&
              (mk mkS (1 : Int)
                    ((1 : Int) + (3 : Int) * (↑ns.length : Int) + (2 : Int) * (↑es.length : Int) +
                      (2 : Int) * (↑os.length : Int))
                    ss.length).all
                fun r => decide (r.length = (1 : Nat))) &&
            true))) &&
    true))
                   (.must (decide
    ((List.take (List.map eStr (tailOf (recsOf (List.take ns.length ns) (List.take es.length es)) a)).length
          (List.map eStr (tailOf (recsOf (List.take ns.length ns) (List.take es.length es)) a))).length ≤
      (1073741824 : Nat)) &&
  (rowsOk [K.str]
      (List.take (List.map eStr (tailOf (recsOf (List.take ns.length ns) (List.take es.length es)) a)).length
        (List.map eStr (tailOf (recsOf (List.take ns.length ns) (List.take es.length es)) a))) &&
    rowsOk [K.str]
      (List.take (List.map eStr (tailOf (recsOf (List.take ns.length ns) (List.take es.length es)) a)).length
        (List.map eStr (tailOf (recsOf (List.take ns.length ns) (List.take es.length es)) a)))))
                    (.ask (decide
  (strs
      (List.take (List.map eStr (tailOf (recsOf (List.take ns.length ns) (List.take es.length es)) a)).length
        (List.map eStr (tailOf (recsOf (List.take ns.length ns) (List.take es.length es)) a))) =
    strs
      (List.take (List.map eStr (tailOf (recsOf (List.take ns.length ns) (List.take es.length es)) a)).length
        (List.map eStr (tailOf (recsOf (List.take ns.length ns) (List.take es.length es)) a)))))
                     (.must (true && (true && true) &&
  (decide
        ((List.map eStr (tailOf (recsOf (List.take ns.length ns) (List.take es.length es)) a)).length =
          (List.map eStr (tailOf (recsOf (List.take ns.length ns) (List.take es.length es)) a)).length) &&
      true &&
    true))
                      (.must (rowsOk [K.str] (List.map eStr (tailOf (recsOf (List.take ns.length ns) (List.take es.length es)) a)) &&
  (decide
      ((List.map eStr (tailOf (recsOf (List.take ns.length ns) (List.take es.length es)) a)).length ≤
        (1073741824 : Nat)) &&
    (decide ((0 : Int) ≤ (1 : Int)) && decide ((1 : Int) ≤ (1099511627776 : Int)))))
                       (.must (decide ((0 : Nat) < (1 : Nat)) && true && true && true &&
  ((decide
          ((mk mkS (1 : Int) (1 : Int)
                (List.map eStr (tailOf (recsOf (List.take ns.length ns) (List.take es.length es)) a)).length).length =
            (List.map eStr (tailOf (recsOf (List.take ns.length ns) (List.take es.length es)) a)).length) &&
        (mk mkS (1 : Int) (1 : Int)
              (List.map eStr (tailOf (recsOf (List.take ns.length ns) (List.take es.length es)) a)).length).all
          fun r => decide (r.length = (1 : Nat))) &&
      true &&
    true))
                        (.must (rowsOk [K.str]
    (List.take (List.map eStr (tailOf (recsOf (List.take ns.length ns) (List.take es.length es)) a)).length
      (mk mkS (1 : Int) (1 : Int)
        (List.map eStr (tailOf (recsOf (List.take ns.length ns) (List.take es.length es)) a)).length)) &&
  (decide
      ((List.take (List.map eStr (tailOf (recsOf (List.take ns.length ns) (List.take es.length es)) a)).length
            (mk mkS (1 : Int) (1 : Int)
              (List.map eStr (tailOf (recsOf (List.take ns.length ns) (List.take es.length es)) a)).length)).length ≤
        (1073741824 : Nat)) &&
    (decide ((0 : Int) ≤ (1 : Int)) && decide ((1 : Int) ≤ (1099511627776 : Int)))))
                         (.ask (decide
  (heldS
      (strs
        (List.take (List.map eStr (tailOf (recsOf (List.take ns.length ns) (List.take es.length es)) a)).length
          (mk mkS (1 : Int) (1 : Int)
            (List.map eStr (tailOf (recsOf (List.take ns.length ns) (List.take es.length es)) a)).length)))
      (1 : Int) <
    (0 : Int)))
                          (.ret [C.bool false])
                          (.ask (heldS
    (strs
      (List.take (List.map eStr (tailOf (recsOf (List.take ns.length ns) (List.take es.length es)) a)).length
        (mk mkS (1 : Int) (1 : Int)
          (List.map eStr (tailOf (recsOf (List.take ns.length ns) (List.take es.length es)) a)).length)))
    (1 : Int) !=
  Int.ofNat ((1 : Nat) + (List.map eStr (tailOf (recsOf (List.take ns.length ns) (List.take es.length es)) a)).length))
                           (.ret [C.bool false])
                           (.must (diskLens (1048576 : Nat) ns es os ss && diskRows ns es os ss)
                            (.must ((true && ns.all fun row => decide (row.length = (3 : Nat))) &&
      ((true && es.all fun row => decide (row.length = (2 : Nat))) &&
        ((true && os.all fun row => decide (row.length = (2 : Nat))) &&
          ((true && ss.all fun row => decide (row.length = (1 : Nat))) &&
            (decide ((0 : Nat) < (1 : Nat)) && true && (decide ((0 : Nat) < (1 : Nat)) && true && true))))) &&
    true &&
  true)
                             (.must (dkOk (List.take ns.length ns) (List.take es.length es))
                              (.must ((true &&
        (List.map eStr (tailOf (recsOf (List.take ns.length ns) (List.take es.length es)) a)).all fun row =>
          decide (row.length = (1 : Nat))) &&
      true &&
    true &&
  true)
                               (.must (decide
    ((List.take (List.map eStr (tailOf (recsOf (List.take ns.length ns) (List.take es.length es)) a)).length
          (List.map eStr (tailOf (recsOf (List.take ns.length ns) (List.take es.length es)) a))).length ≤
      (1073741824 : Nat)) &&
  (rowsOk [K.str]
      (List.take (List.map eStr (tailOf (recsOf (List.take ns.length ns) (List.take es.length es)) a)).length
        (List.map eStr (tailOf (recsOf (List.take ns.length ns) (List.take es.length es)) a))) &&
    rowsOk [K.str]
      (List.take (List.map eStr (tailOf (recsOf (List.take ns.length ns) (List.take es.length es)) a)).length
        (List.map eStr (tailOf (recsOf (List.take ns.length ns) (List.take es.length es)) a)))))
                                (.ask (decide
  (strs
      (List.take (List.map eStr (tailOf (recsOf (List.take ns.length ns) (List.take es.length es)) a)).length
        (List.map eStr (tailOf (recsOf (List.take ns.length ns) (List.take es.length es)) a))) =
    strs
      (List.take (List.map eStr (tailOf (recsOf (List.take ns.length ns) (List.take es.length es)) a)).length
        (List.map eStr (tailOf (recsOf (List.take ns.length ns) (List.take es.length es)) a)))))
                                 (.must (rowsOk [K.str]
    (List.take (List.map eStr (tailOf (recsOf (List.take ns.length ns) (List.take es.length es)) a)).length
      (mk mkS (1 : Int) (1 : Int)
        (List.map eStr (tailOf (recsOf (List.take ns.length ns) (List.take es.length es)) a)).length)) &&
  (decide
      ((List.take (List.map eStr (tailOf (recsOf (List.take ns.length ns) (List.take es.length es)) a)).length
            (mk mkS (1 : Int) (1 : Int)
              (List.map eStr (tailOf (recsOf (List.take ns.length ns) (List.take es.length es)) a)).length)).length ≤
        (1073741824 : Nat)) &&
    (decide ((0 : Int) ≤ (1 : Int)) && decide ((1 : Int) ≤ (1099511627776 : Int)))))
                                  (.ask (decide
  (heldS
      (strs
        (List.take (List.map eStr (tailOf (recsOf (List.take ns.length ns) (List.take es.length es)) a)).length
          (mk mkS (1 : Int) (1 : Int)
            (List.map eStr (tailOf (recsOf (List.take ns.length ns) (List.take es.length es)) a)).length)))
      (1 : Int) <
    (0 : Int)))
                                   (.ret [C.bool false])
                                   (.ask (heldS
    (strs
      (List.take (List.map eStr (tailOf (recsOf (List.take ns.length ns) (List.take es.length es)) a)).length
        (mk mkS (1 : Int) (1 : Int)
          (List.map eStr (tailOf (recsOf (List.take ns.length ns) (List.take es.length es)) a)).length)))
    (1 : Int) !=
  Int.ofNat ((1 : Nat) + (List.map eStr (tailOf (recsOf (List.take ns.length ns) (List.take es.length es)) a)).length))
                                    (.ret [C.bool false])
                                    (.ret [C.bool true]))))
                                 (.ret [C.bool false])))))))))))))
                     (.ret [C.bool false]))))))
                (.ret [C.bool false])))))
            (.ret [C.bool false]))))))))))))) : T (List C)).eval := evalEq (by kernel_rfl)
end Go.Proofs.YtpjcnjefffakpaaGreatDoor.V

namespace Go.Proofs.YtpjcnjefffakpaaGreatDoor.V

theorem range_len (l : List (List UInt8)) (a b : Int) : (rangeOf l a b).length ≤ l.length := by
  unfold rangeOf
  split
  · simp; omega
  · simp
theorem range_map (l : List (List UInt8)) (a b : Int) (h : rangeOk l.length a b = true) : List.take (b.toNat - a.toNat) (List.drop (0 + a.toNat) (l.map eStr)) = (rangeOf l a b).map eStr := by
  rw [Nat.zero_add]
  simp [rangeOf, h, List.map_take, List.map_drop]
theorem roomy_rows (m : List (List UInt8)) (h : m.length ≤ 16777216) : roomy (m.map eStr).length 16 = true := by unfold roomy; simp; omega
theorem take_mk (k : Int) (n : Nat) : List.take n (mk mkS 1 k n) = mk mkS 1 k n := by rw [List.take_of_length_le]; rw [mk_len]; exact Nat.le_refl _
theorem rows_mk (k : Int) (n : Nat) : rowsOk [.str] (mk mkS 1 k n) = true := mk_all _ _ _ _ _ fun k => rfl
theorem mk_n3 (k : Int) (n : Nat) : ((mk mkN 3 k n).all fun r => decide (r.length = 3)) = true := mk_all _ _ _ _ _ fun k => rfl
theorem mk_n2 (k : Int) (n : Nat) : ((mk mkE' 2 k n).all fun r => decide (r.length = 2)) = true := mk_all _ _ _ _ _ fun k => rfl
theorem mk_n1 (k : Int) (n : Nat) : ((mk mkS 1 k n).all fun r => decide (r.length = 1)) = true := mk_all _ _ _ _ _ fun k => rfl
theorem bigTwo (m : List (List UInt8)) (h : m.length ≤ 16777216) : decide ((m.map eStr).length ≤ 1099511627776) = true := by simp; omega
theorem bigOne (m : List (List UInt8)) (h : m.length ≤ 16777216) : decide ((m.map eStr).length ≤ 1073741824) = true := by simp; omega
theorem sLogRange_E : EnvSound Tryz.prog E_sLogRange := mkE_sound (by simp [sRowOf_sound])
theorem sLogRange_sound : Sound Tryz.prog 25 (sg [pDisk, pI, pI] [rSl 9, rI]) rangeSpec := vBody_sound sLogRange_E noInl_ok Tryz.func25 (by kernel_rfl) fun cs outs hk h => by
  unfold rangeSpec at h
  split at h
  · simp only [Option.some.injEq, Prod.mk.injEq] at h
    obtain ⟨h1, rfl⟩ := h
    rename_i ns es os ss r x a b
    have l1 := recs_len h1
    rw [vBody_L, sLogRange_tree]
    have e1' : lkRecs (chain (nds ns) (ens es)) = recsOf ns es := rfl
    rw [e1']
    generalize recsOf ns es = l at l1 ⊢
    simp only [eval_must', eval_ask', eval_ret', h1, rows1, decide_true, Bool.and_self, if_true, decide_eq_true_eq, List.length_map]
    by_cases c1 : a < 0
    · have : rangeOk l.length a b = false := by unfold rangeOk; simp; omega
      simp [c1, rangeOf, rangeCode, this]
    · by_cases c2 : b < a
      · have : rangeOk l.length a b = false := by unfold rangeOk; simp; omega
        simp [c1, c2, rangeOf, rangeCode, this]
      · by_cases c3 : (l.length : Int) < b
        · have : rangeOk l.length a b = false := by unfold rangeOk; simp; omega
          simp [c1, c2, c3, rangeOf, rangeCode, this]
        · have hok : rangeOk l.length a b = true := by unfold rangeOk; simp; omega
          have p1 : 0 ≤ b := by omega
          have p2 : b ≤ (l.length : Int) := by omega
          have p3 : 0 ≤ a := by omega
          have p4 : a ≤ b := by omega
          have l2 := range_len l a b
          rw [range_map l a b hok]
          have hc : rangeCode l.length a b = 0 := by simp [rangeCode, hok]
          rw [hc]
          generalize rangeOf l a b = m at l2 ⊢
          have r2 := roomy_rows m (by omega)
          simp only [c1, c2, c3, p1, p2, p3, p4, if_false, if_true, decide_true, Bool.and_self, r2, rows1, flat_strs, Nat.zero_add, Bool.or_true, Bool.and_true]
  · cases h
theorem iLogRange_E : EnvSound Tryz.prog E_iLogRange := mkE_sound (by simp [iIn_sound, iRowOf_sound, cloneS_sound])
theorem iLogRange_sound : Sound Tryz.prog 26 (sg [pDisk, pI, pI] [rSl 9, rI]) rangeSpec := vBody_sound iLogRange_E noInl_ok Tryz.func26 (by kernel_rfl) fun cs outs hk h => by
  unfold rangeSpec at h
  split at h
  · simp only [Option.some.injEq, Prod.mk.injEq] at h
    obtain ⟨h1, rfl⟩ := h
    rename_i ns es os ss r x a b
    have l1 := recs_len h1
    rw [vBody_L, iLogRange_tree]
    have e1' : lkRecs (chain (nds ns) (ens es)) = recsOf ns es := rfl
    rw [e1']
    generalize recsOf ns es = l at l1 ⊢
    simp only [eval_must', eval_ask', eval_ret', h1, rows1, decide_true, Bool.and_self, if_true, decide_eq_true_eq, List.length_map, inB, Bool.and_eq_true]
    by_cases hok : rangeOk l.length a b = true
    · have hk := hok
      unfold rangeOk at hk
      simp only [Bool.and_eq_true, decide_eq_true_eq] at hk
      have p1 : 0 ≤ b := by omega
      have p2 : b ≤ (l.length : Int) := by omega
      have p3 : 0 ≤ a := by omega
      have p4 : a ≤ b := by omega
      have l2 := range_len l a b
      rw [range_map l a b hok]
      have hc : rangeCode l.length a b = 0 := by simp [rangeCode, hok]
      rw [hc]
      generalize rangeOf l a b = m at l2 ⊢
      have r2 : m.length ≤ 1099511627776 := by omega
      simp only [p1, p2, p3, p4, and_self, if_true, decide_true, Bool.and_self, r2, rows1, rowsOk_strs, flat_strs, Bool.or_true, Bool.and_true, List.length_map]
    · have hb : rangeOk l.length a b = false := by simpa using hok
      have e2 : rangeOf l a b = [] := by simp [rangeOf, hb]
      have e3 : rangeCode l.length a b = 1 := by simp [rangeCode, hb]
      rw [e2, e3]
      by_cases c1 : 0 ≤ b ∧ b ≤ (l.length : Int)
      · have c2 : ¬ (0 ≤ a ∧ a ≤ b) := fun c => by
          apply hok
          unfold rangeOk
          simp only [Bool.and_eq_true, decide_eq_true_eq]
          omega
        simp only [c1, c2, and_self, if_true, if_false, List.map_nil]
      · simp only [c1, if_false, List.map_nil]
  · cases h
theorem lLogRange_E : EnvSound Tryz.prog E_lLogRange := mkE_sound (by simp [eqStringS_sound, szDiskF_sound, toDisk_sound, eqDisk_sound, lMarkS_sound, lHeldS_sound, lMarkD_sound, sLogRange_sound, iLogRange_sound])
theorem lLogRange_sound : Sound Tryz.prog 8 (sg [pLDisk, pI, pI] [rB]) diskIntIntLaw := vBody_sound lLogRange_E noInl_ok Tryz.func8 (by kernel_rfl) fun cs outs hk h => by
  unfold diskIntIntLaw at h
  split at h
  · simp only [Option.some.injEq, Prod.mk.injEq] at h
    obtain ⟨hl, rfl⟩ := h
    rename_i ns es os ss r x a b
    rw [vBody_L, lLogRange_tree]
    have hl' := hl
    unfold lawDisk at hl'
    simp only [Bool.and_eq_true] at hl'
    obtain ⟨⟨g1, g2⟩, g3⟩ := hl'
    have d0 : decide ((0 : Int) ≤ 1048576) = true := by decide
    have d1 : decide ((1048576 : Int) ≤ 1048576) = true := by decide
    have d2 : decide (0 < 1) = true := by decide
    simp only [eval_must', eval_ask', eval_ret', d0, d1, d2, g1, g2, g3, Bool.and_self, if_true, decide_eq_true_eq]
    by_cases hs : szDisk (nds ns) (ens es) (ens os) (strs ss) 1048576 < 0
    · simp only [hs, if_true]
    · obtain ⟨_, _, _, q4, q5⟩ := small_disk hl hs
      obtain ⟨r1, r2, r3, r4⟩ := disk_rows g2
      simp only [hs, if_false, List.take_length]
      have l1 := recs_len q5
      have l2 := range_len (recsOf ns es) a b
      generalize rangeOf (recsOf ns es) a b = m at l2 ⊢
      generalize rangeCode (recsOf ns es).length a b = cd
      have m1 := bigOne m (by omega)
      have d3 : decide ((0 : Int) ≤ 1) = true := by decide
      have d4 : decide ((1 : Int) ≤ 1073741824) = true := by decide
      have d5 : decide ((1 : Int) ≤ 1099511627776) = true := by decide
      have z1 : ¬ ((1 : Int) + ((m.map eStr).length : Int) < 0) := by omega
      have z2 : ((1 : Int) + ((m.map eStr).length : Int) != Int.ofNat (1 + (m.map eStr).length)) = false := by simp
      simp only [g2, q4, q5, r1, r2, r3, r4, d3, d4, d5, m1, z1, z2, rows1, rowsOk_strs, take_mk, rows_mk, mk_len, mk_n1, mk_n2, mk_n3, held_marks, eqDk_self, bne_self_eq_false, decide_true, Bool.and_self, Bool.and_true, Bool.true_and, Bool.false_eq_true, if_true, if_false]
  · cases h

theorem tail_at (n : Nat) (k : Int) (h : n ≤ 16777216) : 0 ≤ IntKind.i64.wrap ((n : Int) - broughtOf k 0 n) ∧ IntKind.i64.wrap ((n : Int) - broughtOf k 0 n) ≤ n := by
  have hb : 0 ≤ broughtOf k 0 n ∧ broughtOf k 0 n ≤ n := by unfold broughtOf; split <;> (try split) <;> omega
  rw [wrap64 (by omega) (by omega)]
  omega
theorem tail_map (l : List (List UInt8)) (k : Int) : List.take ((l.map eStr).length - (IntKind.i64.wrap (((l.map eStr).length : Int) - broughtOf k 0 ((l.map eStr).length : Int))).toNat) (List.drop (0 + (IntKind.i64.wrap (((l.map eStr).length : Int) - broughtOf k 0 ((l.map eStr).length : Int))).toNat) (l.map eStr)) = (tailOf l k).map eStr := by
  rw [Nat.zero_add, List.length_map]
  unfold tailOf tailAt
  rw [List.map_drop, List.take_of_length_le]
  simp
theorem tail_len (l : List (List UInt8)) (k : Int) : (tailOf l k).length ≤ l.length := by unfold tailOf; simp
theorem sLogTail_E : EnvSound Tryz.prog E_sLogTail := mkE_sound (by simp [sBrought_sound, sRowOf_sound])
theorem sLogTail_sound : Sound Tryz.prog 31 (sg [pDisk, pI] [rSl 9]) tailSpec := vBody_sound sLogTail_E noInl_ok Tryz.func31 (by kernel_rfl) fun cs outs hk h => by
  unfold tailSpec at h
  split at h
  · simp only [Option.some.injEq, Prod.mk.injEq] at h
    obtain ⟨h1, rfl⟩ := h
    rename_i ns es os ss r x a
    have l1 := recs_len h1
    rw [vBody_L, sLogTail_tree]
    have e1' : lkRecs (chain (nds ns) (ens es)) = recsOf ns es := rfl
    rw [e1']
    generalize recsOf ns es = l at l1 ⊢
    have ta := tail_at (l.map eStr).length a (by simpa using l1)
    have l2 := tail_len l a
    rw [tail_map]
    generalize tailOf l a = m at l2 ⊢
    have r2 := roomy_rows m (by omega)
    simp only [eval_must', eval_ask', eval_ret', h1, rows1, ta.1, ta.2, r2, flat_strs, decide_true, Bool.and_self, Bool.or_true, Bool.and_true, Bool.true_and, if_true, Nat.zero_add]
  · cases h
theorem iLogTail_E : EnvSound Tryz.prog E_iLogTail := mkE_sound (by simp [iBrought_sound, iRowOf_sound, cloneS_sound])
theorem iLogTail_sound : Sound Tryz.prog 32 (sg [pDisk, pI] [rSl 9]) tailSpec := vBody_sound iLogTail_E noInl_ok Tryz.func32 (by kernel_rfl) fun cs outs hk h => by
  unfold tailSpec at h
  split at h
  · simp only [Option.some.injEq, Prod.mk.injEq] at h
    obtain ⟨h1, rfl⟩ := h
    rename_i ns es os ss r x a
    have l1 := recs_len h1
    rw [vBody_L, iLogTail_tree]
    have e1' : lkRecs (chain (nds ns) (ens es)) = recsOf ns es := rfl
    rw [e1']
    generalize recsOf ns es = l at l1 ⊢
    have ta := tail_at (l.map eStr).length a (by simpa using l1)
    have l2 := tail_len l a
    rw [tail_map]
    generalize tailOf l a = m at l2 ⊢
    have r2 := bigTwo m (by omega)
    simp only [eval_must', eval_ask', eval_ret', h1, rows1, rowsOk_strs, ta.1, ta.2, r2, flat_strs, decide_true, Bool.and_self, Bool.or_true, Bool.and_true, Bool.true_and, if_true, Nat.zero_add]
  · cases h
theorem lLogTail_E : EnvSound Tryz.prog E_lLogTail := mkE_sound (by simp [eqStringS_sound, szDiskF_sound, toDisk_sound, eqDisk_sound, lMarkS_sound, lHeldS_sound, lMarkD_sound, sLogTail_sound, iLogTail_sound])
theorem lLogTail_sound : Sound Tryz.prog 9 (sg [pLDisk, pI] [rB]) diskIntLaw := vBody_sound lLogTail_E noInl_ok Tryz.func9 (by kernel_rfl) fun cs outs hk h => by
  unfold diskIntLaw at h
  split at h
  · simp only [Option.some.injEq, Prod.mk.injEq] at h
    obtain ⟨hl0, rfl⟩ := h
    rename_i ns es os ss r x a
    simp only [Bool.and_eq_true] at hl0
    obtain ⟨hl, _⟩ := hl0
    rw [vBody_L, lLogTail_tree]
    have hl' := hl
    unfold lawDisk at hl'
    simp only [Bool.and_eq_true] at hl'
    obtain ⟨⟨g1, g2⟩, g3⟩ := hl'
    have d0 : decide ((0 : Int) ≤ 1048576) = true := by decide
    have d1 : decide ((1048576 : Int) ≤ 1048576) = true := by decide
    have d2 : decide (0 < 1) = true := by decide
    simp only [eval_must', eval_ask', eval_ret', d0, d1, d2, g1, g2, g3, Bool.and_self, if_true, decide_eq_true_eq]
    by_cases hs : szDisk (nds ns) (ens es) (ens os) (strs ss) 1048576 < 0
    · simp only [hs, if_true]
    · obtain ⟨_, _, _, q4, q5⟩ := small_disk hl hs
      obtain ⟨r1, r2, r3, r4⟩ := disk_rows g2
      simp only [hs, if_false, List.take_length]
      have l1 := recs_len q5
      have l2 := tail_len (recsOf ns es) a
      generalize tailOf (recsOf ns es) a = m at l2 ⊢
      have m1 := bigOne m (by omega)
      have d3 : decide ((0 : Int) ≤ 1) = true := by decide
      have d4 : decide ((1 : Int) ≤ 1073741824) = true := by decide
      have d5 : decide ((1 : Int) ≤ 1099511627776) = true := by decide
      have z1 : ¬ ((1 : Int) + ((m.map eStr).length : Int) < 0) := by omega
      have z2 : ((1 : Int) + ((m.map eStr).length : Int) != Int.ofNat (1 + (m.map eStr).length)) = false := by simp
      simp only [g2, q4, q5, r1, r2, r3, r4, d3, d4, d5, m1, z1, z2, rows1, rowsOk_strs, take_mk, rows_mk, mk_len, mk_n1, mk_n2, mk_n3, held_marks, eqDk_self, bne_self_eq_false, decide_true, Bool.and_self, Bool.and_true, Bool.true_and, Bool.false_eq_true, if_true, if_false]
  · cases h

end Go.Proofs.YtpjcnjefffakpaaGreatDoor.V
