/- Functions of the given program and of its reference: what each returns, as an equation over data; by the interpreter. -/
import Derived.Test.YthpcgbnochcbcaaS3
import Derived.Test.YthpcgbnochcbcaaProg
import Derived.KernelRfl
set_option linter.unusedVariables false
set_option linter.unusedSimpArgs false
set_option linter.unusedSectionVars false
set_option linter.deprecated false
namespace Go.Proofs.Ythpcgbnochcbcaa.V
noncomputable section

def E_lFnHeads : Env := mkE [] [(30, (sg [pS, pI, pI] [rS]), turnSpec), (10, (sg [pCode] [rB]), bigSpec), (37, (sg [pHead] [rB]), headOkSpec), (36, (sg [pHead] [rB]), headOkSpec), (35, (sg [pHead] [rS]), headTextSpec), (34, (sg [pHead] [rS]), headTextSpec), (40, (sg [pS] [rHead, rB]), readHeadSpec), (39, (sg [pS] [rHead, rB]), readHeadSpec), (33, (⟨[pCode], [rHead], true⟩), drawHeadSpec), (38, (⟨[pCode], [rS], true⟩), drawReadHeadSpec), (29, (⟨[pCode], [rSl 3], true⟩), drawPlacesSpec)]

end
end Go.Proofs.Ythpcgbnochcbcaa.V

namespace Go.Proofs.Ythpcgbnochcbcaa.V
set_option maxRecDepth 100000
theorem lFnHeads_tree (H : List Pt → Nat → St → T (List C)) (r : List (List C)) : (vBodyL E_lFnHeads noInl (sg [pCode] [rB]) Try.f6 H [C.sl r]).eval =
 ((.ask (decide ((1048576 : Nat) < r.length))
 (.ret [C.bool true])
 (.must (curOk r (0 : Int))
  (.must (decide ((0 : Nat) < (1 : Nat)) && true &&
      (decide ((0 : Nat) < (1 : Nat)) && true &&
        (decide ((0 : Nat) < (1 : Nat)) && true && (decide ((0 : Nat) < (1 : Nat)) && true && true))) &&
    true &&
  true)
   (.must (decide ((0 : Nat) < (1 : Nat)) && true && true && true && true)
    (.must (decide ((0 : Nat) < (1 : Nat)) && true && true && true && true)
     (.ask (!headText (haV r (0 : Int) (newH r)) (haS r (0 : Int) (newH r)) (haB r (0 : Int) (newH r)) (haL r (0 : Int) (newH r)) ==
    headText (haV r (0 : Int) (newH r)) (haS r (0 : Int) (newH r)) (haB r (0 : Int) (newH r)) (haL r (0 : Int) (newH r)))
      (.ret [C.bool false])
      (.must (decide ((0 : Nat) < (1 : Nat)) && true && true && true && true)
       (.ask (headOk (haV r (0 : Int) (newH r)) (haS r (0 : Int) (newH r)) (haB r (0 : Int) (newH r)) (haL r (0 : Int) (newH r)))
        (.must (decide ((0 : Nat) < (1 : Nat)) && true && true && true && true)
         (.ask (headOk (haV r (0 : Int) (newH r)) (haS r (0 : Int) (newH r)) (haB r (0 : Int) (newH r)) (haL r (0 : Int) (newH r)))
          (.must (curOk r (0 : Int))
           (.must (decide ((0 : Nat) < (1 : Nat)) && true && true && true && true)
            (.must (decide ((drhT r).length ≤ (281474976710656 : Nat)))
             (.must (decide ((0 : Nat) < (1 : Nat)) && true &&
      (decide ((0 : Nat) < (1 : Nat)) && true &&
        (decide ((0 : Nat) < (1 : Nat)) && true && (decide ((0 : Nat) < (1 : Nat)) && true && true))) &&
    (decide ((0 : Nat) < (1 : Nat)) && true && true && true) &&
  true)
              (.ask (readHeadOk (drhT r))
               (.must (decide ((drhT r).length ≤ (281474976710656 : Nat)))
                (.must (decide ((0 : Nat) < (1 : Nat)) && true &&
      (decide ((0 : Nat) < (1 : Nat)) && true &&
        (decide ((0 : Nat) < (1 : Nat)) && true && (decide ((0 : Nat) < (1 : Nat)) && true && true))) &&
    (decide ((0 : Nat) < (1 : Nat)) && true && true && true) &&
  true)
                 (.ask (readHeadOk (drhT r))
                  (.ask (!(decide (ifI (readHeadOk (drhT r)) (rhV (drhT r)) = ifI (readHeadOk (drhT r)) (rhV (drhT r))) &&
    (decide (ifI (readHeadOk (drhT r)) (rhS (drhT r)) = ifI (readHeadOk (drhT r)) (rhS (drhT r))) &&
      (decide (ifI (readHeadOk (drhT r)) (rhB (drhT r)) = ifI (readHeadOk (drhT r)) (rhB (drhT r))) &&
        (decide (ifI (readHeadOk (drhT r)) (rhL (drhT r)) = ifI (readHeadOk (drhT r)) (rhL (drhT r))) && true)))))
                   (.ret [C.bool false])
                   (.must (curOk r (0 : Int))
                    (.must (true &&
        (decide ((0 : Nat) + (1 : Nat) = (1 : Nat)) &&
          (decide ((0 : Nat) + (1 : Nat) = (1 : Nat)) &&
            (decide ((0 : Nat) + (1 : Nat) = (1 : Nat)) &&
              (decide ((0 : Nat) + (1 : Nat) = (1 : Nat)) &&
                (decide ((0 : Nat) + (1 : Nat) = (1 : Nat)) &&
                  (decide ((0 : Nat) + (1 : Nat) = (1 : Nat)) &&
                    (decide ((0 : Nat) + (1 : Nat) = (1 : Nat)) &&
                      (decide ((0 : Nat) + (1 : Nat) = (1 : Nat)) &&
                        (decide ((0 : Nat) + (1 : Nat) = (1 : Nat)) &&
                          (decide ((0 : Nat) + (1 : Nat) = (1 : Nat)) &&
                            (decide ((0 : Nat) + (1 : Nat) = (1 : Nat)) &&
                              (decide ((0 : Nat) + (1 : Nat) = (1 : Nat)) && true)))))))))))) &&
      true &&
    true &&
  true)
                     (.must (decide ((0 : Int) ≤ (0 : Int)) &&
  decide
    ((0 : Int) <
      (↑(((((((((((Nat.add (1 : Nat) (0 : Nat)).succ.add (0 : Nat)).succ.add (0 : Nat)).succ.add
                                                        (0 : Nat)).succ.add
                                                  (0 : Nat)).succ.add
                                            (0 : Nat)).succ.add
                                      (0 : Nat)).succ.add
                                (0 : Nat)).succ.add
                          (0 : Nat)).succ.add
                    (0 : Nat)).succ.add
              (0 : Nat)).succ :
        Int)))
                      (.must (decide
    ((0 : Nat) + Int.toNat (0 : Int) <
      (((((((((((Nat.add (1 : Nat) (0 : Nat)).succ.add (0 : Nat)).succ.add (0 : Nat)).succ.add
                                                    (0 : Nat)).succ.add
                                              (0 : Nat)).succ.add
                                        (0 : Nat)).succ.add
                                  (0 : Nat)).succ.add
                            (0 : Nat)).succ.add
                      (0 : Nat)).succ.add
                (0 : Nat)).succ.add
          (0 : Nat)).succ) &&
  (decide ((0 : Nat) < (0 : Nat) + (1 : Nat)) && true && true))
                       (.must (decide ((0 : Int) ≤ (1 : Int)) &&
  decide
    ((1 : Int) <
      (↑(((((((((((Nat.add (1 : Nat) (0 : Nat)).succ.add (0 : Nat)).succ.add (0 : Nat)).succ.add
                                                        (0 : Nat)).succ.add
                                                  (0 : Nat)).succ.add
                                            (0 : Nat)).succ.add
                                      (0 : Nat)).succ.add
                                (0 : Nat)).succ.add
                          (0 : Nat)).succ.add
                    (0 : Nat)).succ.add
              (0 : Nat)).succ :
        Int)))
                        (.must (decide
    ((0 : Nat) + Int.toNat (1 : Int) <
      (((((((((((Nat.add (1 : Nat) (0 : Nat)).succ.add (0 : Nat)).succ.add (0 : Nat)).succ.add
                                                    (0 : Nat)).succ.add
                                              (0 : Nat)).succ.add
                                        (0 : Nat)).succ.add
                                  (0 : Nat)).succ.add
                            (0 : Nat)).succ.add
                      (0 : Nat)).succ.add
                (0 : Nat)).succ.add
          (0 : Nat)).succ) &&
  (decide ((0 : Nat) < (0 : Nat) + (1 : Nat)) && true && true))
                         (.must (decide ((0 : Int) ≤ (2 : Int)) &&
  decide
    ((2 : Int) <
      (↑(((((((((((Nat.add (1 : Nat) (0 : Nat)).succ.add (0 : Nat)).succ.add (0 : Nat)).succ.add
                                                        (0 : Nat)).succ.add
                                                  (0 : Nat)).succ.add
                                            (0 : Nat)).succ.add
                                      (0 : Nat)).succ.add
                                (0 : Nat)).succ.add
                          (0 : Nat)).succ.add
                    (0 : Nat)).succ.add
              (0 : Nat)).succ :
        Int)))
                          (.must (decide
    ((0 : Nat) + Int.toNat (2 : Int) <
      (((((((((((Nat.add (1 : Nat) (0 : Nat)).succ.add (0 : Nat)).succ.add (0 : Nat)).succ.add
                                                    (0 : Nat)).succ.add
                                              (0 : Nat)).succ.add
                                        (0 : Nat)).succ.add
                                  (0 : Nat)).succ.add
                            (0 : Nat)).succ.add
                      (0 : Nat)).succ.add
                (0 : Nat)).succ.add
          (0 : Nat)).succ) &&
  (decide ((0 : Nat) < (0 : Nat) + (1 : Nat)) && true && true))
                           (.must (decide ((0 : Int) ≤ (3 : Int)) &&
  decide
    ((3 : Int) <
      (↑(((((((((((Nat.add (1 : Nat) (0 : Nat)).succ.add (0 : Nat)).succ.add (0 : Nat)).succ.add
                                                        (0 : Nat)).succ.add
                                                  (0 : Nat)).succ.add
                                            (0 : Nat)).succ.add
                                      (0 : Nat)).succ.add
                                (0 : Nat)).succ.add
                          (0 : Nat)).succ.add
                    (0 : Nat)).succ.add
              (0 : Nat)).succ :
        Int)))
                            (.must (decide
    ((0 : Nat) + Int.toNat (3 : Int) <
      (((((((((((Nat.add (1 : Nat) (0 : Nat)).succ.add (0 : Nat)).succ.add (0 : Nat)).succ.add
                                                    (0 : Nat)).succ.add
                                              (0 : Nat)).succ.add
                                        (0 : Nat)).succ.add
                                  (0 : Nat)).succ.add
                            (0 : Nat)).succ.add
                      (0 : Nat)).succ.add
                (0 : Nat)).succ.add
          (0 : Nat)).succ) &&
  (decide ((0 : Nat) < (0 : Nat) + (1 : Nat)) && true && true))
                             (.must (decide ((headText (2 : Int) (3 : Int) (7 : Int) (5 : Int)).length ≤ (1048576 : Nat)) &&
    decide
      ((-9223372036854775808 : Int) ≤
        (dpAt r (0 : Nat)).tmod
          (IntKind.i64.wrap ((8 : Int) * (↑(headText (2 : Int) (3 : Int) (7 : Int) (5 : Int)).length : Int)))) &&
  decide
    ((dpAt r (0 : Nat)).tmod
        (IntKind.i64.wrap ((8 : Int) * (↑(headText (2 : Int) (3 : Int) (7 : Int) (5 : Int)).length : Int))) ≤
      (9223372036854775807 : Int)))
                              (.must (decide ((0 : Nat) < (1 : Nat)) && true && true && true && true)
                               (.must (decide
  ((turnOf (headText (2 : Int) (3 : Int) (7 : Int) (5 : Int))
        ((dpAt r (0 : Nat)).tmod
          (IntKind.i64.wrap ((8 : Int) * (↑(headText (2 : Int) (3 : Int) (7 : Int) (5 : Int)).length : Int))))
        (IntKind.i64.wrap
          ((1 : Int) +
            IntKind.i64.wrap
              ((2 : Int) *
                IntKind.i64.wrap
                  (IntKind.i64.wrap
                      (IntKind.i64.wrap (IntKind.i64.wrap (dpAt r (1 : Nat) * (10000 : Int)) + dpAt r (2 : Nat)) *
                        (20 : Int)) +
                    (dpAt r (3 : Nat)).tmod (20 : Int)))))).length ≤
    (281474976710656 : Nat)))
                                (.must (decide ((0 : Nat) < (1 : Nat)) && true &&
      (decide ((0 : Nat) < (1 : Nat)) && true &&
        (decide ((0 : Nat) < (1 : Nat)) && true && (decide ((0 : Nat) < (1 : Nat)) && true && true))) &&
    (decide ((0 : Nat) < (1 : Nat)) && true && true && true) &&
  true)
                                 (.ask (readHeadOk
  (turnOf (headText (2 : Int) (3 : Int) (7 : Int) (5 : Int))
    ((dpAt r (0 : Nat)).tmod
      (IntKind.i64.wrap ((8 : Int) * (↑(headText (2 : Int) (3 : Int) (7 : Int) (5 : Int)).length : Int))))
    (IntKind.i64.wrap
      ((1 : Int) +
        IntKind.i64.wrap
          ((2 : Int) *
            IntKind.i64.wrap
              (IntKind.i64.wrap
                  (IntKind.i64.wrap (IntKind.i64.wrap (dpAt r (1 : Nat) * (10000 : Int)) + dpAt r (2 : Nat)) *
                    (20 : Int)) +
                (dpAt r (3 : Nat)).tmod (20 : Int)))))))
                                  (.ret [C.bool false])
                                  (.ask (decide
    (ifI
        (readHeadOk
          (turnOf (headText (2 : Int) (3 : Int) (7 : Int) (5 : Int))
            ((dpAt r (0 : Nat)).tmod
              (IntKind.i64.wrap ((8 : Int) * (↑(headText (2 : Int) (3 : Int) (7 : Int) (5 : Int)).length : Int))))
            (IntKind.i64.wrap
              ((1 : Int) +
                IntKind.i64.wrap
                  ((2 : Int) *
                    IntKind.i64.wrap
                      (IntKind.i64.wrap
                          (IntKind.i64.wrap
                              (IntKind.i64.wrap (dpAt r (1 : Nat) * (10000 : Int)) + dpAt r (2 : Nat)) *
                            (20 : Int)) +
                        (dpAt r (3 : Nat)).tmod (20 : Int)))))))
        (rhV
          (turnOf (headText (2 : Int) (3 : Int) (7 : Int) (5 : Int))
            ((dpAt r (0 : Nat)).tmod
              (IntKind.i64.wrap ((8 : Int) * (↑(headText (2 : Int) (3 : Int) (7 : Int) (5 : Int)).length : Int))))
            (IntKind.i64.wrap
              ((1 : Int) +
                IntKind.i64.wrap
                  ((2 : Int) *
                    IntKind.i64.wrap
                      (IntKind.i64.wrap
                          (IntKind.i64.wrap
                              (IntKind.i64.wrap (dpAt r (1 : Nat) * (10000 : Int)) + dpAt r (2 : Nat)) *
                            (20 : Int)) +
                        (dpAt r (3 : Nat)).tmod (20 : Int))))))) =
      (0 : Int)) &&
  (decide
      (ifI
          (readHeadOk
            (turnOf (headText (2 : Int) (3 : Int) (7 : Int) (5 : Int))
              ((dpAt r (0 : Nat)).tmod
                (IntKind.i64.wrap ((8 : Int) * (↑(headText (2 : Int) (3 : Int) (7 : Int) (5 : Int)).length : Int))))
              (IntKind.i64.wrap
                ((1 : Int) +
                  IntKind.i64.wrap
                    ((2 : Int) *
                      IntKind.i64.wrap
                        (IntKind.i64.wrap
                            (IntKind.i64.wrap
                                (IntKind.i64.wrap (dpAt r (1 : Nat) * (10000 : Int)) + dpAt r (2 : Nat)) *
                              (20 : Int)) +
                          (dpAt r (3 : Nat)).tmod (20 : Int)))))))
          (rhS
            (turnOf (headText (2 : Int) (3 : Int) (7 : Int) (5 : Int))
              ((dpAt r (0 : Nat)).tmod
                (IntKind.i64.wrap ((8 : Int) * (↑(headText (2 : Int) (3 : Int) (7 : Int) (5 : Int)).length : Int))))
              (IntKind.i64.wrap
                ((1 : Int) +
                  IntKind.i64.wrap
                    ((2 : Int) *
                      IntKind.i64.wrap
                        (IntKind.i64.wrap
                            (IntKind.i64.wrap
                                (IntKind.i64.wrap (dpAt r (1 : Nat) * (10000 : Int)) + dpAt r (2 : Nat)) *
                              (20 : Int)) +
                          (dpAt r (3 : Nat)).tmod (20 : Int))))))) =
        (0 : Int)) &&
    (decide
        (ifI
            (readHeadOk
              (turnOf (headText (2 : Int) (3 : Int) (7 : Int) (5 : Int))
                ((dpAt r (0 : Nat)).tmod
                  (IntKind.i64.wrap ((8 : Int) * (↑(headText (2 : Int) (3 : Int) (7 : Int) (5 : Int)).length : Int))))
                (IntKind.i64.wrap
                  ((1 : Int) +
                    IntKind.i64.wrap
                      ((2 : Int) *
                        IntKind.i64.wrap
                          (IntKind.i64.wrap
                              (IntKind.i64.wrap
                                  (IntKind.i64.wrap (dpAt r (1 : Nat) * (10000 : Int)) + dpAt r (2 : Nat)) *
                                (20 : Int)) +
                            (dpAt r (3 : Nat)).tmod (20 : Int)))))))
            (rhB
              (turnOf (headText (2 : Int) (3 : Int) (7 : Int) (5 : Int))
                ((dpAt r (0 : Nat)).tmod
                  (IntKind.i64.wrap ((8 : Int) * (↑(headText (2 : Int) (3 : Int) (7 : Int) (5 : Int)).length : Int))))
                (IntKind.i64.wrap
                  ((1 : Int) +
                    IntKind.i64.wrap
                      ((2 : Int) *
                        IntKind.i64.wrap
                          (IntKind.i64.wrap
                              (IntKind.i64.wrap
                                  (IntKind.i64.wrap (dpAt r (1 : Nat) * (10000 : Int)) + dpAt r (2 : Nat)) *
                                (20 : Int)) +
                            (dpAt r (3 : Nat)).tmod (20 : Int))))))) =
          (0 : Int)) &&
      (decide
          (ifI
              (readHeadOk
                (turnOf (headText (2 : Int) (3 : Int) (7 : Int) (5 : Int))
                  ((dpAt r (0 : Nat)).tmod
                    (IntKind.i64.wrap ((8 : Int) * (↑(headText (2 : Int) (3 : Int) (7 : Int) (5 : Int)).length : Int))))
                  (IntKind.i64.wrap
                    ((1 : Int) +
                      IntKind.i64.wrap
                        ((2 : Int) *
                          IntKind.i64.wrap
                            (IntKind.i64.wrap
                                (IntKind.i64.wrap
                                    (IntKind.i64.wrap (dpAt r (1 : Nat) * (10000 : Int)) + dpAt r (2 : Nat)) *
                                  (20 : Int)) +
                              (dpAt r (3 : Nat)).tmod (20 : Int)))))))
              (rhL
                (turnOf (headText (2 : Int) (3 : Int) (7 : Int) (5 : Int))
                  ((dpAt r (0 : Nat)).tmod
                    (IntKind.i64.wrap ((8 : Int) * (↑(headText (2 : Int) (3 : Int) (7 : Int) (5 : Int)).length : Int))))
                  (IntKind.i64.wrap
                    ((1 : Int) +
                      IntKind.i64.wrap
                        ((2 : Int) *
                          IntKind.i64.wrap
                            (IntKind.i64.wrap
                                (IntKind.i64.wrap
                                    (IntKind.i64.wrap (dpAt r (1 : Nat) * (10000 : Int)) + dpAt r (2 : Nat)) *
                                  (20 : Int)) +
                              (dpAt r (3 : Nat)).tmod (20 : Int))))))) =
            (0 : Int)) &&
        true))))
                                   (.ask (headText (haV r (0 : Int) (newH r)) (haS r (0 : Int) (newH r)) (haB r (0 : Int) (newH r)) (haL r (0 : Int) (newH r)) ==
  [])
                                    (.ret [C.bool true])
                                    (.ask (decide
  ((↑(headText (haV r (0 : Int) (newH r)) (haS r (0 : Int) (newH r)) (haB r (0 : Int) (newH r))
            (haL r (0 : Int) (newH r))).length :
      Int) =
    (24 : Int)))
                                     (.ret [C.bool true])
                                     (.ret [C.bool false])))
                                   (.ret [C.bool false]))))))))))))))))))
                  (.ret [C.bool false]))))
               (.must (decide ((drhT r).length ≤ (281474976710656 : Nat)))
                (.must (decide ((0 : Nat) < (1 : Nat)) && true &&
      (decide ((0 : Nat) < (1 : Nat)) && true &&
        (decide ((0 : Nat) < (1 : Nat)) && true && (decide ((0 : Nat) < (1 : Nat)) && true && true))) &&
    (decide ((0 : Nat) < (1 : Nat)) && true && true && true) &&
  true)
                 (.ask (readHeadOk (drhT r))
                  (.ret [C.bool false])
                  (.ask (!(decide (ifI (readHeadOk (drhT r)) (rhV (drhT r)) = ifI (readHeadOk (drhT r)) (rhV (drhT r))) &&
    (decide (ifI (readHeadOk (drhT r)) (rhS (drhT r)) = ifI (readHeadOk (drhT r)) (rhS (drhT r))) &&
      (decide (ifI (readHeadOk (drhT r)) (rhB (drhT r)) = ifI (readHeadOk (drhT r)) (rhB (drhT r))) &&
        (decide (ifI (readHeadOk (drhT r)) (rhL (drhT r)) = ifI (readHeadOk (drhT r)) (rhL (drhT r))) && true)))))
                   (.ret [C.bool false])
                   (.must (curOk r (0 : Int))
                    (.must (true &&
        (decide ((0 : Nat) + (1 : Nat) = (1 : Nat)) &&
          (decide ((0 : Nat) + (1 : Nat) = (1 : Nat)) &&
            (decide ((0 : Nat) + (1 : Nat) = (1 : Nat)) &&
              (decide ((0 : Nat) + (1 : Nat) = (1 : Nat)) &&
                (decide ((0 : Nat) + (1 : Nat) = (1 : Nat)) &&
                  (decide ((0 : Nat) + (1 : Nat) = (1 : Nat)) &&
                    (decide ((0 : Nat) + (1 : Nat) = (1 : Nat)) &&
                      (decide ((0 : Nat) + (1 : Nat) = (1 : Nat)) &&
                        (decide ((0 : Nat) + (1 : Nat) = (1 : Nat)) &&
                          (decide ((0 : Nat) + (1 : Nat) = (1 : Nat)) &&
                            (decide ((0 : Nat) + (1 : Nat) = (1 : Nat)) &&
                              (decide ((0 : Nat) + (1 : Nat) = (1 : Nat)) && true)))))))))))) &&
      true &&
    true &&
  true)
                     (.must (decide ((0 : Int) ≤ (0 : Int)) &&
  decide
    ((0 : Int) <
      (↑(((((((((((Nat.add (1 : Nat) (0 : Nat)).succ.add (0 : Nat)).succ.add (0 : Nat)).succ.add
                                                        (0 : Nat)).succ.add
                                                  (0 : Nat)).succ.add
                                            (0 : Nat)).succ.add
                                      (0 : Nat)).succ.add
                                (0 : Nat)).succ.add
                          (0 : Nat)).succ.add
                    (0 : Nat)).succ.add
              (0 : Nat)).succ :
        Int)))
                      (.must (decide
    ((0 : Nat) + Int.toNat (0 : Int) <
      (((((((((((Nat.add (1 : Nat) (0 : Nat)).succ.add (0 : Nat)).succ.add (0 : Nat)).succ.add
                                                    (0 : Nat)).succ.add
                                              (0 : Nat)).succ.add
                                        (0 : Nat)).succ.add
                                  (0 : Nat)).succ.add
                            (0 : Nat)).succ.add
                      (0 : Nat)).succ.add
                (0 : Nat)).succ.add
          (0 : Nat)).succ) &&
  (decide ((0 : Nat) < (0 : Nat) + (1 : Nat)) && true && true))
                       (.must (decide ((0 : Int) ≤ (1 : Int)) &&
  decide
    ((1 : Int) <
      (↑(((((((((((Nat.add (1 : Nat) (0 : Nat)).succ.add (0 : Nat)).succ.add (0 : Nat)).succ.add
                                                        (0 : Nat)).succ.add
                                                  (0 : Nat)).succ.add
                                            (0 : Nat)).succ.add
                                      (0 : Nat)).succ.add
                                (0 : Nat)).succ.add
                          (0 : Nat)).succ.add
                    (0 : Nat)).succ.add
              (0 : Nat)).succ :
        Int)))
                        (.must (decide
    ((0 : Nat) + Int.toNat (1 : Int) <
      (((((((((((Nat.add (1 : Nat) (0 : Nat)).succ.add (0 : Nat)).succ.add (0 : Nat)).succ.add
                                                    (0 : Nat)).succ.add
                                              (0 : Nat)).succ.add
                                        (0 : Nat)).succ.add
                                  (0 : Nat)).succ.add
                            (0 : Nat)).succ.add
                      (0 : Nat)).succ.add
                (0 : Nat)).succ.add
          (0 : Nat)).succ) &&
  (decide ((0 : Nat) < (0 : Nat) + (1 : Nat)) && true && true))
                         (.must (decide ((0 : Int) ≤ (2 : Int)) &&
  decide
    ((2 : Int) <
      (↑(((((((((((Nat.add (1 : Nat) (0 : Nat)).succ.add (0 : Nat)).succ.add (0 : Nat)).succ.add
                                                        (0 : Nat)).succ.add
                                                  (0 : Nat)).succ.add
                                            (0 : Nat)).succ.add
                                      (0 : Nat)).succ.add
                                (0 : Nat)).succ.add
                          (0 : Nat)).succ.add
                    (0 : Nat)).succ.add
              (0 : Nat)).succ :
        Int)))
                          (.must (decide
    ((0 : Nat) + Int.toNat (2 : Int) <
      (((((((((((Nat.add (1 : Nat) (0 : Nat)).succ.add (0 : Nat)).succ.add (0 : Nat)).succ.add
                                                    (0 : Nat)).succ.add
                                              (0 : Nat)).succ.add
                                        (0 : Nat)).succ.add
                                  (0 : Nat)).succ.add
                            (0 : Nat)).succ.add
                      (0 : Nat)).succ.add
                (0 : Nat)).succ.add
          (0 : Nat)).succ) &&
  (decide ((0 : Nat) < (0 : Nat) + (1 : Nat)) && true && true))
                           (.must (decide ((0 : Int) ≤ (3 : Int)) &&
  decide
    ((3 : Int) <
      (↑(((((((((((Nat.add (1 : Nat) (0 : Nat)).succ.add (0 : Nat)).succ.add (0 : Nat)).succ.add
                                                        (0 : Nat)).succ.add
                                                  (0 : Nat)).succ.add
                                            (0 : Nat)).succ.add
                                      (0 : Nat)).succ.add
                                (0 : Nat)).succ.add
                          (0 : Nat)).succ.add
                    (0 : Nat)).succ.add
              (0 : Nat)).succ :
        Int)))
                            (.must (decide
    ((0 : Nat) + Int.toNat (3 : Int) <
      (((((((((((Nat.add (1 : Nat) (0 : Nat)).succ.add (0 : Nat)).succ.add (0 : Nat)).succ.add
                                                    (0 : Nat)).succ.add
                                              (0 : Nat)).succ.add
                                        (0 : Nat)).succ.add
                                  (0 : Nat)).succ.add
                            (0 : Nat)).succ.add
                      (0 : Nat)).succ.add
                (0 : Nat)).succ.add
          (0 : Nat)).succ) &&
  (decide ((0 : Nat) < (0 : Nat) + (1 : Nat)) && true && true))
                             (.must (decide ((headText (2 : Int) (3 : Int) (7 : Int) (5 : Int)).length ≤ (1048576 : Nat)) &&
    decide
      ((-9223372036854775808 : Int) ≤
        (dpAt r (0 : Nat)).tmod
          (IntKind.i64.wrap ((8 : Int) * (↑(headText (2 : Int) (3 : Int) (7 : Int) (5 : Int)).length : Int)))) &&
  decide
    ((dpAt r (0 : Nat)).tmod
        (IntKind.i64.wrap ((8 : Int) * (↑(headText (2 : Int) (3 : Int) (7 : Int) (5 : Int)).length : Int))) ≤
      (9223372036854775807 : Int)))
                              (.must (decide ((0 : Nat) < (1 : Nat)) && true && true && true && true)
                               (.must (decide
  ((turnOf (headText (2 : Int) (3 : Int) (7 : Int) (5 : Int))
        ((dpAt r (0 : Nat)).tmod
          (IntKind.i64.wrap ((8 : Int) * (↑(headText (2 : Int) (3 : Int) (7 : Int) (5 : Int)).length : Int))))
        (IntKind.i64.wrap
          ((1 : Int) +
            IntKind.i64.wrap
              ((2 : Int) *
                IntKind.i64.wrap
                  (IntKind.i64.wrap
                      (IntKind.i64.wrap (IntKind.i64.wrap (dpAt r (1 : Nat) * (10000 : Int)) + dpAt r (2 : Nat)) *
                        (20 : Int)) +
                    (dpAt r (3 : Nat)).tmod (20 : Int)))))).length ≤
    (281474976710656 : Nat)))
                                (.must (decide ((0 : Nat) < (1 : Nat)) && true &&
      (decide ((0 : Nat) < (1 : Nat)) && true &&
        (decide ((0 : Nat) < (1 : Nat)) && true && (decide ((0 : Nat) < (1 : Nat)) && true && true))) &&
    (decide ((0 : Nat) < (1 : Nat)) && true && true && true) &&
  true)
                                 (.ask (readHeadOk
  (turnOf (headText (2 : Int) (3 : Int) (7 : Int) (5 : Int))
    ((dpAt r (0 : Nat)).tmod
      (IntKind.i64.wrap ((8 : Int) * (↑(headText (2 : Int) (3 : Int) (7 : Int) (5 : Int)).length : Int))))
    (IntKind.i64.wrap
      ((1 : Int) +
        IntKind.i64.wrap
          ((2 : Int) *
            IntKind.i64.wrap
              (IntKind.i64.wrap
                  (IntKind.i64.wrap (IntKind.i64.wrap (dpAt r (1 : Nat) * (10000 : Int)) + dpAt r (2 : Nat)) *
                    (20 : Int)) +
                (dpAt r (3 : Nat)).tmod (20 : Int)))))))
                                  (.ret [C.bool false])
                                  (.ask (decide
    (ifI
        (readHeadOk
          (turnOf (headText (2 : Int) (3 : Int) (7 : Int) (5 : Int))
            ((dpAt r (0 : Nat)).tmod
              (IntKind.i64.wrap ((8 : Int) * (↑(headText (2 : Int) (3 : Int) (7 : Int) (5 : Int)).length : Int))))
            (IntKind.i64.wrap
              ((1 : Int) +
                IntKind.i64.wrap
                  ((2 : Int) *
                    IntKind.i64.wrap
                      (IntKind.i64.wrap
                          (IntKind.i64.wrap
                              (IntKind.i64.wrap (dpAt r (1 : Nat) * (10000 : Int)) + dpAt r (2 : Nat)) *
                            (20 : Int)) +
                        (dpAt r (3 : Nat)).tmod (20 : Int)))))))
        (rhV
          (turnOf (headText (2 : Int) (3 : Int) (7 : Int) (5 : Int))
            ((dpAt r (0 : Nat)).tmod
              (IntKind.i64.wrap ((8 : Int) * (↑(headText (2 : Int) (3 : Int) (7 : Int) (5 : Int)).length : Int))))
            (IntKind.i64.wrap
              ((1 : Int) +
                IntKind.i64.wrap
                  ((2 : Int) *
                    IntKind.i64.wrap
                      (IntKind.i64.wrap
                          (IntKind.i64.wrap
                              (IntKind.i64.wrap (dpAt r (1 : Nat) * (10000 : Int)) + dpAt r (2 : Nat)) *
                            (20 : Int)) +
                        (dpAt r (3 : Nat)).tmod (20 : Int))))))) =
      (0 : Int)) &&
  (decide
      (ifI
          (readHeadOk
            (turnOf (headText (2 : Int) (3 : Int) (7 : Int) (5 : Int))
              ((dpAt r (0 : Nat)).tmod
                (IntKind.i64.wrap ((8 : Int) * (↑(headText (2 : Int) (3 : Int) (7 : Int) (5 : Int)).length : Int))))
              (IntKind.i64.wrap
                ((1 : Int) +
                  IntKind.i64.wrap
                    ((2 : Int) *
                      IntKind.i64.wrap
                        (IntKind.i64.wrap
                            (IntKind.i64.wrap
                                (IntKind.i64.wrap (dpAt r (1 : Nat) * (10000 : Int)) + dpAt r (2 : Nat)) *
                              (20 : Int)) +
                          (dpAt r (3 : Nat)).tmod (20 : Int)))))))
          (rhS
            (turnOf (headText (2 : Int) (3 : Int) (7 : Int) (5 : Int))
              ((dpAt r (0 : Nat)).tmod
                (IntKind.i64.wrap ((8 : Int) * (↑(headText (2 : Int) (3 : Int) (7 : Int) (5 : Int)).length : Int))))
              (IntKind.i64.wrap
                ((1 : Int) +
                  IntKind.i64.wrap
                    ((2 : Int) *
                      IntKind.i64.wrap
                        (IntKind.i64.wrap
                            (IntKind.i64.wrap
                                (IntKind.i64.wrap (dpAt r (1 : Nat) * (10000 : Int)) + dpAt r (2 : Nat)) *
                              (20 : Int)) +
                          (dpAt r (3 : Nat)).tmod (20 : Int))))))) =
        (0 : Int)) &&
    (decide
        (ifI
            (readHeadOk
              (turnOf (headText (2 : Int) (3 : Int) (7 : Int) (5 : Int))
                ((dpAt r (0 : Nat)).tmod
                  (IntKind.i64.wrap ((8 : Int) * (↑(headText (2 : Int) (3 : Int) (7 : Int) (5 : Int)).length : Int))))
                (IntKind.i64.wrap
                  ((1 : Int) +
                    IntKind.i64.wrap
                      ((2 : Int) *
                        IntKind.i64.wrap
                          (IntKind.i64.wrap
                              (IntKind.i64.wrap
                                  (IntKind.i64.wrap (dpAt r (1 : Nat) * (10000 : Int)) + dpAt r (2 : Nat)) *
                                (20 : Int)) +
                            (dpAt r (3 : Nat)).tmod (20 : Int)))))))
            (rhB
              (turnOf (headText (2 : Int) (3 : Int) (7 : Int) (5 : Int))
                ((dpAt r (0 : Nat)).tmod
                  (IntKind.i64.wrap ((8 : Int) * (↑(headText (2 : Int) (3 : Int) (7 : Int) (5 : Int)).length : Int))))
                (IntKind.i64.wrap
                  ((1 : Int) +
                    IntKind.i64.wrap
                      ((2 : Int) *
                        IntKind.i64.wrap
                          (IntKind.i64.wrap
                              (IntKind.i64.wrap
                                  (IntKind.i64.wrap (dpAt r (1 : Nat) * (10000 : Int)) + dpAt r (2 : Nat)) *
                                (20 : Int)) +
                            (dpAt r (3 : Nat)).tmod (20 : Int))))))) =
          (0 : Int)) &&
      (decide
          (ifI
              (readHeadOk
                (turnOf (headText (2 : Int) (3 : Int) (7 : Int) (5 : Int))
                  ((dpAt r (0 : Nat)).tmod
                    (IntKind.i64.wrap ((8 : Int) * (↑(headText (2 : Int) (3 : Int) (7 : Int) (5 : Int)).length : Int))))
                  (IntKind.i64.wrap
                    ((1 : Int) +
                      IntKind.i64.wrap
                        ((2 : Int) *
                          IntKind.i64.wrap
                            (IntKind.i64.wrap
                                (IntKind.i64.wrap
                                    (IntKind.i64.wrap (dpAt r (1 : Nat) * (10000 : Int)) + dpAt r (2 : Nat)) *
                                  (20 : Int)) +
                              (dpAt r (3 : Nat)).tmod (20 : Int)))))))
              (rhL
                (turnOf (headText (2 : Int) (3 : Int) (7 : Int) (5 : Int))
                  ((dpAt r (0 : Nat)).tmod
                    (IntKind.i64.wrap ((8 : Int) * (↑(headText (2 : Int) (3 : Int) (7 : Int) (5 : Int)).length : Int))))
                  (IntKind.i64.wrap
                    ((1 : Int) +
                      IntKind.i64.wrap
                        ((2 : Int) *
                          IntKind.i64.wrap
                            (IntKind.i64.wrap
                                (IntKind.i64.wrap
                                    (IntKind.i64.wrap (dpAt r (1 : Nat) * (10000 : Int)) + dpAt r (2 : Nat)) *
                                  (20 : Int)) +
                              (dpAt r (3 : Nat)).tmod (20 : Int))))))) =
            (0 : Int)) &&
        true))))
                                   (.ask (headText (haV r (0 : Int) (newH r)) (haS r (0 : Int) (newH r)) (haB r (0 : Int) (newH r)) (haL r (0 : Int) (newH r)) ==
  [])
                                    (.ret [C.bool true])
                                    (.ask (decide
  ((↑(headText (haV r (0 : Int) (newH r)) (haS r (0 : Int) (newH r)) (haB r (0 : Int) (newH r))
            (haL r (0 : Int) (newH r))).length :
      Int) =
    (24 : Int)))
                                     (.ret [C.bool true])
                                     (.ret [C.bool false])))
                                   (.ret [C.bool false]))))))))))))))))))))))))))
          (.ret [C.bool false])))
        (.must (decide ((0 : Nat) < (1 : Nat)) && true && true && true && true)
         (.ask (headOk (haV r (0 : Int) (newH r)) (haS r (0 : Int) (newH r)) (haB r (0 : Int) (newH r)) (haL r (0 : Int) (newH r)))
          (.ret [C.bool false])
          (.must (curOk r (0 : Int))
           (.must (decide ((0 : Nat) < (1 : Nat)) && true && true && true && true)
            (.must (decide ((drhT r).length ≤ (281474976710656 : Nat)))
             (.must (decide ((0 : Nat) < (1 : Nat)) && true &&
      (decide ((0 : Nat) < (1 : Nat)) && true &&
        (decide ((0 : Nat) < (1 : Nat)) && true && (decide ((0 : Nat) < (1 : Nat)) && true && true))) &&
    (decide ((0 : Nat) < (1 : Nat)) && true && true && true) &&
  true)
              (.ask (readHeadOk (drhT r))
               (.must (decide ((drhT r).length ≤ (281474976710656 : Nat)))
                (.must (decide ((0 : Nat) < (1 : Nat)) && true &&
      (decide ((0 : Nat) < (1 : Nat)) && true &&
        (decide ((0 : Nat) < (1 : Nat)) && true && (decide ((0 : Nat) < (1 : Nat)) && true && true))) &&
    (decide ((0 : Nat) < (1 : Nat)) && true && true && true) &&
  true)
                 (.ask (readHeadOk (drhT r))
                  (.ask (!(decide (ifI (readHeadOk (drhT r)) (rhV (drhT r)) = ifI (readHeadOk (drhT r)) (rhV (drhT r))) &&
    (decide (ifI (readHeadOk (drhT r)) (rhS (drhT r)) = ifI (readHeadOk (drhT r)) (rhS (drhT r))) &&
      (decide (ifI (readHeadOk (drhT r)) (rhB (drhT r)) = ifI (readHeadOk (drhT r)) (rhB (drhT r))) &&
        (decide (ifI (readHeadOk (drhT r)) (rhL (drhT r)) = ifI (readHeadOk (drhT r)) (rhL (drhT r))) && true)))))
                   (.ret [C.bool false])
                   (.must (curOk r (0 : Int))
                    (.must (true &&
        (decide ((0 : Nat) + (1 : Nat) = (1 : Nat)) &&
          (decide ((0 : Nat) + (1 : Nat) = (1 : Nat)) &&
            (decide ((0 : Nat) + (1 : Nat) = (1 : Nat)) &&
              (decide ((0 : Nat) + (1 : Nat) = (1 : Nat)) &&
                (decide ((0 : Nat) + (1 : Nat) = (1 : Nat)) &&
                  (decide ((0 : Nat) + (1 : Nat) = (1 : Nat)) &&
                    (decide ((0 : Nat) + (1 : Nat) = (1 : Nat)) &&
                      (decide ((0 : Nat) + (1 : Nat) = (1 : Nat)) &&
                        (decide ((0 : Nat) + (1 : Nat) = (1 : Nat)) &&
                          (decide ((0 : Nat) + (1 : Nat) = (1 : Nat)) &&
                            (decide ((0 : Nat) + (1 : Nat) = (1 : Nat)) &&
                              (decide ((0 : Nat) + (1 : Nat) = (1 : Nat)) && true)))))))))))) &&
      true &&
    true &&
  true)
                     (.must (decide ((0 : Int) ≤ (0 : Int)) &&
  decide
    ((0 : Int) <
      (↑(((((((((((Nat.add (1 : Nat) (0 : Nat)).succ.add (0 : Nat)).succ.add (0 : Nat)).succ.add
                                                        (0 : Nat)).succ.add
                                                  (0 : Nat)).succ.add
                                            (0 : Nat)).succ.add
                                      (0 : Nat)).succ.add
                                (0 : Nat)).succ.add
                          (0 : Nat)).succ.add
                    (0 : Nat)).succ.add
              (0 : Nat)).succ :
        Int)))
                      (.must (decide
    ((0 : Nat) + Int.toNat (0 : Int) <
      (((((((((((Nat.add (1 : Nat) (0 : Nat)).succ.add (0 : Nat)).succ.add (0 : Nat)).succ.add
                                                    (0 : Nat)).succ.add
                                              (0 : Nat)).succ.add
                                        (0 : Nat)).succ.add
                                  (0 : Nat)).succ.add
                            (0 : Nat)).succ.add
                      (0 : Nat)).succ.add
                (0 : Nat)).succ.add
          (0 : Nat)).succ) &&
  (decide ((0 : Nat) < (0 : Nat) + (1 : Nat)) && true && true))
                       (.must (decide ((0 : Int) ≤ (1 : Int)) &&
  decide
    ((1 : Int) <
      (↑(((((((((((Nat.add (1 : Nat) (0 : Nat)).succ.add (0 : Nat)).succ.add (0 : Nat)).succ.add
                                                        (0 : Nat)).succ.add
                                                  (0 : Nat)).succ.add
                                            (0 : Nat)).succ.add
                                      (0 : Nat)).succ.add
                                (0 : Nat)).succ.add
                          (0 : Nat)).succ.add
                    (0 : Nat)).succ.add
              (0 : Nat)).succ :
        Int)))
                        (.must (decide
    ((0 : Nat) + Int.toNat (1 : Int) <
      (((((((((((Nat.add (1 : Nat) (0 : Nat)).succ.add (0 : Nat)).succ.add (0 : Nat)).succ.add
                                                    (0 : Nat)).succ.add
                                              (0 : Nat)).succ.add
                                        (0 : Nat)).succ.add
                                  (0 : Nat)).succ.add
                            (0 : Nat)).succ.add
                      (0 : Nat)).succ.add
                (0 : Nat)).succ.add
          (0 : Nat)).succ) &&
  (decide ((0 : Nat) < (0 : Nat) + (1 : Nat)) && true && true))
                         (.must (decide ((0 : Int) ≤ (2 : Int)) &&
  decide
    ((2 : Int) <
      (↑(((((((((((Nat.add (1 : Nat) (0 : Nat)).succ.add (0 : Nat)).succ.add (0 : Nat)).succ.add
                                                        (0 : Nat)).succ.add
                                                  (0 : Nat)).succ.add
                                            (0 : Nat)).succ.add
                                      (0 : Nat)).succ.add
                                (0 : Nat)).succ.add
                          (0 : Nat)).succ.add
                    (0 : Nat)).succ.add
              (0 : Nat)).succ :
        Int)))
                          (.must (decide
    ((0 : Nat) + Int.toNat (2 : Int) <
      (((((((((((Nat.add (1 : Nat) (0 : Nat)).succ.add (0 : Nat)).succ.add (0 : Nat)).succ.add
                                                    (0 : Nat)).succ.add
                                              (0 : Nat)).succ.add
                                        (0 : Nat)).succ.add
                                  (0 : Nat)).succ.add
                            (0 : Nat)).succ.add
                      (0 : Nat)).succ.add
                (0 : Nat)).succ.add
          (0 : Nat)).succ) &&
  (decide ((0 : Nat) < (0 : Nat) + (1 : Nat)) && true && true))
                           (.must (decide ((0 : Int) ≤ (3 : Int)) &&
  decide
    ((3 : Int) <
      (↑(((((((((((Nat.add (1 : Nat) (0 : Nat)).succ.add (0 : Nat)).succ.add (0 : Nat)).succ.add
                                                        (0 : Nat)).succ.add
                                                  (0 : Nat)).succ.add
                                            (0 : Nat)).succ.add
                                      (0 : Nat)).succ.add
                                (0 : Nat)).succ.add
                          (0 : Nat)).succ.add
                    (0 : Nat)).succ.add
              (0 : Nat)).succ :
        Int)))
                            (.must (decide
    ((0 : Nat) + Int.toNat (3 : Int) <
      (((((((((((Nat.add (1 : Nat) (0 : Nat)).succ.add (0 : Nat)).succ.add (0 : Nat)).succ.add
                                                    (0 : Nat)).succ.add
                                              (0 : Nat)).succ.add
                                        (0 : Nat)).succ.add
                                  (0 : Nat)).succ.add
                            (0 : Nat)).succ.add
                      (0 : Nat)).succ.add
                (0 : Nat)).succ.add
          (0 : Nat)).succ) &&
  (decide ((0 : Nat) < (0 : Nat) + (1 : Nat)) && true && true))
                             (.must (decide ((headText (2 : Int) (3 : Int) (7 : Int) (5 : Int)).length ≤ (1048576 : Nat)) &&
    decide
      ((-9223372036854775808 : Int) ≤
        (dpAt r (0 : Nat)).tmod
          (IntKind.i64.wrap ((8 : Int) * (↑(headText (2 : Int) (3 : Int) (7 : Int) (5 : Int)).length : Int)))) &&
  decide
    ((dpAt r (0 : Nat)).tmod
        (IntKind.i64.wrap ((8 : Int) * (↑(headText (2 : Int) (3 : Int) (7 : Int) (5 : Int)).length : Int))) ≤
      (9223372036854775807 : Int)))
                              (.must (decide ((0 : Nat) < (1 : Nat)) && true && true && true && true)
                               (.must (decide
  ((turnOf (headText (2 : Int) (3 : Int) (7 : Int) (5 : Int))
        ((dpAt r (0 : Nat)).tmod
          (IntKind.i64.wrap ((8 : Int) * (↑(headText (2 : Int) (3 : Int) (7 : Int) (5 : Int)).length : Int))))
        (IntKind.i64.wrap
          ((1 : Int) +
            IntKind.i64.wrap
              ((2 : Int) *
                IntKind.i64.wrap
                  (IntKind.i64.wrap
                      (IntKind.i64.wrap (IntKind.i64.wrap (dpAt r (1 : Nat) * (10000 : Int)) + dpAt r (2 : Nat)) *
                        (20 : Int)) +
                    (dpAt r (3 : Nat)).tmod (20 : Int)))))).length ≤
    (281474976710656 : Nat)))
                                (.must (decide ((0 : Nat) < (1 : Nat)) && true &&
      (decide ((0 : Nat) < (1 : Nat)) && true &&
        (decide ((0 : Nat) < (1 : Nat)) && true && (decide ((0 : Nat) < (1 : Nat)) && true && true))) &&
    (decide ((0 : Nat) < (1 : Nat)) && true && true && true) &&
  true)
                                 (.ask (readHeadOk
  (turnOf (headText (2 : Int) (3 : Int) (7 : Int) (5 : Int))
    ((dpAt r (0 : Nat)).tmod
      (IntKind.i64.wrap ((8 : Int) * (↑(headText (2 : Int) (3 : Int) (7 : Int) (5 : Int)).length : Int))))
    (IntKind.i64.wrap
      ((1 : Int) +
        IntKind.i64.wrap
          ((2 : Int) *
            IntKind.i64.wrap
              (IntKind.i64.wrap
                  (IntKind.i64.wrap (IntKind.i64.wrap (dpAt r (1 : Nat) * (10000 : Int)) + dpAt r (2 : Nat)) *
                    (20 : Int)) +
                (dpAt r (3 : Nat)).tmod (20 : Int)))))))
                                  (.ret [C.bool false])
                                  (.ask (decide
    (ifI
        (readHeadOk
          (turnOf (headText (2 : Int) (3 : Int) (7 : Int) (5 : Int))
            ((dpAt r (0 : Nat)).tmod
              (IntKind.i64.wrap ((8 : Int) * (↑(headText (2 : Int) (3 : Int) (7 : Int) (5 : Int)).length : Int))))
            (IntKind.i64.wrap
              ((1 : Int) +
                IntKind.i64.wrap
                  ((2 : Int) *
                    IntKind.i64.wrap
                      (IntKind.i64.wrap
                          (IntKind.i64.wrap
                              (IntKind.i64.wrap (dpAt r (1 : Nat) * (10000 : Int)) + dpAt r (2 : Nat)) *
                            (20 : Int)) +
                        (dpAt r (3 : Nat)).tmod (20 : Int)))))))
        (rhV
          (turnOf (headText (2 : Int) (3 : Int) (7 : Int) (5 : Int))
            ((dpAt r (0 : Nat)).tmod
              (IntKind.i64.wrap ((8 : Int) * (↑(headText (2 : Int) (3 : Int) (7 : Int) (5 : Int)).length : Int))))
            (IntKind.i64.wrap
              ((1 : Int) +
                IntKind.i64.wrap
                  ((2 : Int) *
                    IntKind.i64.wrap
                      (IntKind.i64.wrap
                          (IntKind.i64.wrap
                              (IntKind.i64.wrap (dpAt r (1 : Nat) * (10000 : Int)) + dpAt r (2 : Nat)) *
                            (20 : Int)) +
                        (dpAt r (3 : Nat)).tmod (20 : Int))))))) =
      (0 : Int)) &&
  (decide
      (ifI
          (readHeadOk
            (turnOf (headText (2 : Int) (3 : Int) (7 : Int) (5 : Int))
              ((dpAt r (0 : Nat)).tmod
                (IntKind.i64.wrap ((8 : Int) * (↑(headText (2 : Int) (3 : Int) (7 : Int) (5 : Int)).length : Int))))
              (IntKind.i64.wrap
                ((1 : Int) +
                  IntKind.i64.wrap
                    ((2 : Int) *
                      IntKind.i64.wrap
                        (IntKind.i64.wrap
                            (IntKind.i64.wrap
                                (IntKind.i64.wrap (dpAt r (1 : Nat) * (10000 : Int)) + dpAt r (2 : Nat)) *
                              (20 : Int)) +
                          (dpAt r (3 : Nat)).tmod (20 : Int)))))))
          (rhS
            (turnOf (headText (2 : Int) (3 : Int) (7 : Int) (5 : Int))
              ((dpAt r (0 : Nat)).tmod
                (IntKind.i64.wrap ((8 : Int) * (↑(headText (2 : Int) (3 : Int) (7 : Int) (5 : Int)).length : Int))))
              (IntKind.i64.wrap
                ((1 : Int) +
                  IntKind.i64.wrap
                    ((2 : Int) *
                      IntKind.i64.wrap
                        (IntKind.i64.wrap
                            (IntKind.i64.wrap
                                (IntKind.i64.wrap (dpAt r (1 : Nat) * (10000 : Int)) + dpAt r (2 : Nat)) *
                              (20 : Int)) +
                          (dpAt r (3 : Nat)).tmod (20 : Int))))))) =
        (0 : Int)) &&
    (decide
        (ifI
            (readHeadOk
              (turnOf (headText (2 : Int) (3 : Int) (7 : Int) (5 : Int))
                ((dpAt r (0 : Nat)).tmod
                  (IntKind.i64.wrap ((8 : Int) * (↑(headText (2 : Int) (3 : Int) (7 : Int) (5 : Int)).length : Int))))
                (IntKind.i64.wrap
                  ((1 : Int) +
                    IntKind.i64.wrap
                      ((2 : Int) *
                        IntKind.i64.wrap
                          (IntKind.i64.wrap
                              (IntKind.i64.wrap
                                  (IntKind.i64.wrap (dpAt r (1 : Nat) * (10000 : Int)) + dpAt r (2 : Nat)) *
                                (20 : Int)) +
                            (dpAt r (3 : Nat)).tmod (20 : Int)))))))
            (rhB
              (turnOf (headText (2 : Int) (3 : Int) (7 : Int) (5 : Int))
                ((dpAt r (0 : Nat)).tmod
                  (IntKind.i64.wrap ((8 : Int) * (↑(headText (2 : Int) (3 : Int) (7 : Int) (5 : Int)).length : Int))))
                (IntKind.i64.wrap
                  ((1 : Int) +
                    IntKind.i64.wrap
                      ((2 : Int) *
                        IntKind.i64.wrap
                          (IntKind.i64.wrap
                              (IntKind.i64.wrap
                                  (IntKind.i64.wrap (dpAt r (1 : Nat) * (10000 : Int)) + dpAt r (2 : Nat)) *
                                (20 : Int)) +
                            (dpAt r (3 : Nat)).tmod (20 : Int))))))) =
          (0 : Int)) &&
      (decide
          (ifI
              (readHeadOk
                (turnOf (headText (2 : Int) (3 : Int) (7 : Int) (5 : Int))
                  ((dpAt r (0 : Nat)).tmod
                    (IntKind.i64.wrap ((8 : Int) * (↑(headText (2 : Int) (3 : Int) (7 : Int) (5 : Int)).length : Int))))
                  (IntKind.i64.wrap
                    ((1 : Int) +
                      IntKind.i64.wrap
                        ((2 : Int) *
                          IntKind.i64.wrap
                            (IntKind.i64.wrap
                                (IntKind.i64.wrap
                                    (IntKind.i64.wrap (dpAt r (1 : Nat) * (10000 : Int)) + dpAt r (2 : Nat)) *
                                  (20 : Int)) +
                              (dpAt r (3 : Nat)).tmod (20 : Int)))))))
              (rhL
                (turnOf (headText (2 : Int) (3 : Int) (7 : Int) (5 : Int))
                  ((dpAt r (0 : Nat)).tmod
                    (IntKind.i64.wrap ((8 : Int) * (↑(headText (2 : Int) (3 : Int) (7 : Int) (5 : Int)).length : Int))))
                  (IntKind.i64.wrap
                    ((1 : Int) +
                      IntKind.i64.wrap
                        ((2 : Int) *
                          IntKind.i64.wrap
                            (IntKind.i64.wrap
                                (IntKind.i64.wrap
                                    (IntKind.i64.wrap (dpAt r (1 : Nat) * (10000 : Int)) + dpAt r (2 : Nat)) *
                                  (20 : Int)) +
                              (dpAt r (3 : Nat)).tmod (20 : Int))))))) =
            (0 : Int)) &&
        true))))
                                   (.ask (headText (haV r (0 : Int) (newH r)) (haS r (0 : Int) (newH r)) (haB r (0 : Int) (newH r)) (haL r (0 : Int) (newH r)) ==
  [])
                                    (.ret [C.bool true])
                                    (.ask (decide
  ((↑(headText (haV r (0 : Int) (newH r)) (haS r (0 : Int) (newH r)) (haB r (0 : Int) (newH r))
            (haL r (0 : Int) (newH r))).length :
      Int) =
    (24 : Int)))
                                     (.ret [C.bool true])
                                     (.ret [C.bool false])))
                                   (.ret [C.bool false]))))))))))))))))))
                  (.ret [C.bool false]))))
               (.must (decide ((drhT r).length ≤ (281474976710656 : Nat)))
                (.must (decide ((0 : Nat) < (1 : Nat)) && true &&
      (decide ((0 : Nat) < (1 : Nat)) && true &&
        (decide ((0 : Nat) < (1 : Nat)) && true && (decide ((0 : Nat) < (1 : Nat)) && true && true))) &&
    (decide ((0 : Nat) < (1 : Nat)) && true && true && true) &&
  true)
                 (.ask (readHeadOk (drhT r))
                  (.ret [C.bool false])
                  (.ask (!(decide (ifI (readHeadOk (drhT r)) (rhV (drhT r)) = ifI (readHeadOk (drhT r)) (rhV (drhT r))) &&
    (decide (ifI (readHeadOk (drhT r)) (rhS (drhT r)) = ifI (readHeadOk (drhT r)) (rhS (drhT r))) &&
      (decide (ifI (readHeadOk (drhT r)) (rhB (drhT r)) = ifI (readHeadOk (drhT r)) (rhB (drhT r))) &&
        (decide (ifI (readHeadOk (drhT r)) (rhL (drhT r)) = ifI (readHeadOk (drhT r)) (rhL (drhT r))) && true)))))
                   (.ret [C.bool false])
                   (.must (curOk r (0 : Int))
                    (.must (true &&
        (decide ((0 : Nat) + (1 : Nat) = (1 : Nat)) &&
          (decide ((0 : Nat) + (1 : Nat) = (1 : Nat)) &&
            (decide ((0 : Nat) + (1 : Nat) = (1 : Nat)) &&
              (decide ((0 : Nat) + (1 : Nat) = (1 : Nat)) &&
                (decide ((0 : Nat) + (1 : Nat) = (1 : Nat)) &&
                  (decide ((0 : Nat) + (1 : Nat) = (1 : Nat)) &&
                    (decide ((0 : Nat) + (1 : Nat) = (1 : Nat)) &&
                      (decide ((0 : Nat) + (1 : Nat) = (1 : Nat)) &&
                        (decide ((0 : Nat) + (1 : Nat) = (1 : Nat)) &&
                          (decide ((0 : Nat) + (1 : Nat) = (1 : Nat)) &&
                            (decide ((0 : Nat) + (1 : Nat) = (1 : Nat)) &&
                              (decide ((0 : Nat) + (1 : Nat) = (1 : Nat)) && true)))))))))))) &&
      true &&
    true &&
  true)
                     (.must (decide ((0 : Int) ≤ (0 : Int)) &&
  decide
    ((0 : Int) <
      (↑(((((((((((Nat.add (1 : Nat) (0 : Nat)).succ.add (0 : Nat)).succ.add (0 : Nat)).succ.add
                                                        (0 : Nat)).succ.add
                                                  (0 : Nat)).succ.add
                                            (0 : Nat)).succ.add
                                      (0 : Nat)).succ.add
                                (0 : Nat)).succ.add
                          (0 : Nat)).succ.add
                    (0 : Nat)).succ.add
              (0 : Nat)).succ :
        Int)))
                      (.must (decide
    ((0 : Nat) + Int.toNat (0 : Int) <
      (((((((((((Nat.add (1 : Nat) (0 : Nat)).succ.add (0 : Nat)).succ.add (0 : Nat)).succ.add
                                                    (0 : Nat)).succ.add
                                              (0 : Nat)).succ.add
                                        (0 : Nat)).succ.add
                                  (0 : Nat)).succ.add
                            (0 : Nat)).succ.add
                      (0 : Nat)).succ.add
                (0 : Nat)).succ.add
          (0 : Nat)).succ) &&
  (decide ((0 : Nat) < (0 : Nat) + (1 : Nat)) && true && true))
                       (.must (decide ((0 : Int) ≤ (1 : Int)) &&
  decide
    ((1 : Int) <
      (↑(((((((((((Nat.add (1 : Nat) (0 : Nat)).succ.add (0 : Nat)).succ.add (0 : Nat)).succ.add
                                                        (0 : Nat)).succ.add
                                                  (0 : Nat)).succ.add
                                            (0 : Nat)).succ.add
                                      (0 : Nat)).succ.add
                                (0 : Nat)).succ.add
                          (0 : Nat)).succ.add
                    (0 : Nat)).succ.add
              (0 : Nat)).succ :
        Int)))
                        (.must (decide
    ((0 : Nat) + Int.toNat (1 : Int) <
      (((((((((((Nat.add (1 : Nat) (0 : Nat)).succ.add (0 : Nat)).succ.add (0 : Nat)).succ.add
                                                    (0 : Nat)).succ.add
                                              (0 : Nat)).succ.add
                                        (0 : Nat)).succ.add
                                  (0 : Nat)).succ.add
                            (0 : Nat)).succ.add
                      (0 : Nat)).succ.add
                (0 : Nat)).succ.add
          (0 : Nat)).succ) &&
  (decide ((0 : Nat) < (0 : Nat) + (1 : Nat)) && true && true))
                         (.must (decide ((0 : Int) ≤ (2 : Int)) &&
  decide
    ((2 : Int) <
      (↑(((((((((((Nat.add (1 : Nat) (0 : Nat)).succ.add (0 : Nat)).succ.add (0 : Nat)).succ.add
                                                        (0 : Nat)).succ.add
                                                  (0 : Nat)).succ.add
                                            (0 : Nat)).succ.add
                                      (0 : Nat)).succ.add
                                (0 : Nat)).succ.add
                          (0 : Nat)).succ.add
                    (0 : Nat)).succ.add
              (0 : Nat)).succ :
        Int)))
                          (.must (decide
    ((0 : Nat) + Int.toNat (2 : Int) <
      (((((((((((Nat.add (1 : Nat) (0 : Nat)).succ.add (0 : Nat)).succ.add (0 : Nat)).succ.add
                                                    (0 : Nat)).succ.add
                                              (0 : Nat)).succ.add
                                        (0 : Nat)).succ.add
                                  (0 : Nat)).succ.add
                            (0 : Nat)).succ.add
                      (0 : Nat)).succ.add
                (0 : Nat)).succ.add
          (0 : Nat)).succ) &&
  (decide ((0 : Nat) < (0 : Nat) + (1 : Nat)) && true && true))
                           (.must (decide ((0 : Int) ≤ (3 : Int)) &&
  decide
    ((3 : Int) <
      (↑(((((((((((Nat.add (1 : Nat) (0 : Nat)).succ.add (0 : Nat)).succ.add (0 : Nat)).succ.add
                                                        (0 : Nat)).succ.add
                                                  (0 : Nat)).succ.add
                                            (0 : Nat)).succ.add
                                      (0 : Nat)).succ.add
                                (0 : Nat)).succ.add
                          (0 : Nat)).succ.add
                    (0 : Nat)).succ.add
              (0 : Nat)).succ :
        Int)))
                            (.must (decide
    ((0 : Nat) + Int.toNat (3 : Int) <
      (((((((((((Nat.add (1 : Nat) (0 : Nat)).succ.add (0 : Nat)).succ.add (0 : Nat)).succ.add
                                                    (0 : Nat)).succ.add
                                              (0 : Nat)).succ.add
                                        (0 : Nat)).succ.add
                                  (0 : Nat)).succ.add
                            (0 : Nat)).succ.add
                      (0 : Nat)).succ.add
                (0 : Nat)).succ.add
          (0 : Nat)).succ) &&
  (decide ((0 : Nat) < (0 : Nat) + (1 : Nat)) && true && true))
                             (.must (decide ((headText (2 : Int) (3 : Int) (7 : Int) (5 : Int)).length ≤ (1048576 : Nat)) &&
    decide
      ((-9223372036854775808 : Int) ≤
        (dpAt r (0 : Nat)).tmod
          (IntKind.i64.wrap ((8 : Int) * (↑(headText (2 : Int) (3 : Int) (7 : Int) (5 : Int)).length : Int)))) &&
  decide
    ((dpAt r (0 : Nat)).tmod
        (IntKind.i64.wrap ((8 : Int) * (↑(headText (2 : Int) (3 : Int) (7 : Int) (5 : Int)).length : Int))) ≤
      (9223372036854775807 : Int)))
                              (.must (decide ((0 : Nat) < (1 : Nat)) && true && true && true && true)
                               (.must (decide
  ((turnOf (headText (2 : Int) (3 : Int) (7 : Int) (5 : Int))
        ((dpAt r (0 : Nat)).tmod
          (IntKind.i64.wrap ((8 : Int) * (↑(headText (2 : Int) (3 : Int) (7 : Int) (5 : Int)).length : Int))))
        (IntKind.i64.wrap
          ((1 : Int) +
            IntKind.i64.wrap
              ((2 : Int) *
                IntKind.i64.wrap
                  (IntKind.i64.wrap
                      (IntKind.i64.wrap (IntKind.i64.wrap (dpAt r (1 : Nat) * (10000 : Int)) + dpAt r (2 : Nat)) *
                        (20 : Int)) +
                    (dpAt r (3 : Nat)).tmod (20 : Int)))))).length ≤
    (281474976710656 : Nat)))
                                (.must (decide ((0 : Nat) < (1 : Nat)) && true &&
      (decide ((0 : Nat) < (1 : Nat)) && true &&
        (decide ((0 : Nat) < (1 : Nat)) && true && (decide ((0 : Nat) < (1 : Nat)) && true && true))) &&
    (decide ((0 : Nat) < (1 : Nat)) && true && true && true) &&
  true)
                                 (.ask (readHeadOk
  (turnOf (headText (2 : Int) (3 : Int) (7 : Int) (5 : Int))
    ((dpAt r (0 : Nat)).tmod
      (IntKind.i64.wrap ((8 : Int) * (↑(headText (2 : Int) (3 : Int) (7 : Int) (5 : Int)).length : Int))))
    (IntKind.i64.wrap
      ((1 : Int) +
        IntKind.i64.wrap
          ((2 : Int) *
            IntKind.i64.wrap
              (IntKind.i64.wrap
                  (IntKind.i64.wrap (IntKind.i64.wrap (dpAt r (1 : Nat) * (10000 : Int)) + dpAt r (2 : Nat)) *
                    (20 : Int)) +
                (dpAt r (3 : Nat)).tmod (20 : Int)))))))
                                  (.ret [C.bool false])
                                  (.ask (decide
    (ifI
        (readHeadOk
          (turnOf (headText (2 : Int) (3 : Int) (7 : Int) (5 : Int))
            ((dpAt r (0 : Nat)).tmod
              (IntKind.i64.wrap ((8 : Int) * (↑(headText (2 : Int) (3 : Int) (7 : Int) (5 : Int)).length : Int))))
            (IntKind.i64.wrap
              ((1 : Int) +
                IntKind.i64.wrap
                  ((2 : Int) *
                    IntKind.i64.wrap
                      (IntKind.i64.wrap
                          (IntKind.i64.wrap
                              (IntKind.i64.wrap (dpAt r (1 : Nat) * (10000 : Int)) + dpAt r (2 : Nat)) *
                            (20 : Int)) +
                        (dpAt r (3 : Nat)).tmod (20 : Int)))))))
        (rhV
          (turnOf (headText (2 : Int) (3 : Int) (7 : Int) (5 : Int))
            ((dpAt r (0 : Nat)).tmod
              (IntKind.i64.wrap ((8 : Int) * (↑(headText (2 : Int) (3 : Int) (7 : Int) (5 : Int)).length : Int))))
            (IntKind.i64.wrap
              ((1 : Int) +
                IntKind.i64.wrap
                  ((2 : Int) *
                    IntKind.i64.wrap
                      (IntKind.i64.wrap
                          (IntKind.i64.wrap
                              (IntKind.i64.wrap (dpAt r (1 : Nat) * (10000 : Int)) + dpAt r (2 : Nat)) *
                            (20 : Int)) +
                        (dpAt r (3 : Nat)).tmod (20 : Int))))))) =
      (0 : Int)) &&
  (decide
      (ifI
          (readHeadOk
            (turnOf (headText (2 : Int) (3 : Int) (7 : Int) (5 : Int))
              ((dpAt r (0 : Nat)).tmod
                (IntKind.i64.wrap ((8 : Int) * (↑(headText (2 : Int) (3 : Int) (7 : Int) (5 : Int)).length : Int))))
              (IntKind.i64.wrap
                ((1 : Int) +
                  IntKind.i64.wrap
                    ((2 : Int) *
                      IntKind.i64.wrap
                        (IntKind.i64.wrap
                            (IntKind.i64.wrap
                                (IntKind.i64.wrap (dpAt r (1 : Nat) * (10000 : Int)) + dpAt r (2 : Nat)) *
                              (20 : Int)) +
                          (dpAt r (3 : Nat)).tmod (20 : Int)))))))
          (rhS
            (turnOf (headText (2 : Int) (3 : Int) (7 : Int) (5 : Int))
              ((dpAt r (0 : Nat)).tmod
                (IntKind.i64.wrap ((8 : Int) * (↑(headText (2 : Int) (3 : Int) (7 : Int) (5 : Int)).length : Int))))
              (IntKind.i64.wrap
                ((1 : Int) +
                  IntKind.i64.wrap
                    ((2 : Int) *
                      IntKind.i64.wrap
                        (IntKind.i64.wrap
                            (IntKind.i64.wrap
                                (IntKind.i64.wrap (dpAt r (1 : Nat) * (10000 : Int)) + dpAt r (2 : Nat)) *
                              (20 : Int)) +
                          (dpAt r (3 : Nat)).tmod (20 : Int))))))) =
        (0 : Int)) &&
    (decide
        (ifI
            (readHeadOk
              (turnOf (headText (2 : Int) (3 : Int) (7 : Int) (5 : Int))
                ((dpAt r (0 : Nat)).tmod
                  (IntKind.i64.wrap ((8 : Int) * (↑(headText (2 : Int) (3 : Int) (7 : Int) (5 : Int)).length : Int))))
                (IntKind.i64.wrap
                  ((1 : Int) +
                    IntKind.i64.wrap
                      ((2 : Int) *
                        IntKind.i64.wrap
                          (IntKind.i64.wrap
                              (IntKind.i64.wrap
                                  (IntKind.i64.wrap (dpAt r (1 : Nat) * (10000 : Int)) + dpAt r (2 : Nat)) *
                                (20 : Int)) +
                            (dpAt r (3 : Nat)).tmod (20 : Int)))))))
            (rhB
              (turnOf (headText (2 : Int) (3 : Int) (7 : Int) (5 : Int))
                ((dpAt r (0 : Nat)).tmod
                  (IntKind.i64.wrap ((8 : Int) * (↑(headText (2 : Int) (3 : Int) (7 : Int) (5 : Int)).length : Int))))
                (IntKind.i64.wrap
                  ((1 : Int) +
                    IntKind.i64.wrap
                      ((2 : Int) *
                        IntKind.i64.wrap
                          (IntKind.i64.wrap
                              (IntKind.i64.wrap
                                  (IntKind.i64.wrap (dpAt r (1 : Nat) * (10000 : Int)) + dpAt r (2 : Nat)) *
                                (20 : Int)) +
                            (dpAt r (3 : Nat)).tmod (20 : Int))))))) =
          (0 : Int)) &&
      (decide
          (ifI
              (readHeadOk
                (turnOf (headText (2 : Int) (3 : Int) (7 : Int) (5 : Int))
                  ((dpAt r (0 : Nat)).tmod
                    (IntKind.i64.wrap ((8 : Int) * (↑(headText (2 : Int) (3 : Int) (7 : Int) (5 : Int)).length : Int))))
                  (IntKind.i64.wrap
                    ((1 : Int) +
                      IntKind.i64.wrap
                        ((2 : Int) *
                          IntKind.i64.wrap
                            (IntKind.i64.wrap
                                (IntKind.i64.wrap
                                    (IntKind.i64.wrap (dpAt r (1 : Nat) * (10000 : Int)) + dpAt r (2 : Nat)) *
                                  (20 : Int)) +
                              (dpAt r (3 : Nat)).tmod (20 : Int)))))))
              (rhL
                (turnOf (headText (2 : Int) (3 : Int) (7 : Int) (5 : Int))
                  ((dpAt r (0 : Nat)).tmod
                    (IntKind.i64.wrap ((8 : Int) * (↑(headText (2 : Int) (3 : Int) (7 : Int) (5 : Int)).length : Int))))
                  (IntKind.i64.wrap
                    ((1 : Int) +
                      IntKind.i64.wrap
                        ((2 : Int) *
                          IntKind.i64.wrap
                            (IntKind.i64.wrap
                                (IntKind.i64.wrap
                                    (IntKind.i64.wrap (dpAt r (1 : Nat) * (10000 : Int)) + dpAt r (2 : Nat)) *
                                  (20 : Int)) +
                              (dpAt r (3 : Nat)).tmod (20 : Int))))))) =
            (0 : Int)) &&
        true))))
                                   (.ask (headText (haV r (0 : Int) (newH r)) (haS r (0 : Int) (newH r)) (haB r (0 : Int) (newH r)) (haL r (0 : Int) (newH r)) ==
  [])
                                    (.ret [C.bool true])
                                    (.ask (decide
  ((↑(headText (haV r (0 : Int) (newH r)) (haS r (0 : Int) (newH r)) (haB r (0 : Int) (newH r))
            (haL r (0 : Int) (newH r))).length :
      Int) =
    (24 : Int)))
                                     (.ret [C.bool true])
                                     (.ret [C.bool false])))
                                   (.ret [C.bool false])))))))))))))))))))))))))))))))))))) : T (List C)).eval := evalEq (by kernel_rfl)
end Go.Proofs.Ythpcgbnochcbcaa.V

namespace Go.Proofs.Ythpcgbnochcbcaa.V

theorem good_len : (headText 2 3 7 5).length = 24 := by decide +kernel
theorem good_ok : readHeadOk (headText 2 3 7 5) = true := by decide +kernel
theorem head_code (b : List UInt8) (h : readHeadOk b = true) (hl : b.length = 24) : crcFold 4294967295 b = crcIter 32 4294967295 := by
  unfold readHeadOk at h
  simp only [Bool.and_eq_true, decide_eq_true_eq] at h
  obtain ⟨⟨h1, h2⟩, h3⟩ := h
  rw [List.take_of_length_le (by omega)] at h3
  unfold headText at h3
  split at h3
  · rw [← h3]; exact crc_code _
  · rw [← h3] at hl; simp at hl
theorem head_turn (a m : Int) (ha : 0 ≤ a) (ha2 : a < 192) (hm : m % 2 = 1) : readHeadOk (turnOf (headText 2 3 7 5) a m) = false := by
  cases hr : readHeadOk (turnOf (headText 2 3 7 5) a m) with
  | false => rfl
  | true =>
    have c1 := head_code _ hr (by rw [turnOf_len]; exact good_len)
    have c2 := head_code _ good_ok good_len
    have h0 : ishr .i64 m 0 = m := by
      show m.fdiv (2 ^ (min (Int.toNat 0) 64)) = m
      simp
    exact absurd (c1.trans c2.symm) (crc_turn_ne _ a m _ ⟨by rw [h0, iand_one]; exact hm, ha, by rw [good_len]; omega⟩)
theorem headText_24 (v s b l : Int) : headText v s b l = [] ∨ (headText v s b l).length = 24 := by
  unfold headText
  split
  · rename_i h
    obtain ⟨hv, hs, hb, hl⟩ := (headOk_iff v s b l).1 h
    right
    have f : ∀ (n : Int) (w : Nat), 0 ≤ n → 1 ≤ w → w ≤ 8 → n.toNat < 256 ^ w → (fixOf n w).length = w := fun n w h1 h2 h3 h4 => by
      obtain ⟨n, rfl⟩ := Int.eq_ofNat_of_zero_le h1
      rw [fix_good n w h2 h3, if_pos (by simpa using h4), leBytes_length]
    have e1 := f v 1 (by omega) (by omega) (by omega) (by omega)
    have e2 := f s 1 (by omega) (by omega) (by omega) (by omega)
    have e3 := f b 8 (by omega) (by omega) (by omega) (by omega)
    have e4 := f l 4 (by omega) (by omega) (by omega) (by omega)
    have hc := crcMore_lt 0 (headPre v s b l) (by omega)
    have e5 := f ((crcMore 0 (headPre v s b l) : Nat) : Int) 4 (by omega) (by omega) (by omega) (by omega)
    have e6 : (headPre v s b l).length = 20 := by
      unfold headPre
      simp only [List.length_append, List.length_cons, List.length_nil]
      have e1' : (fixOf v 1).length = 1 := e1
      have e2' : (fixOf s 1).length = 1 := e2
      have e3' : (fixOf b 8).length = 8 := e3
      have e4' : (fixOf l 4).length = 4 := e4
      omega
    rw [List.length_append, e6]
    have e5' : (fixOf ((crcMore 0 (headPre v s b l) : Nat) : Int) 4).length = 4 := e5
    omega
  · exact .inl rfl
theorem dp_bits (rows : List (List C)) (i j k : Nat) : IntKind.i64.wrap (1 + IntKind.i64.wrap (2 * IntKind.i64.wrap (IntKind.i64.wrap (IntKind.i64.wrap (IntKind.i64.wrap (dpAt rows i * 10000) + dpAt rows j) * 20) + (dpAt rows k).tmod 20))) = 1 + 2 * ((dpAt rows i * 10000 + dpAt rows j) * 20 + dpAt rows k % 20) := by
  have r1 := dp_range rows i
  have r2 := dp_range rows j
  have r3 := dp_range rows k
  have t : (dpAt rows k).tmod 20 = dpAt rows k % 20 := Int.tmod_eq_emod_of_nonneg r3.1
  rw [t]
  have w1 : IntKind.i64.wrap (dpAt rows i * 10000) = dpAt rows i * 10000 := by rw [wrap64] <;> omega
  have w2 : IntKind.i64.wrap (dpAt rows i * 10000 + dpAt rows j) = dpAt rows i * 10000 + dpAt rows j := by rw [wrap64] <;> omega
  have w3 : IntKind.i64.wrap ((dpAt rows i * 10000 + dpAt rows j) * 20) = (dpAt rows i * 10000 + dpAt rows j) * 20 := by rw [wrap64] <;> omega
  have w4 : IntKind.i64.wrap ((dpAt rows i * 10000 + dpAt rows j) * 20 + dpAt rows k % 20) = (dpAt rows i * 10000 + dpAt rows j) * 20 + dpAt rows k % 20 := by rw [wrap64] <;> omega
  have w5 : IntKind.i64.wrap (2 * ((dpAt rows i * 10000 + dpAt rows j) * 20 + dpAt rows k % 20)) = 2 * ((dpAt rows i * 10000 + dpAt rows j) * 20 + dpAt rows k % 20) := by rw [wrap64] <;> omega
  have w6 : IntKind.i64.wrap (1 + 2 * ((dpAt rows i * 10000 + dpAt rows j) * 20 + dpAt rows k % 20)) = 1 + 2 * ((dpAt rows i * 10000 + dpAt rows j) * 20 + dpAt rows k % 20) := by rw [wrap64] <;> omega
  rw [w1, w2, w3, w4, w5, w6]
theorem lFnHeads_E : EnvSound Try.prog E_lFnHeads := mkE_sound (by simp [sTurnBits_sound, lBig_sound, sHeadOk_sound, iHeadOk_sound, sHeadText_sound, iHeadText_sound, sReadHead_sound, iReadHead_sound, sDrawHeadText_sound, sDrawReadHead_sound, sDrawPlaces_sound])
theorem lFnHeads_sound : Sound Try.prog 6 (sg [pCode] [rB]) codeLaw := vBody_sound lFnHeads_E noInl_ok Try.func6 (by kernel_rfl) fun cs outs hk h => by
  unfold codeLaw at h
  split at h
  · simp only [Option.some.injEq, Prod.mk.injEq] at h
    obtain ⟨h1, rfl⟩ := h
    rename_i rows
    rw [vBody_L, lFnHeads_tree]
    by_cases hb : 1048576 < rows.length
    · exact ask_yes (decide_eq_true hb) rfl
    · have hok : curOk rows 0 = true := (curOk_iff rows 0).2 ⟨h1, by omega, by omega, by omega⟩
      have l0 := drhT_len rows
      have l1 : decide ((drhT rows).length ≤ 281474976710656) = true := decide_eq_true (by omega)
      have w0 : IntKind.i64.wrap (8 * ((headText 2 3 7 5).length : Int)) = 192 := by rw [good_len]; rfl
      have r0 := dp_range rows 0
      have t0 : (dpAt rows 0).tmod 192 = dpAt rows 0 % 192 := Int.tmod_eq_emod_of_nonneg r0.1
      simp only [w0, t0, dp_bits]
      have hno := head_turn (dpAt rows 0 % 192) (1 + 2 * ((dpAt rows 1 * 10000 + dpAt rows 2) * 20 + dpAt rows 3 % 20)) (by omega) (by omega) (by omega)
      have hpre : (decide ((headText 2 3 7 5).length ≤ 1048576) && decide (-9223372036854775808 ≤ dpAt rows 0 % 192) && decide (dpAt rows 0 % 192 ≤ 9223372036854775807)) = true := by
        rw [good_len, decide_eq_true (show -9223372036854775808 ≤ dpAt rows 0 % 192 by omega), decide_eq_true (show dpAt rows 0 % 192 ≤ 9223372036854775807 by omega)]; rfl
      have hl2 : decide ((turnOf (headText 2 3 7 5) (dpAt rows 0 % 192) (1 + 2 * ((dpAt rows 1 * 10000 + dpAt rows 2) * 20 + dpAt rows 3 % 20))).length ≤ 281474976710656) = true := decide_eq_true (by rw [turnOf_len, good_len]; omega)
      generalize turnOf (headText 2 3 7 5) (dpAt rows 0 % 192) (1 + 2 * ((dpAt rows 1 * 10000 + dpAt rows 2) * 20 + dpAt rows 3 % 20)) = u at hno hl2 ⊢
      have h24 := headText_24 (haV rows 0 (newH rows)) (haS rows 0 (newH rows)) (haB rows 0 (newH rows)) (haL rows 0 (newH rows))
      generalize headText (haV rows 0 (newH rows)) (haS rows 0 (newH rows)) (haB rows 0 (newH rows)) (haL rows 0 (newH rows)) = t at h24 ⊢
      rw [hno]
      refine ask_no (decide_eq_false hb) (must_go hok (must_go rfl (must_go rfl (must_go rfl (ask_no (by simp) (must_go rfl ?_))))))
      have htail : (T.ask (t == []) (.ret [C.bool true]) (.ask (decide ((t.length : Int) = 24)) (.ret [C.bool true]) (.ret [C.bool false]))).eval = some [C.bool true] := by
        rcases h24 with he | he
        · rw [he]; exact ask_yes rfl rfl
        · exact ask_no (by cases t with | nil => simp at he | cons c t => rfl) (ask_yes (decide_eq_true (by omega)) rfl)
      cases headOk (haV rows 0 (newH rows)) (haS rows 0 (newH rows)) (haB rows 0 (newH rows)) (haL rows 0 (newH rows)) with
      | true =>
        refine ask_yes rfl (must_go rfl (ask_yes rfl ?_))
        refine must_go hok (must_go rfl (must_go l1 (must_go rfl ?_)))
        cases readHeadOk (drhT rows) with
        | true =>
          refine ask_yes rfl (must_go l1 (must_go rfl (ask_yes rfl (ask_no (by simp) ?_))))
          refine must_go hok (must_go rfl (must_go rfl (must_go rfl (must_go rfl (must_go rfl (must_go rfl (must_go rfl (must_go rfl (must_go rfl (must_go hpre (must_go rfl (must_go hl2 (must_go rfl (ask_no rfl (ask_yes rfl ?_)))))))))))))))
          exact htail
        | false =>
          refine ask_no rfl (must_go l1 (must_go rfl (ask_no rfl (ask_no (by simp) ?_))))
          refine must_go hok (must_go rfl (must_go rfl (must_go rfl (must_go rfl (must_go rfl (must_go rfl (must_go rfl (must_go rfl (must_go rfl (must_go hpre (must_go rfl (must_go hl2 (must_go rfl (ask_no rfl (ask_yes rfl ?_)))))))))))))))
          exact htail
      | false =>
        refine ask_no rfl (must_go rfl (ask_no rfl ?_))
        refine must_go hok (must_go rfl (must_go l1 (must_go rfl ?_)))
        cases readHeadOk (drhT rows) with
        | true =>
          refine ask_yes rfl (must_go l1 (must_go rfl (ask_yes rfl (ask_no (by simp) ?_))))
          refine must_go hok (must_go rfl (must_go rfl (must_go rfl (must_go rfl (must_go rfl (must_go rfl (must_go rfl (must_go rfl (must_go rfl (must_go hpre (must_go rfl (must_go hl2 (must_go rfl (ask_no rfl (ask_yes rfl ?_)))))))))))))))
          exact htail
        | false =>
          refine ask_no rfl (must_go l1 (must_go rfl (ask_no rfl (ask_no (by simp) ?_))))
          refine must_go hok (must_go rfl (must_go rfl (must_go rfl (must_go rfl (must_go rfl (must_go rfl (must_go rfl (must_go rfl (must_go rfl (must_go hpre (must_go rfl (must_go hl2 (must_go rfl (ask_no rfl (ask_yes rfl ?_)))))))))))))))
          exact htail
  · cases h

end Go.Proofs.Ythpcgbnochcbcaa.V

namespace Go.Proofs.Ythpcgbnochcbcaa.V
noncomputable section

def E_lFnFrameBursts : Env := mkE [] [(30, (sg [pS, pI, pI] [rS]), turnSpec), (10, (sg [pCode] [rB]), bigSpec), (28, (sg [pI, pI, pS] [rS]), frameSpec), (26, (sg [pI, pI] [rS]), endMarkSpec), (27, (sg [pI, pI, pS, pI] [rB]), markAtSpec), (31, (sg [pI, pI, pS, pI] [rS, rI, rB]), readFrameSpec), (29, (⟨[pCode], [rSl 3], true⟩), drawPlacesSpec), (25, (⟨[pCode], [rI, rI, rS], true⟩), drawFrameSpec), (32, (sg [pI] [rS]), manySpec)]

end
end Go.Proofs.Ythpcgbnochcbcaa.V

namespace Go.Proofs.Ythpcgbnochcbcaa.V
set_option maxRecDepth 100000
theorem lFnFrameBursts_tree (H : List Pt → Nat → St → T (List C)) (r : List (List C)) : (vBodyL E_lFnFrameBursts noInl (sg [pCode] [rB]) Try.f5 H [C.sl r]).eval =
 ((.ask (decide ((1048576 : Nat) < r.length))
 (.ret [C.bool true])
 (.must (curOk r (0 : Int))
  (.must (decide ((0 : Nat) < (1 : Nat)) && true && true &&
    (decide ((0 : Nat) < (1 : Nat)) && true && true && (decide ((0 : Nat) < (1 : Nat)) && true && true && true)) &&
  true)
   (.ask (decide (dfP r < (0 : Int)))
    (.ret [C.bool true])
    (.ask (decide ((1000000000 : Int) < dfP r))
     (.ret [C.bool true])
     (.ask (decide ((60 : Int) < (↑(dfR r).length : Int)))
      (.ret [C.bool true])
      (.must (decide ((dfR r).length ≤ (281474976710656 : Nat)))
       (.must (decide ((0 : Nat) < (1 : Nat)) && true && true && true && true)
        (.must (decide ((0 : Nat) < (1 : Nat)) && true && true && true && true)
         (.ask ((↑(frameText (2 : Int) (dfP r) (dfR r)).length : Int) != IntKind.i64.wrap ((12 : Int) + (↑(dfR r).length : Int)))
          (.ret [C.bool false])
          (.ask ((↑(endMark (2 : Int) (dfP r)).length : Int) != (8 : Int))
           (.ret [C.bool false])
           (.must (curOk r (0 : Int))
            (.must (true &&
        (decide ((0 : Nat) + (1 : Nat) = (1 : Nat)) &&
          (decide ((0 : Nat) + (1 : Nat) = (1 : Nat)) &&
            (decide ((0 : Nat) + (1 : Nat) = (1 : Nat)) &&
              (decide ((0 : Nat) + (1 : Nat) = (1 : Nat)) &&
                (decide ((0 : Nat) + (1 : Nat) = (1 : Nat)) &&
                  (decide ((0 : Nat) + (1 : Nat) = (1 : Nat)) &&
                    (decide ((0 : Nat) + (1 : Nat) = (1 : Nat)) &&
                      (decide ((0 : Nat) + (1 : Nat) = (1 : Nat)) &&
                        (decide ((0 : Nat) + (1 : Nat) = (1 : Nat)) &&
                          (decide ((0 : Nat) + (1 : Nat) = (1 : Nat)) &&
                            (decide ((0 : Nat) + (1 : Nat) = (1 : Nat)) &&
                              (decide ((0 : Nat) + (1 : Nat) = (1 : Nat)) && true)))))))))))) &&
      true &&
    true &&
  true)
             (.must (decide ((0 : Int) ≤ (1 : Int)) &&
  decide
    ((1 : Int) <
      (↑(((((((((((Nat.add (1 : Nat) (0 : Nat)).succ.add (0 : Nat)).succ.add (0 : Nat)).succ.add
                                                        (0 : Nat)).succ.add
                                                  (0 : Nat)).succ.add
                                            (0 : Nat)).succ.add
                                      (0 : Nat)).succ.add
                                (0 : Nat)).succ.add
                          (0 : Nat)).succ.add
                    (0 : Nat)).succ.add
              (0 : Nat)).succ :
        Int)))
              (.must (decide
    ((0 : Nat) + Int.toNat (1 : Int) <
      (((((((((((Nat.add (1 : Nat) (0 : Nat)).succ.add (0 : Nat)).succ.add (0 : Nat)).succ.add
                                                    (0 : Nat)).succ.add
                                              (0 : Nat)).succ.add
                                        (0 : Nat)).succ.add
                                  (0 : Nat)).succ.add
                            (0 : Nat)).succ.add
                      (0 : Nat)).succ.add
                (0 : Nat)).succ.add
          (0 : Nat)).succ) &&
  (decide ((0 : Nat) < (0 : Nat) + (1 : Nat)) && true && true))
               (.must (decide ((0 : Int) ≤ (2 : Int)) &&
  decide
    ((2 : Int) <
      (↑(((((((((((Nat.add (1 : Nat) (0 : Nat)).succ.add (0 : Nat)).succ.add (0 : Nat)).succ.add
                                                        (0 : Nat)).succ.add
                                                  (0 : Nat)).succ.add
                                            (0 : Nat)).succ.add
                                      (0 : Nat)).succ.add
                                (0 : Nat)).succ.add
                          (0 : Nat)).succ.add
                    (0 : Nat)).succ.add
              (0 : Nat)).succ :
        Int)))
                (.must (decide
    ((0 : Nat) + Int.toNat (2 : Int) <
      (((((((((((Nat.add (1 : Nat) (0 : Nat)).succ.add (0 : Nat)).succ.add (0 : Nat)).succ.add
                                                    (0 : Nat)).succ.add
                                              (0 : Nat)).succ.add
                                        (0 : Nat)).succ.add
                                  (0 : Nat)).succ.add
                            (0 : Nat)).succ.add
                      (0 : Nat)).succ.add
                (0 : Nat)).succ.add
          (0 : Nat)).succ) &&
  (decide ((0 : Nat) < (0 : Nat) + (1 : Nat)) && true && true))
                 (.must (decide ((0 : Int) ≤ (3 : Int)) &&
  decide
    ((3 : Int) <
      (↑(((((((((((Nat.add (1 : Nat) (0 : Nat)).succ.add (0 : Nat)).succ.add (0 : Nat)).succ.add
                                                        (0 : Nat)).succ.add
                                                  (0 : Nat)).succ.add
                                            (0 : Nat)).succ.add
                                      (0 : Nat)).succ.add
                                (0 : Nat)).succ.add
                          (0 : Nat)).succ.add
                    (0 : Nat)).succ.add
              (0 : Nat)).succ :
        Int)))
                  (.must (decide
    ((0 : Nat) + Int.toNat (3 : Int) <
      (((((((((((Nat.add (1 : Nat) (0 : Nat)).succ.add (0 : Nat)).succ.add (0 : Nat)).succ.add
                                                    (0 : Nat)).succ.add
                                              (0 : Nat)).succ.add
                                        (0 : Nat)).succ.add
                                  (0 : Nat)).succ.add
                            (0 : Nat)).succ.add
                      (0 : Nat)).succ.add
                (0 : Nat)).succ.add
          (0 : Nat)).succ) &&
  (decide ((0 : Nat) < (0 : Nat) + (1 : Nat)) && true && true))
                   (.must (decide ((0 : Int) ≤ (0 : Int)) &&
  decide
    ((0 : Int) <
      (↑(((((((((((Nat.add (1 : Nat) (0 : Nat)).succ.add (0 : Nat)).succ.add (0 : Nat)).succ.add
                                                        (0 : Nat)).succ.add
                                                  (0 : Nat)).succ.add
                                            (0 : Nat)).succ.add
                                      (0 : Nat)).succ.add
                                (0 : Nat)).succ.add
                          (0 : Nat)).succ.add
                    (0 : Nat)).succ.add
              (0 : Nat)).succ :
        Int)))
                    (.must (decide
    ((0 : Nat) + Int.toNat (0 : Int) <
      (((((((((((Nat.add (1 : Nat) (0 : Nat)).succ.add (0 : Nat)).succ.add (0 : Nat)).succ.add
                                                    (0 : Nat)).succ.add
                                              (0 : Nat)).succ.add
                                        (0 : Nat)).succ.add
                                  (0 : Nat)).succ.add
                            (0 : Nat)).succ.add
                      (0 : Nat)).succ.add
                (0 : Nat)).succ.add
          (0 : Nat)).succ) &&
  (decide ((0 : Nat) < (0 : Nat) + (1 : Nat)) && true && true))
                     (.must (decide ¬IntKind.i64.wrap ((8 : Int) * (↑(frameText (2 : Int) (dfP r) (dfR r)).length : Int)) = (0 : Int))
                      (.must (decide ((frameText (2 : Int) (dfP r) (dfR r)).length ≤ (1048576 : Nat)) &&
    decide
      ((-9223372036854775808 : Int) ≤
        (dpAt r (0 : Nat)).tmod
          (IntKind.i64.wrap ((8 : Int) * (↑(frameText (2 : Int) (dfP r) (dfR r)).length : Int)))) &&
  decide
    ((dpAt r (0 : Nat)).tmod (IntKind.i64.wrap ((8 : Int) * (↑(frameText (2 : Int) (dfP r) (dfR r)).length : Int))) ≤
      (9223372036854775807 : Int)))
                       (.must (decide ((0 : Nat) < (1 : Nat)) && true && true && true && true)
                        (.must (decide ((0 : Int) ≤ (4 : Int)) &&
  decide
    ((4 : Int) <
      (↑(((((((((((Nat.add (1 : Nat) (0 : Nat)).succ.add (0 : Nat)).succ.add (0 : Nat)).succ.add
                                                        (0 : Nat)).succ.add
                                                  (0 : Nat)).succ.add
                                            (0 : Nat)).succ.add
                                      (0 : Nat)).succ.add
                                (0 : Nat)).succ.add
                          (0 : Nat)).succ.add
                    (0 : Nat)).succ.add
              (0 : Nat)).succ :
        Int)))
                         (.must (decide
    ((0 : Nat) + Int.toNat (4 : Int) <
      (((((((((((Nat.add (1 : Nat) (0 : Nat)).succ.add (0 : Nat)).succ.add (0 : Nat)).succ.add
                                                    (0 : Nat)).succ.add
                                              (0 : Nat)).succ.add
                                        (0 : Nat)).succ.add
                                  (0 : Nat)).succ.add
                            (0 : Nat)).succ.add
                      (0 : Nat)).succ.add
                (0 : Nat)).succ.add
          (0 : Nat)).succ) &&
  (decide ((0 : Nat) < (0 : Nat) + (1 : Nat)) && true && true))
                          (.must (decide ((endMark (2 : Int) (dfP r)).length ≤ (1048576 : Nat)) &&
    decide ((-9223372036854775808 : Int) ≤ (dpAt r (4 : Nat)).tmod (64 : Int)) &&
  decide ((dpAt r (4 : Nat)).tmod (64 : Int) ≤ (9223372036854775807 : Int)))
                           (.must (decide ((0 : Nat) < (1 : Nat)) && true && true && true && true)
                            (.must (decide
  ((turnOf (frameText (2 : Int) (dfP r) (dfR r))
          ((dpAt r (0 : Nat)).tmod
            (IntKind.i64.wrap ((8 : Int) * (↑(frameText (2 : Int) (dfP r) (dfR r)).length : Int))))
          (IntKind.i64.wrap
            ((1 : Int) +
              IntKind.i64.wrap
                ((2 : Int) *
                  IntKind.i64.wrap
                    (IntKind.i64.wrap
                        (IntKind.i64.wrap (IntKind.i64.wrap (dpAt r (1 : Nat) * (10000 : Int)) + dpAt r (2 : Nat)) *
                          (20 : Int)) +
                      (dpAt r (3 : Nat)).tmod (20 : Int)))))).length +
      ((0 : Nat) + (1 : Nat) + (1 : Nat) + (1 : Nat) + (1 : Nat) + (1 : Nat) + (1 : Nat) + (1 : Nat) + (1 : Nat) +
                                                                                                              (1 :
                                                                                                                Nat) +
                                                                                                            (1 : Nat) +
                                                                                                          (1 : Nat) +
                                                                                                        (1 : Nat) +
                                                                                                      (1 : Nat) +
                                                                                                    (1 : Nat) +
                                                                                                  (1 : Nat) +
                                                                                                (1 : Nat) +
                                                                                              (1 : Nat) +
                                                                                            (1 : Nat) +
                                                                                          (1 : Nat) +
                                                                                        (1 : Nat) +
                                                                                      (1 : Nat) +
                                                                                    (1 : Nat) +
                                                                                  (1 : Nat) +
                                                                                (1 : Nat) +
                                                                              (1 : Nat) +
                                                                            (1 : Nat) +
                                                                          (1 : Nat) +
                                                                        (1 : Nat) +
                                                                      (1 : Nat) +
                                                                    (1 : Nat) +
                                                                  (1 : Nat) +
                                                                (1 : Nat) +
                                                              (1 : Nat) +
                                                            (1 : Nat) +
                                                          (1 : Nat) +
                                                        (1 : Nat) +
                                                      (1 : Nat) +
                                                    (1 : Nat) +
                                                  (1 : Nat) +
                                                (1 : Nat) +
                                              (1 : Nat) +
                                            (1 : Nat) +
                                          (1 : Nat) +
                                        (1 : Nat) +
                                      (1 : Nat) +
                                    (1 : Nat) +
                                  (1 : Nat) +
                                (1 : Nat) +
                              (1 : Nat) +
                            (1 : Nat) +
                          (1 : Nat) +
                        (1 : Nat) +
                      (1 : Nat) +
                    (1 : Nat) +
                  (1 : Nat) +
                (1 : Nat) +
              (1 : Nat) +
            (1 : Nat) +
          (1 : Nat) +
        (1 : Nat)) ≤
    (9223372036854775807 : Nat)))
                             (.must (decide
    ((turnOf (frameText (2 : Int) (dfP r) (dfR r))
            ((dpAt r (0 : Nat)).tmod
              (IntKind.i64.wrap ((8 : Int) * (↑(frameText (2 : Int) (dfP r) (dfR r)).length : Int))))
            (IntKind.i64.wrap
              ((1 : Int) +
                IntKind.i64.wrap
                  ((2 : Int) *
                    IntKind.i64.wrap
                      (IntKind.i64.wrap
                          (IntKind.i64.wrap
                              (IntKind.i64.wrap (dpAt r (1 : Nat) * (10000 : Int)) + dpAt r (2 : Nat)) *
                            (20 : Int)) +
                        (dpAt r (3 : Nat)).tmod (20 : Int))))) ++
          List.replicate (Int.toNat (60 : Int)) (113 : UInt8)).length ≤
      (281474976710656 : Nat)) &&
  (decide ((-9223372036854775808 : Int) ≤ (0 : Int)) && decide ((0 : Int) ≤ (9223372036854775807 : Int))))
                              (.must (decide ((0 : Nat) < (1 : Nat)) && true && true &&
    (decide ((0 : Nat) < (1 : Nat)) && true && true && (decide ((0 : Nat) < (1 : Nat)) && true && true && true)) &&
  true)
                               (.ask (rfOk (2 : Int) (dfP r)
  (turnOf (frameText (2 : Int) (dfP r) (dfR r))
      ((dpAt r (0 : Nat)).tmod (IntKind.i64.wrap ((8 : Int) * (↑(frameText (2 : Int) (dfP r) (dfR r)).length : Int))))
      (IntKind.i64.wrap
        ((1 : Int) +
          IntKind.i64.wrap
            ((2 : Int) *
              IntKind.i64.wrap
                (IntKind.i64.wrap
                    (IntKind.i64.wrap (IntKind.i64.wrap (dpAt r (1 : Nat) * (10000 : Int)) + dpAt r (2 : Nat)) *
                      (20 : Int)) +
                  (dpAt r (3 : Nat)).tmod (20 : Int))))) ++
    List.replicate (Int.toNat (60 : Int)) (113 : UInt8))
  (0 : Int))
                                (.must (decide
  ((turnOf (endMark (2 : Int) (dfP r)) ((dpAt r (4 : Nat)).tmod (64 : Int))
          (IntKind.i64.wrap
            ((1 : Int) +
              IntKind.i64.wrap
                ((2 : Int) *
                  IntKind.i64.wrap
                    (IntKind.i64.wrap
                        (IntKind.i64.wrap (IntKind.i64.wrap (dpAt r (1 : Nat) * (10000 : Int)) + dpAt r (2 : Nat)) *
                          (20 : Int)) +
                      (dpAt r (3 : Nat)).tmod (20 : Int)))))).length +
      ((0 : Nat) + (1 : Nat) + (1 : Nat) + (1 : Nat) + (1 : Nat) + (1 : Nat) + (1 : Nat) + (1 : Nat) + (1 : Nat) +
                                                                                                              (1 :
                                                                                                                Nat) +
                                                                                                            (1 : Nat) +
                                                                                                          (1 : Nat) +
                                                                                                        (1 : Nat) +
                                                                                                      (1 : Nat) +
                                                                                                    (1 : Nat) +
                                                                                                  (1 : Nat) +
                                                                                                (1 : Nat) +
                                                                                              (1 : Nat) +
                                                                                            (1 : Nat) +
                                                                                          (1 : Nat) +
                                                                                        (1 : Nat) +
                                                                                      (1 : Nat) +
                                                                                    (1 : Nat) +
                                                                                  (1 : Nat) +
                                                                                (1 : Nat) +
                                                                              (1 : Nat) +
                                                                            (1 : Nat) +
                                                                          (1 : Nat) +
                                                                        (1 : Nat) +
                                                                      (1 : Nat) +
                                                                    (1 : Nat) +
                                                                  (1 : Nat) +
                                                                (1 : Nat) +
                                                              (1 : Nat) +
                                                            (1 : Nat) +
                                                          (1 : Nat) +
                                                        (1 : Nat) +
                                                      (1 : Nat) +
                                                    (1 : Nat) +
                                                  (1 : Nat) +
                                                (1 : Nat) +
                                              (1 : Nat) +
                                            (1 : Nat) +
                                          (1 : Nat) +
                                        (1 : Nat) +
                                      (1 : Nat) +
                                    (1 : Nat) +
                                  (1 : Nat) +
                                (1 : Nat) +
                              (1 : Nat) +
                            (1 : Nat) +
                          (1 : Nat) +
                        (1 : Nat) +
                      (1 : Nat) +
                    (1 : Nat) +
                  (1 : Nat) +
                (1 : Nat) +
              (1 : Nat) +
            (1 : Nat) +
          (1 : Nat) +
        (1 : Nat)) ≤
    (9223372036854775807 : Nat)))
                                 (.must (decide
    ((turnOf (endMark (2 : Int) (dfP r)) ((dpAt r (4 : Nat)).tmod (64 : Int))
            (IntKind.i64.wrap
              ((1 : Int) +
                IntKind.i64.wrap
                  ((2 : Int) *
                    IntKind.i64.wrap
                      (IntKind.i64.wrap
                          (IntKind.i64.wrap
                              (IntKind.i64.wrap (dpAt r (1 : Nat) * (10000 : Int)) + dpAt r (2 : Nat)) *
                            (20 : Int)) +
                        (dpAt r (3 : Nat)).tmod (20 : Int))))) ++
          List.replicate (Int.toNat (60 : Int)) (113 : UInt8)).length ≤
      (281474976710656 : Nat)) &&
  (decide ((-9223372036854775808 : Int) ≤ (0 : Int)) && decide ((0 : Int) ≤ (9223372036854775807 : Int))))
                                  (.must (decide ((0 : Nat) < (1 : Nat)) && true && true &&
    (decide ((0 : Nat) < (1 : Nat)) && true && true && (decide ((0 : Nat) < (1 : Nat)) && true && true && true)) &&
  true)
                                   (.ask (rfOk (2 : Int) (dfP r)
  (turnOf (endMark (2 : Int) (dfP r)) ((dpAt r (4 : Nat)).tmod (64 : Int))
      (IntKind.i64.wrap
        ((1 : Int) +
          IntKind.i64.wrap
            ((2 : Int) *
              IntKind.i64.wrap
                (IntKind.i64.wrap
                    (IntKind.i64.wrap (IntKind.i64.wrap (dpAt r (1 : Nat) * (10000 : Int)) + dpAt r (2 : Nat)) *
                      (20 : Int)) +
                  (dpAt r (3 : Nat)).tmod (20 : Int))))) ++
    List.replicate (Int.toNat (60 : Int)) (113 : UInt8))
  (0 : Int))
                                    (.must (decide
  ((endMark (2 : Int) (dfP r)).length +
      ((0 : Nat) + (1 : Nat) + (1 : Nat) + (1 : Nat) + (1 : Nat) + (1 : Nat) + (1 : Nat) + (1 : Nat) + (1 : Nat) +
                                                                                                              (1 :
                                                                                                                Nat) +
                                                                                                            (1 : Nat) +
                                                                                                          (1 : Nat) +
                                                                                                        (1 : Nat) +
                                                                                                      (1 : Nat) +
                                                                                                    (1 : Nat) +
                                                                                                  (1 : Nat) +
                                                                                                (1 : Nat) +
                                                                                              (1 : Nat) +
                                                                                            (1 : Nat) +
                                                                                          (1 : Nat) +
                                                                                        (1 : Nat) +
                                                                                      (1 : Nat) +
                                                                                    (1 : Nat) +
                                                                                  (1 : Nat) +
                                                                                (1 : Nat) +
                                                                              (1 : Nat) +
                                                                            (1 : Nat) +
                                                                          (1 : Nat) +
                                                                        (1 : Nat) +
                                                                      (1 : Nat) +
                                                                    (1 : Nat) +
                                                                  (1 : Nat) +
                                                                (1 : Nat) +
                                                              (1 : Nat) +
                                                            (1 : Nat) +
                                                          (1 : Nat) +
                                                        (1 : Nat) +
                                                      (1 : Nat) +
                                                    (1 : Nat) +
                                                  (1 : Nat) +
                                                (1 : Nat) +
                                              (1 : Nat) +
                                            (1 : Nat) +
                                          (1 : Nat) +
                                        (1 : Nat) +
                                      (1 : Nat) +
                                    (1 : Nat) +
                                  (1 : Nat) +
                                (1 : Nat) +
                              (1 : Nat) +
                            (1 : Nat) +
                          (1 : Nat) +
                        (1 : Nat) +
                      (1 : Nat) +
                    (1 : Nat) +
                  (1 : Nat) +
                (1 : Nat) +
              (1 : Nat) +
            (1 : Nat) +
          (1 : Nat) +
        (1 : Nat)) ≤
    (9223372036854775807 : Nat)))
                                     (.must (decide
    ((endMark (2 : Int) (dfP r) ++ List.replicate (Int.toNat (60 : Int)) (113 : UInt8)).length ≤
      (281474976710656 : Nat)) &&
  (decide ((-9223372036854775808 : Int) ≤ (0 : Int)) && decide ((0 : Int) ≤ (9223372036854775807 : Int))))
                                      (.must (decide ((0 : Nat) < (1 : Nat)) && true && true &&
    (decide ((0 : Nat) < (1 : Nat)) && true && true && (decide ((0 : Nat) < (1 : Nat)) && true && true && true)) &&
  true)
                                       (.ask (rfOk (2 : Int) (dfP r) (endMark (2 : Int) (dfP r) ++ List.replicate (Int.toNat (60 : Int)) (113 : UInt8)) (0 : Int))
                                        (.ret [C.bool false])
                                        (.ret [C.bool false])))))
                                    (.must (decide
  ((endMark (2 : Int) (dfP r)).length +
      ((0 : Nat) + (1 : Nat) + (1 : Nat) + (1 : Nat) + (1 : Nat) + (1 : Nat) + (1 : Nat) + (1 : Nat) + (1 : Nat) +
                                                                                                              (1 :
                                                                                                                Nat) +
                                                                                                            (1 : Nat) +
                                                                                                          (1 : Nat) +
                                                                                                        (1 : Nat) +
                                                                                                      (1 : Nat) +
                                                                                                    (1 : Nat) +
                                                                                                  (1 : Nat) +
                                                                                                (1 : Nat) +
                                                                                              (1 : Nat) +
                                                                                            (1 : Nat) +
                                                                                          (1 : Nat) +
                                                                                        (1 : Nat) +
                                                                                      (1 : Nat) +
                                                                                    (1 : Nat) +
                                                                                  (1 : Nat) +
                                                                                (1 : Nat) +
                                                                              (1 : Nat) +
                                                                            (1 : Nat) +
                                                                          (1 : Nat) +
                                                                        (1 : Nat) +
                                                                      (1 : Nat) +
                                                                    (1 : Nat) +
                                                                  (1 : Nat) +
                                                                (1 : Nat) +
                                                              (1 : Nat) +
                                                            (1 : Nat) +
                                                          (1 : Nat) +
                                                        (1 : Nat) +
                                                      (1 : Nat) +
                                                    (1 : Nat) +
                                                  (1 : Nat) +
                                                (1 : Nat) +
                                              (1 : Nat) +
                                            (1 : Nat) +
                                          (1 : Nat) +
                                        (1 : Nat) +
                                      (1 : Nat) +
                                    (1 : Nat) +
                                  (1 : Nat) +
                                (1 : Nat) +
                              (1 : Nat) +
                            (1 : Nat) +
                          (1 : Nat) +
                        (1 : Nat) +
                      (1 : Nat) +
                    (1 : Nat) +
                  (1 : Nat) +
                (1 : Nat) +
              (1 : Nat) +
            (1 : Nat) +
          (1 : Nat) +
        (1 : Nat)) ≤
    (9223372036854775807 : Nat)))
                                     (.must (decide
    ((endMark (2 : Int) (dfP r) ++ List.replicate (Int.toNat (60 : Int)) (113 : UInt8)).length ≤
      (281474976710656 : Nat)) &&
  (decide ((-9223372036854775808 : Int) ≤ (0 : Int)) && decide ((0 : Int) ≤ (9223372036854775807 : Int))))
                                      (.must (decide ((0 : Nat) < (1 : Nat)) && true && true &&
    (decide ((0 : Nat) < (1 : Nat)) && true && true && (decide ((0 : Nat) < (1 : Nat)) && true && true && true)) &&
  true)
                                       (.ask (rfOk (2 : Int) (dfP r) (endMark (2 : Int) (dfP r) ++ List.replicate (Int.toNat (60 : Int)) (113 : UInt8)) (0 : Int))
                                        (.ret [C.bool false])
                                        (.ret [C.bool false])))))))))
                                (.must (decide
  ((turnOf (endMark (2 : Int) (dfP r)) ((dpAt r (4 : Nat)).tmod (64 : Int))
          (IntKind.i64.wrap
            ((1 : Int) +
              IntKind.i64.wrap
                ((2 : Int) *
                  IntKind.i64.wrap
                    (IntKind.i64.wrap
                        (IntKind.i64.wrap (IntKind.i64.wrap (dpAt r (1 : Nat) * (10000 : Int)) + dpAt r (2 : Nat)) *
                          (20 : Int)) +
                      (dpAt r (3 : Nat)).tmod (20 : Int)))))).length +
      ((0 : Nat) + (1 : Nat) + (1 : Nat) + (1 : Nat) + (1 : Nat) + (1 : Nat) + (1 : Nat) + (1 : Nat) + (1 : Nat) +
                                                                                                              (1 :
                                                                                                                Nat) +
                                                                                                            (1 : Nat) +
                                                                                                          (1 : Nat) +
                                                                                                        (1 : Nat) +
                                                                                                      (1 : Nat) +
                                                                                                    (1 : Nat) +
                                                                                                  (1 : Nat) +
                                                                                                (1 : Nat) +
                                                                                              (1 : Nat) +
                                                                                            (1 : Nat) +
                                                                                          (1 : Nat) +
                                                                                        (1 : Nat) +
                                                                                      (1 : Nat) +
                                                                                    (1 : Nat) +
                                                                                  (1 : Nat) +
                                                                                (1 : Nat) +
                                                                              (1 : Nat) +
                                                                            (1 : Nat) +
                                                                          (1 : Nat) +
                                                                        (1 : Nat) +
                                                                      (1 : Nat) +
                                                                    (1 : Nat) +
                                                                  (1 : Nat) +
                                                                (1 : Nat) +
                                                              (1 : Nat) +
                                                            (1 : Nat) +
                                                          (1 : Nat) +
                                                        (1 : Nat) +
                                                      (1 : Nat) +
                                                    (1 : Nat) +
                                                  (1 : Nat) +
                                                (1 : Nat) +
                                              (1 : Nat) +
                                            (1 : Nat) +
                                          (1 : Nat) +
                                        (1 : Nat) +
                                      (1 : Nat) +
                                    (1 : Nat) +
                                  (1 : Nat) +
                                (1 : Nat) +
                              (1 : Nat) +
                            (1 : Nat) +
                          (1 : Nat) +
                        (1 : Nat) +
                      (1 : Nat) +
                    (1 : Nat) +
                  (1 : Nat) +
                (1 : Nat) +
              (1 : Nat) +
            (1 : Nat) +
          (1 : Nat) +
        (1 : Nat)) ≤
    (9223372036854775807 : Nat)))
                                 (.must (decide
    ((turnOf (endMark (2 : Int) (dfP r)) ((dpAt r (4 : Nat)).tmod (64 : Int))
            (IntKind.i64.wrap
              ((1 : Int) +
                IntKind.i64.wrap
                  ((2 : Int) *
                    IntKind.i64.wrap
                      (IntKind.i64.wrap
                          (IntKind.i64.wrap
                              (IntKind.i64.wrap (dpAt r (1 : Nat) * (10000 : Int)) + dpAt r (2 : Nat)) *
                            (20 : Int)) +
                        (dpAt r (3 : Nat)).tmod (20 : Int))))) ++
          List.replicate (Int.toNat (60 : Int)) (113 : UInt8)).length ≤
      (281474976710656 : Nat)) &&
  (decide ((-9223372036854775808 : Int) ≤ (0 : Int)) && decide ((0 : Int) ≤ (9223372036854775807 : Int))))
                                  (.must (decide ((0 : Nat) < (1 : Nat)) && true && true &&
    (decide ((0 : Nat) < (1 : Nat)) && true && true && (decide ((0 : Nat) < (1 : Nat)) && true && true && true)) &&
  true)
                                   (.ask (rfOk (2 : Int) (dfP r)
  (turnOf (endMark (2 : Int) (dfP r)) ((dpAt r (4 : Nat)).tmod (64 : Int))
      (IntKind.i64.wrap
        ((1 : Int) +
          IntKind.i64.wrap
            ((2 : Int) *
              IntKind.i64.wrap
                (IntKind.i64.wrap
                    (IntKind.i64.wrap (IntKind.i64.wrap (dpAt r (1 : Nat) * (10000 : Int)) + dpAt r (2 : Nat)) *
                      (20 : Int)) +
                  (dpAt r (3 : Nat)).tmod (20 : Int))))) ++
    List.replicate (Int.toNat (60 : Int)) (113 : UInt8))
  (0 : Int))
                                    (.must (decide
  ((endMark (2 : Int) (dfP r)).length +
      ((0 : Nat) + (1 : Nat) + (1 : Nat) + (1 : Nat) + (1 : Nat) + (1 : Nat) + (1 : Nat) + (1 : Nat) + (1 : Nat) +
                                                                                                              (1 :
                                                                                                                Nat) +
                                                                                                            (1 : Nat) +
                                                                                                          (1 : Nat) +
                                                                                                        (1 : Nat) +
                                                                                                      (1 : Nat) +
                                                                                                    (1 : Nat) +
                                                                                                  (1 : Nat) +
                                                                                                (1 : Nat) +
                                                                                              (1 : Nat) +
                                                                                            (1 : Nat) +
                                                                                          (1 : Nat) +
                                                                                        (1 : Nat) +
                                                                                      (1 : Nat) +
                                                                                    (1 : Nat) +
                                                                                  (1 : Nat) +
                                                                                (1 : Nat) +
                                                                              (1 : Nat) +
                                                                            (1 : Nat) +
                                                                          (1 : Nat) +
                                                                        (1 : Nat) +
                                                                      (1 : Nat) +
                                                                    (1 : Nat) +
                                                                  (1 : Nat) +
                                                                (1 : Nat) +
                                                              (1 : Nat) +
                                                            (1 : Nat) +
                                                          (1 : Nat) +
                                                        (1 : Nat) +
                                                      (1 : Nat) +
                                                    (1 : Nat) +
                                                  (1 : Nat) +
                                                (1 : Nat) +
                                              (1 : Nat) +
                                            (1 : Nat) +
                                          (1 : Nat) +
                                        (1 : Nat) +
                                      (1 : Nat) +
                                    (1 : Nat) +
                                  (1 : Nat) +
                                (1 : Nat) +
                              (1 : Nat) +
                            (1 : Nat) +
                          (1 : Nat) +
                        (1 : Nat) +
                      (1 : Nat) +
                    (1 : Nat) +
                  (1 : Nat) +
                (1 : Nat) +
              (1 : Nat) +
            (1 : Nat) +
          (1 : Nat) +
        (1 : Nat)) ≤
    (9223372036854775807 : Nat)))
                                     (.must (decide
    ((endMark (2 : Int) (dfP r) ++ List.replicate (Int.toNat (60 : Int)) (113 : UInt8)).length ≤
      (281474976710656 : Nat)) &&
  (decide ((-9223372036854775808 : Int) ≤ (0 : Int)) && decide ((0 : Int) ≤ (9223372036854775807 : Int))))
                                      (.must (decide ((0 : Nat) < (1 : Nat)) && true && true &&
    (decide ((0 : Nat) < (1 : Nat)) && true && true && (decide ((0 : Nat) < (1 : Nat)) && true && true && true)) &&
  true)
                                       (.ask (rfOk (2 : Int) (dfP r) (endMark (2 : Int) (dfP r) ++ List.replicate (Int.toNat (60 : Int)) (113 : UInt8)) (0 : Int))
                                        (.ret [C.bool false])
                                        (.ret [C.bool false])))))
                                    (.must (decide
  ((endMark (2 : Int) (dfP r)).length +
      ((0 : Nat) + (1 : Nat) + (1 : Nat) + (1 : Nat) + (1 : Nat) + (1 : Nat) + (1 : Nat) + (1 : Nat) + (1 : Nat) +
                                                                                                              (1 :
                                                                                                                Nat) +
                                                                                                            (1 : Nat) +
                                                                                                          (1 : Nat) +
                                                                                                        (1 : Nat) +
                                                                                                      (1 : Nat) +
                                                                                                    (1 : Nat) +
                                                                                                  (1 : Nat) +
                                                                                                (1 : Nat) +
                                                                                              (1 : Nat) +
                                                                                            (1 : Nat) +
                                                                                          (1 : Nat) +
                                                                                        (1 : Nat) +
                                                                                      (1 : Nat) +
                                                                                    (1 : Nat) +
                                                                                  (1 : Nat) +
                                                                                (1 : Nat) +
                                                                              (1 : Nat) +
                                                                            (1 : Nat) +
                                                                          (1 : Nat) +
                                                                        (1 : Nat) +
                                                                      (1 : Nat) +
                                                                    (1 : Nat) +
                                                                  (1 : Nat) +
                                                                (1 : Nat) +
                                                              (1 : Nat) +
                                                            (1 : Nat) +
                                                          (1 : Nat) +
                                                        (1 : Nat) +
                                                      (1 : Nat) +
                                                    (1 : Nat) +
                                                  (1 : Nat) +
                                                (1 : Nat) +
                                              (1 : Nat) +
                                            (1 : Nat) +
                                          (1 : Nat) +
                                        (1 : Nat) +
                                      (1 : Nat) +
                                    (1 : Nat) +
                                  (1 : Nat) +
                                (1 : Nat) +
                              (1 : Nat) +
                            (1 : Nat) +
                          (1 : Nat) +
                        (1 : Nat) +
                      (1 : Nat) +
                    (1 : Nat) +
                  (1 : Nat) +
                (1 : Nat) +
              (1 : Nat) +
            (1 : Nat) +
          (1 : Nat) +
        (1 : Nat)) ≤
    (9223372036854775807 : Nat)))
                                     (.must (decide
    ((endMark (2 : Int) (dfP r) ++ List.replicate (Int.toNat (60 : Int)) (113 : UInt8)).length ≤
      (281474976710656 : Nat)) &&
  (decide ((-9223372036854775808 : Int) ≤ (0 : Int)) && decide ((0 : Int) ≤ (9223372036854775807 : Int))))
                                      (.must (decide ((0 : Nat) < (1 : Nat)) && true && true &&
    (decide ((0 : Nat) < (1 : Nat)) && true && true && (decide ((0 : Nat) < (1 : Nat)) && true && true && true)) &&
  true)
                                       (.ask (rfOk (2 : Int) (dfP r) (endMark (2 : Int) (dfP r) ++ List.replicate (Int.toNat (60 : Int)) (113 : UInt8)) (0 : Int))
                                        (.ret [C.bool false])
                                        (.must (decide ((endMark (2 : Int) (dfP r)).length ≤ (281474976710656 : Nat)))
                                         (.must (decide ((0 : Nat) < (1 : Nat)) && true && true && true && true)
                                          (.ask (markAt (2 : Int) (dfP r) (endMark (2 : Int) (dfP r)) (0 : Int))
                                           (.must (decide
  ((turnOf (endMark (2 : Int) (dfP r)) ((dpAt r (4 : Nat)).tmod (64 : Int))
        (IntKind.i64.wrap
          ((1 : Int) +
            IntKind.i64.wrap
              ((2 : Int) *
                IntKind.i64.wrap
                  (IntKind.i64.wrap
                      (IntKind.i64.wrap (IntKind.i64.wrap (dpAt r (1 : Nat) * (10000 : Int)) + dpAt r (2 : Nat)) *
                        (20 : Int)) +
                    (dpAt r (3 : Nat)).tmod (20 : Int)))))).length ≤
    (281474976710656 : Nat)))
                                            (.must (decide ((0 : Nat) < (1 : Nat)) && true && true && true && true)
                                             (.ask (markAt (2 : Int) (dfP r)
  (turnOf (endMark (2 : Int) (dfP r)) ((dpAt r (4 : Nat)).tmod (64 : Int))
    (IntKind.i64.wrap
      ((1 : Int) +
        IntKind.i64.wrap
          ((2 : Int) *
            IntKind.i64.wrap
              (IntKind.i64.wrap
                  (IntKind.i64.wrap (IntKind.i64.wrap (dpAt r (1 : Nat) * (10000 : Int)) + dpAt r (2 : Nat)) *
                    (20 : Int)) +
                (dpAt r (3 : Nat)).tmod (20 : Int))))))
  (0 : Int))
                                              (.ret [C.bool false])
                                              (.must (decide
  ((turnOf (frameText (2 : Int) (dfP r) (dfR r))
        ((dpAt r (0 : Nat)).tmod
          (IntKind.i64.wrap ((8 : Int) * (↑(frameText (2 : Int) (dfP r) (dfR r)).length : Int))))
        (IntKind.i64.wrap
          ((1 : Int) +
            IntKind.i64.wrap
              ((2 : Int) *
                IntKind.i64.wrap
                  (IntKind.i64.wrap
                      (IntKind.i64.wrap (IntKind.i64.wrap (dpAt r (1 : Nat) * (10000 : Int)) + dpAt r (2 : Nat)) *
                        (20 : Int)) +
                    (dpAt r (3 : Nat)).tmod (20 : Int)))))).length ≤
    (281474976710656 : Nat)))
                                               (.must (decide ((0 : Nat) < (1 : Nat)) && true && true && true && true)
                                                (.ask (markAt (2 : Int) (dfP r)
  (turnOf (frameText (2 : Int) (dfP r) (dfR r))
    ((dpAt r (0 : Nat)).tmod (IntKind.i64.wrap ((8 : Int) * (↑(frameText (2 : Int) (dfP r) (dfR r)).length : Int))))
    (IntKind.i64.wrap
      ((1 : Int) +
        IntKind.i64.wrap
          ((2 : Int) *
            IntKind.i64.wrap
              (IntKind.i64.wrap
                  (IntKind.i64.wrap (IntKind.i64.wrap (dpAt r (1 : Nat) * (10000 : Int)) + dpAt r (2 : Nat)) *
                    (20 : Int)) +
                (dpAt r (3 : Nat)).tmod (20 : Int))))))
  (0 : Int))
                                                 (.ret [C.bool false])
                                                 (.ret [C.bool true])))))))
                                           (.ret [C.bool false])))))))))))))))))))))))))))))))))))))))))))) : T (List C)).eval := evalEq (by kernel_rfl)
end Go.Proofs.Ythpcgbnochcbcaa.V

namespace Go.Proofs.Ythpcgbnochcbcaa.V

theorem lFnFrameBursts_E : EnvSound Try.prog E_lFnFrameBursts := mkE_sound (by simp [sTurnBits_sound, lBig_sound, iFrameText_sound, iEndMark_sound, iMarkAt_sound, iReadFrame_sound, sDrawPlaces_sound, sDrawFrameText_sound, lMany_sound])
theorem lFnFrameBursts_sound : Sound Try.prog 5 (sg [pCode] [rB]) codeLaw := vBody_sound lFnFrameBursts_E noInl_ok Try.func5 (by kernel_rfl) fun cs outs hk h => by
  unfold codeLaw at h
  split at h
  · simp only [Option.some.injEq, Prod.mk.injEq] at h
    obtain ⟨h1, rfl⟩ := h
    rename_i rows
    rw [vBody_L, lFnFrameBursts_tree]
    by_cases hb : 1048576 < rows.length
    · exact ask_yes (decide_eq_true hb) rfl
    · have hok : curOk rows 0 = true := (curOk_iff rows 0).2 ⟨h1, by omega, by omega, by omega⟩
      refine ask_no (decide_eq_false hb) (must_go hok (must_go rfl ?_))
      by_cases c1 : dfP rows < 0
      · exact ask_yes (decide_eq_true c1) rfl
      refine ask_no (decide_eq_false c1) ?_
      by_cases c2 : (1000000000 : Int) < dfP rows
      · exact ask_yes (decide_eq_true c2) rfl
      refine ask_no (decide_eq_false c2) ?_
      by_cases c3 : (60 : Int) < ((dfR rows).length : Int)
      · exact ask_yes (decide_eq_true c3) rfl
      refine ask_no (decide_eq_false c3) ?_
      have hp : inB (dfP rows) 0 1000000000 = true := (in_iff _ _ _).2 ⟨by omega, by omega⟩
      have hr : (dfR rows).length ≤ 60 := by omega
      have r0 := dp_range rows 0
      have r4 := dp_range rows 4
      have hlen := frame2_len (dfP rows) (dfR rows) hr
      have hml := sized_len (dfP rows) 4294967295 (by omega)
      have w12 : IntKind.i64.wrap (12 + ((dfR rows).length : Int)) = 12 + (dfR rows).length := by rw [wrap64] <;> omega
      rw [frame2 _ _ hp hr, end2 _ hp, hlen, hml]
      have w8 : IntKind.i64.wrap (8 * ((12 + (dfR rows).length : Nat) : Int)) = 8 * (12 + (dfR rows).length) := by rw [wrap64] <;> omega
      have t0 : (dpAt rows 0).tmod (8 * (12 + ((dfR rows).length : Int))) = dpAt rows 0 % (8 * (12 + ((dfR rows).length : Int))) := Int.tmod_eq_emod_of_nonneg r0.1
      have t4 : (dpAt rows 4).tmod 64 = dpAt rows 4 % 64 := Int.tmod_eq_emod_of_nonneg r4.1
      simp only [w8, w12, t0, t4, dp_bits]
      have m1 := Int.emod_nonneg (dpAt rows 0) (show (8 * (12 + ((dfR rows).length : Int))) ≠ 0 by omega)
      have m2 := Int.emod_lt_of_pos (dpAt rows 0) (show 0 < (8 * (12 + ((dfR rows).length : Int))) by omega)
      generalize dpAt rows 0 % (8 * (12 + ((dfR rows).length : Int))) = a at m1 m2 ⊢
      have m3 : 0 ≤ dpAt rows 4 % 64 := by omega
      have m4 : dpAt rows 4 % 64 < 64 := by omega
      generalize dpAt rows 4 % 64 = a4 at m3 m4 ⊢
      have hm : (1 + 2 * ((dpAt rows 1 * 10000 + dpAt rows 2) * 20 + dpAt rows 3 % 20)) % 2 = 1 := by omega
      generalize 1 + 2 * ((dpAt rows 1 * 10000 + dpAt rows 2) * 20 + dpAt rows 3 % 20) = m at hm ⊢
      have f1 := frame_bent (dfP rows) (dfR rows) (List.replicate (Int.toNat 60) 113) hr a m m1 m2 hm
      have tl := turnOf_len (sizedOf (dfP rows) (dfR rows).length ++ (dfR rows ++ fixOf (crcMore 0 (dfR rows) : Nat) 4)) a m
      rw [hlen] at tl
      have tl4 := turnOf_len (sizedOf (dfP rows) (4294967295 : Nat)) a4 m
      rw [hml] at tl4
      have hbn := fun n' => head_bent (dfP rows) 4294967295 n' (by omega) [] a4 m m3 m4 hm
      rw [List.append_nil] at hbn
      have f2 : rfOk 2 (dfP rows) (turnOf (sizedOf (dfP rows) (4294967295 : Nat)) a4 m ++ List.replicate (Int.toNat 60) 113) 0 = false := mark_none _ _ fun n hn => by
        rw [List.take_append_of_le_length (by rw [tl4]; omega)]
        exact hbn n
      have f3 : rfOk 2 (dfP rows) (sizedOf (dfP rows) (4294967295 : Nat) ++ List.replicate (Int.toNat 60) 113) 0 = false := mark_none _ _ fun n hn he => by
        rw [List.take_left' hml] at he
        have := sized_inj _ _ _ (by omega) (by omega) he
        omega
      have f4 := mark_own (dfP rows) hp
      have f5 : markAt 2 (dfP rows) (turnOf (sizedOf (dfP rows) (4294967295 : Nat)) a4 m) 0 = false := by
        cases hh : markAt 2 (dfP rows) (turnOf (sizedOf (dfP rows) (4294967295 : Nat)) a4 m) 0 with
        | false => rfl
        | true => exact absurd (mark_is _ hp _ hh) (hbn 4294967295)
      have f6 : markAt 2 (dfP rows) (turnOf (sizedOf (dfP rows) (dfR rows).length ++ (dfR rows ++ fixOf (crcMore 0 (dfR rows) : Nat) 4)) a m) 0 = false := by
        cases hh : markAt 2 (dfP rows) (turnOf (sizedOf (dfP rows) (dfR rows).length ++ (dfR rows ++ fixOf (crcMore 0 (dfR rows) : Nat) 4)) a m) 0 with
        | false => rfl
        | true =>
          have h8 := mark_is _ hp _ hh
          by_cases h64 : a < 64
          · exact absurd h8 (head_bent (dfP rows) (dfR rows).length 4294967295 (by omega) _ a m m1 h64 hm)
          · have hs := sized_len (dfP rows) (dfR rows).length (by omega)
            rw [turn_app _ _ a m (by rw [hs]; omega), List.take_left' hs] at h8
            have := sized_inj _ _ _ (by omega) (by omega) h8
            omega
      generalize turnOf (sizedOf (dfP rows) (dfR rows).length ++ (dfR rows ++ fixOf (crcMore 0 (dfR rows) : Nat) 4)) a m = bent at f1 f6 tl ⊢
      generalize turnOf (sizedOf (dfP rows) (4294967295 : Nat)) a4 m = torn at f2 f5 tl4 ⊢
      generalize sizedOf (dfP rows) (4294967295 : Nat) = mk at f3 f4 hml ⊢
      have l60 : (List.replicate (Int.toNat 60) (113 : UInt8)).length = 60 := by rw [List.length_replicate]; rfl
      have i1 : (decide (-9223372036854775808 ≤ (0 : Int)) && decide ((0 : Int) ≤ 9223372036854775807)) = true := rfl
      refine must_go (decide_eq_true (by omega)) (must_go rfl (must_go rfl (ask_no ?q1 (ask_no ?q2 (must_go hok (must_go rfl (must_go rfl (must_go rfl (must_go rfl (must_go rfl (must_go rfl (must_go rfl (must_go rfl (must_go rfl (must_go (decide_eq_true (by omega)) (must_go ?q3 (must_go rfl (must_go rfl (must_go rfl (must_go ?q4 (must_go rfl ?q5)))))))))))))))))))))
      case q1 => simp
      case q2 => rfl
      case q3 => rw [decide_eq_true (show 12 + (dfR rows).length ≤ 1048576 by omega), decide_eq_true (show -9223372036854775808 ≤ a by omega), decide_eq_true (show a ≤ 9223372036854775807 by omega)]; rfl
      case q4 => rw [decide_eq_true (show -9223372036854775808 ≤ a4 by omega), decide_eq_true (show a4 ≤ 9223372036854775807 by omega)]; rfl
      case q5 =>
        refine must_go (decide_eq_true (by omega)) (must_go ?q6 (must_go rfl (ask_no f1 (must_go (decide_eq_true (by omega)) (must_go ?q7 (must_go rfl (ask_no f2 (must_go (decide_eq_true (by omega)) (must_go ?q8 (must_go rfl (ask_no f3 (must_go (decide_eq_true (by omega)) (must_go rfl (ask_yes f4 (must_go (decide_eq_true (by omega)) (must_go rfl (ask_no f5 (must_go (decide_eq_true (by omega)) (must_go rfl (ask_no f6 rfl))))))))))))))))))))
        case q6 => rw [List.length_append, l60, tl, i1, decide_eq_true (show 12 + (dfR rows).length + 60 ≤ 281474976710656 by omega)]; rfl
        case q7 => rw [List.length_append, l60, tl4, i1]; rfl
        case q8 => rw [List.length_append, l60, hml, i1]; rfl
  · cases h

end Go.Proofs.Ythpcgbnochcbcaa.V
