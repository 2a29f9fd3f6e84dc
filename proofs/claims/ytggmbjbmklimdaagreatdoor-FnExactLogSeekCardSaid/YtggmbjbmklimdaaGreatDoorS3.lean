/- Functions of the given program and of its reference: what each returns, as an equation over data; by the interpreter. -/
import Derived.Test.YtggmbjbmklimdaaGreatDoorS2
import Derived.Test.YtggmbjbmklimdaaGreatDoorProg
import Derived.KernelRfl
set_option linter.unusedVariables false
set_option linter.unusedSimpArgs false
set_option linter.unusedSectionVars false
set_option linter.deprecated false
namespace Go.Proofs.YtggmbjbmklimdaaGreatDoor.V
noncomputable section

def lost (a b : Nat) : Int := if b ≤ a then ((a - b : Nat) : Int) else 0
def recsOf (ns es : List (List C)) : List (List UInt8) := lkRecs (chain (nds ns) (ens es))
def lostSpec : Spec := fun cs => match cs with
  | [.sl n1, .sl e1, .sl _, .sl _, .int .i64 _, .int .i64 _, .sl n2, .sl e2, .sl _, .sl _, .int .i64 _, .int .i64 _] => some (dkOk n1 e1 && dkOk n2 e2, [.int .i64 (lost (recsOf n1 e1).length (recsOf n2 e2).length)])
  | _ => none
def lostLaw : Spec := fun cs => match cs with
  | [.sl n1, .sl e1, .sl o1, .sl s1, .int .i64 _, .int .i64 _, .sl n2, .sl e2, .sl o2, .sl s2, .int .i64 _, .int .i64 _] => some (lawDisk n1 e1 o1 s1 && lawDisk n2 e2 o2 s2, [.bool true])
  | _ => none

def getOk (n : Nat) (i : Int) : Bool := decide (0 ≤ i) && decide (i < n)
def getRec (l : List (List UInt8)) (i : Int) : List UInt8 := if getOk l.length i then l.getD i.toNat [] else []
def getCode (n : Nat) (i : Int) : Int := if getOk n i then 0 else 1
def logGetSpec : Spec := fun cs => match cs with
  | [.sl n1, .sl e1, .sl _, .sl _, .int .i64 _, .int .i64 _, .int .i64 i] => some (dkOk n1 e1, [.str (getRec (recsOf n1 e1) i), .int .i64 (getCode (recsOf n1 e1).length i)])
  | _ => none
def diskIntLaw : Spec := fun cs => match cs with
  | [.sl ns, .sl es, .sl os, .sl ss, .int .i64 _, .int .i64 _, .int .i64 i] => some (lawDisk ns es os ss && (decide (-9223372036854775808 ≤ i) && decide (i ≤ 9223372036854775807)), [.bool true])
  | _ => none

def E_sLogGet : Env := mkE [] [(105, (sg [pI, pI, pI] [rB]), inSpec), (91, (sg [pDisk] [rSl 9]), rowOfSpec)]

end
end Go.Proofs.YtggmbjbmklimdaaGreatDoor.V

namespace Go.Proofs.YtggmbjbmklimdaaGreatDoor.V
set_option maxRecDepth 100000
theorem sLogGet_tree (H : List Pt → Nat → St → T (List C)) (ns : List (List C)) (es : List (List C)) (os : List (List C)) (ss : List (List C)) (r : Int) (x : Int) (i : Int) : (vBodyL E_sLogGet noInl (sg [pDisk, pI] [rS, rI]) Tryz.f120 H
  [C.sl ns, C.sl es, C.sl os, C.sl ss, C.int IntKind.i64 r, C.int IntKind.i64 x, C.int IntKind.i64 i]).eval =
 ((.must (dkOk ns es)
 (.must ((true && (List.map eStr (lkRecs (chain (nds ns) (ens es)))).all fun row => decide (row.length = (1 : Nat))) && true &&
    true &&
  true)
  (.ask (inB i (0 : Int) (IntKind.i64.wrap ((↑(List.map eStr (lkRecs (chain (nds ns) (ens es)))).length : Int) - (1 : Int))))
   (.must (decide ((0 : Int) ≤ i) && decide (i < (↑(List.map eStr (lkRecs (chain (nds ns) (ens es)))).length : Int)))
    (.must (decide ((0 : Nat) + i.toNat < (List.map eStr (lkRecs (chain (nds ns) (ens es)))).length) &&
  (decide ((0 : Nat) < ((List.map eStr (lkRecs (chain (nds ns) (ens es)))).getD ((0 : Nat) + i.toNat) []).length) &&
      C.is K.str
        (((List.map eStr (lkRecs (chain (nds ns) (ens es)))).getD ((0 : Nat) + i.toNat) []).getD (0 : Nat)
          (C.fn (0 : FuncId) [])) &&
    true))
     (.ret [C.str
    (((List.map eStr (lkRecs (chain (nds ns) (ens es)))).getD ((0 : Nat) + i.toNat) []).getD (0 : Nat)
        (C.fn (0 : FuncId) [])).toStr,
  C.int IntKind.i64 (0 : Int)])))
   (.ret [C.str [], C.int IntKind.i64 (1 : Int)])))) : T (List C)).eval := evalEq (by kernel_rfl)
end Go.Proofs.YtggmbjbmklimdaaGreatDoor.V

namespace Go.Proofs.YtggmbjbmklimdaaGreatDoor.V

theorem recs_len {ns es : List (List C)} (h : dkOk ns es = true) : (recsOf ns es).length ≤ 16777216 := by
  have h1 := lkRecs_len (chain (nds ns) (ens es)) (chain_text h)
  have h2 := chainGo_len (nds ns) (ens es) 16 0 0
  unfold chain at h1
  unfold recsOf chain
  omega
theorem recs_60 (ns es : List (List C)) : ∀ r ∈ recsOf ns es, r.length ≤ 60 := fun r hr => by
  unfold recsOf lkRecs at hr
  obtain ⟨x, _, hx⟩ := List.mem_flatMap.1 hr
  exact (scan_facts x.2).2.2 r hx

theorem inB_get (n : Nat) (i : Int) (h : n ≤ 16777216) : inB i 0 (IntKind.i64.wrap ((n : Int) - 1)) = getOk n i := by
  have w : IntKind.i64.wrap ((n : Int) - 1) = (n : Int) - 1 := by rw [wrap64] <;> omega
  rw [w]
  unfold inB getOk
  congr 1
  by_cases hi : i < n
  · rw [decide_eq_true hi, decide_eq_true (by omega)]
  · rw [decide_eq_false hi, decide_eq_false (by omega)]
theorem getOk_iff (n : Nat) (i : Int) : getOk n i = true ↔ 0 ≤ i ∧ i < n := by simp [getOk]

theorem sLogGet_E : EnvSound Tryz.prog E_sLogGet := mkE_sound (by simp [sIn_sound, sRowOf_sound])
theorem sLogGet_sound : Sound Tryz.prog 120 (sg [pDisk, pI] [rS, rI]) logGetSpec := vBody_sound sLogGet_E noInl_ok Tryz.func120 (by kernel_rfl) fun cs outs hk h => by
  unfold logGetSpec at h
  split at h
  · simp only [Option.some.injEq, Prod.mk.injEq] at h
    obtain ⟨h1, rfl⟩ := h
    rename_i ns es os ss r x i
    have l1 := recs_len h1
    rw [vBody_L, sLogGet_tree]
    have e1' : lkRecs (chain (nds ns) (ens es)) = recsOf ns es := rfl
    rw [e1']
    generalize recsOf ns es = a at l1 ⊢
    unfold getRec getCode
    simp only [eval_must', eval_ask', eval_ret', h1, rows1, decide_true, Bool.and_self, if_true, List.length_map, inB_get a.length i l1]
    by_cases hg : getOk a.length i = true
    · obtain ⟨c1, c2⟩ := (getOk_iff _ _).1 hg
      have hi : i.toNat < a.length := by omega
      have g := map_getD eStr a [] i.toNat hi
      simp only [hg, c1, c2, hi, if_true, Nat.zero_add, g, List.getD_cons_zero, C.toStr, C.is, List.length_cons, List.length_nil, Nat.zero_lt_succ, decide_true, Bool.and_self]
    · simp only [hg, Bool.false_eq_true, if_false]
  · cases h

end Go.Proofs.YtggmbjbmklimdaaGreatDoor.V

namespace Go.Proofs.YtggmbjbmklimdaaGreatDoor.V
noncomputable section

def scanAt (base n i : Int) : Int := if base ≤ i ∧ i ≤ base + n - 1 then i - base else -1
def scanAtSpec : Spec := fun cs => match cs with
  | [.bool _, .int .i64 _, .int .i64 _, .int .i64 base, .int .i64 _, .sl rs, .sl _, .int .i64 _, .bool _, .int .i64 i] => some (decide (0 ≤ base) && decide (base ≤ 4294967296) && decide (rs.length ≤ 16777216), [.int .i64 (scanAt base rs.length i)])
  | _ => none
/-- the file of a chain that has a record -/
def fileGo : List Lk → Int → Option Lk
  | [], _ => none
  | x :: r, i => if 0 ≤ scanAt (ifI (readHeadOk x.2) (rhB x.2)) (scRecs x.2).length i then some x else fileGo r i
def fileLk (c : List Lk) (i : Int) : Lk := (fileGo c i).getD (0, [])
def fileHas (c : List Lk) (i : Int) : Bool := (fileGo c i).isSome
def fBase (x : Lk) : Int := x.1
def fText (x : Lk) : List UInt8 := x.2
def pScan : PTy := .val true [.bool, .int .i64, .int .i64, .int .i64, .int .i64, .slice 9, .slice 3, .int .i64, .bool]
def rLink : RTy := ⟨true, [(.int .i64, false), (.str, false), (.bool, false), (.int .i64, false), (.int .i64, false), (.int .i64, false), (.int .i64, false), (.slice 9, false), (.slice 3, false), (.int .i64, false), (.bool, false)]⟩
abbrev oLk (x : Lk) : List C := [.int .i64 (fBase x), .str (fText x), .bool (readHeadOk (fText x)), .int .i64 (ifI (readHeadOk (fText x)) (rhV (fText x))), .int .i64 (ifI (readHeadOk (fText x)) (rhS (fText x))), .int .i64 (ifI (readHeadOk (fText x)) (rhB (fText x))), .int .i64 (ifI (readHeadOk (fText x)) (rhL (fText x))),
  .sl ((scRecs (fText x)).map eStr), .sl ((scOffs (fText x)).map eInt), .int .i64 (scEnd (fText x)), .bool (scMark (fText x))]
def fileOfSpec : Spec := fun cs => match cs with
  | [.sl ns, .sl es, .sl _, .sl _, .int .i64 _, .int .i64 _, .int .i64 i] => some (dkOk ns es, oLk (fileLk (chain (nds ns) (ens es)) i) ++ [.bool (fileHas (chain (nds ns) (ens es)) i)])
  | _ => none
def fileBase (c : List Lk) (i : Int) : Int := if fileHas c i then fBase (fileLk c i) else -1
def fileNoSpec : Spec := fun cs => match cs with
  | [.sl ns, .sl es, .sl _, .sl _, .int .i64 _, .int .i64 _, .int .i64 i] => some (dkOk ns es, [.int .i64 (fileBase (chain (nds ns) (ens es)) i)])
  | _ => none
def H_fileOfF (i : Int) (n : Nat) (l : List (List C)) (k j : Int) : St := { slots := [(1, int64 i), (4, .l (.ptr 0 0)), (9, .l (.ref 1 0 n)), (10, int64 k), (11, int64 j)], heap := [(0, .box [.i .i64 0, .s [], .b false, .i .i64 0, .i .i64 0, .i .i64 0, .i .i64 0, .nil, .nil, .i .i64 0, .b false]), (1, .arr 11 l)], next := 2, pins := [] }
def H_sFileOf (i out : Int) (n : Nat) (l : List (List C)) (k : Int) : St := st1 [(1, int64 i), (7, int64 out), (8, .l (.ref 0 0 n)), (9, int64 k)] 1 l
def E_scanAtF : Env := mkE [] [(125, (sg [pI, pI, pI] [rB]), inSpec)]
def E_fileOfF : Env := mkE [(2, [1, 4, 9, 10, 11])] [(108, (⟨[pDisk], [rSl 79], true⟩), linksSpec), (53, (sg [pScan, pI] [rI]), scanAtSpec)]
def E_sFileOf : Env := mkE [(7, [1, 7, 8, 9])] [(100, (sg [pDisk] [rSl 3]), basesSpec), (120, (sg [pDisk, pI] [rS, rI]), logGetSpec)]

end
end Go.Proofs.YtggmbjbmklimdaaGreatDoor.V

namespace Go.Proofs.YtggmbjbmklimdaaGreatDoor.V
set_option maxRecDepth 100000
theorem scanAtF_tree (H : List Pt → Nat → St → T (List C)) (ok : Bool) (v : Int) (s : Int) (b : Int) (l : Int) (rs : List (List C)) (os : List (List C)) (e : Int) (mk : Bool) (i : Int) : (vBodyL E_scanAtF noInl (sg [pScan, pI] [rI]) Tryz.f53 H
  [C.bool ok, C.int IntKind.i64 v, C.int IntKind.i64 s, C.int IntKind.i64 b, C.int IntKind.i64 l, C.sl rs, C.sl os,
    C.int IntKind.i64 e, C.bool mk, C.int IntKind.i64 i]).eval =
 ((.ask (inB i b (IntKind.i64.wrap (IntKind.i64.wrap (b + (↑rs.length : Int)) - (1 : Int))))
 (.ret [C.int IntKind.i64 (IntKind.i64.wrap (i - b))])
 (.ret [C.int IntKind.i64 (-1 : Int)])) : T (List C)).eval := evalEq (by kernel_rfl)
theorem fileOfF_tree (H : List Pt → Nat → St → T (List C)) (ns : List (List C)) (es : List (List C)) (os : List (List C)) (ss : List (List C)) (r : Int) (x : Int) (i : Int) : (vBodyL E_fileOfF noInl { params := [pDisk, pI], results := [rLink, rB], nested := true } Tryz.f51 H
  [C.sl ns, C.sl es, C.sl os, C.sl ss, C.int IntKind.i64 r, C.int IntKind.i64 x, C.int IntKind.i64 i]).eval =
 ((.must (dkOk ns es)
 (.must ((true && (lkRows (chain (nds ns) (ens es))).all fun row => decide (row.length = (11 : Nat))) && true && true && true)
  (H [Pt.r, Pt.l, Pt.r, Pt.b] (9223372036854775808 : Nat) (H_fileOfF (i) ((lkRows (chain (nds ns) (ens es))).length) (lkRows (chain (nds ns) (ens es))) ((↑(lkRows (chain (nds ns) (ens es))).length : Int)) ((0 : Int)))))) : T (List C)).eval := evalEq (by kernel_rfl)
theorem fileOfF_round0 (H : List Pt → Nat → St → T (List C)) (i : Int) (n : Nat) (l : List (List C)) (k2 : Int) (j : Int) (k : Nat) : (vRound E_fileOfF noInl { params := [pDisk, pI], results := [rLink, rB], nested := true } Tryz.f51 H
  [Pt.r, Pt.l, Pt.r, Pt.b] k (H_fileOfF i n l k2 j)).eval =
 ((.ask (decide (j < k2))
 (.must (decide ((0 : Int) ≤ j) && decide (j < (↑n : Int)))
  (.must (decide ((0 : Nat) + j.toNat < l.length) &&
  (decide ((0 : Nat) < (l.getD ((0 : Nat) + j.toNat) []).length) &&
      C.is (K.int IntKind.i64) ((l.getD ((0 : Nat) + j.toNat) []).getD (0 : Nat) (C.fn (0 : FuncId) [])) &&
    (decide ((0 : Nat) + (1 : Nat) < (l.getD ((0 : Nat) + j.toNat) []).length) &&
        C.is K.str ((l.getD ((0 : Nat) + j.toNat) []).getD ((0 : Nat) + (1 : Nat)) (C.fn (0 : FuncId) [])) &&
      (decide ((0 : Nat) + (1 : Nat) + (1 : Nat) < (l.getD ((0 : Nat) + j.toNat) []).length) &&
          C.is K.bool
            ((l.getD ((0 : Nat) + j.toNat) []).getD ((0 : Nat) + (1 : Nat) + (1 : Nat)) (C.fn (0 : FuncId) [])) &&
        (decide ((0 : Nat) + (1 : Nat) + (1 : Nat) + (1 : Nat) < (l.getD ((0 : Nat) + j.toNat) []).length) &&
            C.is (K.int IntKind.i64)
              ((l.getD ((0 : Nat) + j.toNat) []).getD ((0 : Nat) + (1 : Nat) + (1 : Nat) + (1 : Nat))
                (C.fn (0 : FuncId) [])) &&
          (decide
                ((0 : Nat) + (1 : Nat) + (1 : Nat) + (1 : Nat) + (1 : Nat) <
                  (l.getD ((0 : Nat) + j.toNat) []).length) &&
              C.is (K.int IntKind.i64)
                ((l.getD ((0 : Nat) + j.toNat) []).getD ((0 : Nat) + (1 : Nat) + (1 : Nat) + (1 : Nat) + (1 : Nat))
                  (C.fn (0 : FuncId) [])) &&
            (decide
                  ((0 : Nat) + (1 : Nat) + (1 : Nat) + (1 : Nat) + (1 : Nat) + (1 : Nat) <
                    (l.getD ((0 : Nat) + j.toNat) []).length) &&
                C.is (K.int IntKind.i64)
                  ((l.getD ((0 : Nat) + j.toNat) []).getD
                    ((0 : Nat) + (1 : Nat) + (1 : Nat) + (1 : Nat) + (1 : Nat) + (1 : Nat)) (C.fn (0 : FuncId) [])) &&
              (decide
                    ((0 : Nat) + (1 : Nat) + (1 : Nat) + (1 : Nat) + (1 : Nat) + (1 : Nat) + (1 : Nat) <
                      (l.getD ((0 : Nat) + j.toNat) []).length) &&
                  C.is (K.int IntKind.i64)
                    ((l.getD ((0 : Nat) + j.toNat) []).getD
                      ((0 : Nat) + (1 : Nat) + (1 : Nat) + (1 : Nat) + (1 : Nat) + (1 : Nat) + (1 : Nat))
                      (C.fn (0 : FuncId) [])) &&
                (decide
                      ((0 : Nat) + (1 : Nat) + (1 : Nat) + (1 : Nat) + (1 : Nat) + (1 : Nat) + (1 : Nat) + (1 : Nat) <
                        (l.getD ((0 : Nat) + j.toNat) []).length) &&
                    C.is (K.slice (9 : TypeId))
                      ((l.getD ((0 : Nat) + j.toNat) []).getD
                        ((0 : Nat) + (1 : Nat) + (1 : Nat) + (1 : Nat) + (1 : Nat) + (1 : Nat) + (1 : Nat) + (1 : Nat))
                        (C.fn (0 : FuncId) [])) &&
                  (decide
                        ((0 : Nat) + (1 : Nat) + (1 : Nat) + (1 : Nat) + (1 : Nat) + (1 : Nat) + (1 : Nat) + (1 : Nat) +
                            (1 : Nat) <
                          (l.getD ((0 : Nat) + j.toNat) []).length) &&
                      C.is (K.slice (3 : TypeId))
                        ((l.getD ((0 : Nat) + j.toNat) []).getD
                          ((0 : Nat) + (1 : Nat) + (1 : Nat) + (1 : Nat) + (1 : Nat) + (1 : Nat) + (1 : Nat) +
                              (1 : Nat) +
                            (1 : Nat))
                          (C.fn (0 : FuncId) [])) &&
                    (decide
                          ((0 : Nat) + (1 : Nat) + (1 : Nat) + (1 : Nat) + (1 : Nat) + (1 : Nat) + (1 : Nat) +
                                  (1 : Nat) +
                                (1 : Nat) +
                              (1 : Nat) <
                            (l.getD ((0 : Nat) + j.toNat) []).length) &&
                        C.is (K.int IntKind.i64)
                          ((l.getD ((0 : Nat) + j.toNat) []).getD
                            ((0 : Nat) + (1 : Nat) + (1 : Nat) + (1 : Nat) + (1 : Nat) + (1 : Nat) + (1 : Nat) +
                                  (1 : Nat) +
                                (1 : Nat) +
                              (1 : Nat))
                            (C.fn (0 : FuncId) [])) &&
                      (decide
                            ((0 : Nat) + (1 : Nat) + (1 : Nat) + (1 : Nat) + (1 : Nat) + (1 : Nat) + (1 : Nat) +
                                      (1 : Nat) +
                                    (1 : Nat) +
                                  (1 : Nat) +
                                (1 : Nat) <
                              (l.getD ((0 : Nat) + j.toNat) []).length) &&
                          C.is K.bool
                            ((l.getD ((0 : Nat) + j.toNat) []).getD
                              ((0 : Nat) + (1 : Nat) + (1 : Nat) + (1 : Nat) + (1 : Nat) + (1 : Nat) + (1 : Nat) +
                                      (1 : Nat) +
                                    (1 : Nat) +
                                  (1 : Nat) +
                                (1 : Nat))
                              (C.fn (0 : FuncId) [])) &&
                        true))))))))))))
   (.must (decide
      ((0 : Int) ≤
        ((l.getD ((0 : Nat) + j.toNat) []).getD ((0 : Nat) + (1 : Nat) + (1 : Nat) + (1 : Nat) + (1 : Nat) + (1 : Nat))
            (C.fn (0 : FuncId) [])).toInt) &&
    decide
      (((l.getD ((0 : Nat) + j.toNat) []).getD ((0 : Nat) + (1 : Nat) + (1 : Nat) + (1 : Nat) + (1 : Nat) + (1 : Nat))
            (C.fn (0 : FuncId) [])).toInt ≤
        (4294967296 : Int)) &&
  decide
    (((l.getD ((0 : Nat) + j.toNat) []).getD
            ((0 : Nat) + (1 : Nat) + (1 : Nat) + (1 : Nat) + (1 : Nat) + (1 : Nat) + (1 : Nat) + (1 : Nat))
            (C.fn (0 : FuncId) [])).toRows.length ≤
      (16777216 : Nat)))
    (.ask (decide
  ((0 : Int) ≤
    scanAt
      ((l.getD ((0 : Nat) + j.toNat) []).getD ((0 : Nat) + (1 : Nat) + (1 : Nat) + (1 : Nat) + (1 : Nat) + (1 : Nat))
          (C.fn (0 : FuncId) [])).toInt
      (↑((l.getD ((0 : Nat) + j.toNat) []).getD
                ((0 : Nat) + (1 : Nat) + (1 : Nat) + (1 : Nat) + (1 : Nat) + (1 : Nat) + (1 : Nat) + (1 : Nat))
                (C.fn (0 : FuncId) [])).toRows.length :
        Int)
      i))
     (.ret [C.int IntKind.i64 ((l.getD ((0 : Nat) + j.toNat) []).getD (0 : Nat) (C.fn (0 : FuncId) [])).toInt,
  C.str ((l.getD ((0 : Nat) + j.toNat) []).getD ((0 : Nat) + (1 : Nat)) (C.fn (0 : FuncId) [])).toStr,
  C.bool ((l.getD ((0 : Nat) + j.toNat) []).getD ((0 : Nat) + (1 : Nat) + (1 : Nat)) (C.fn (0 : FuncId) [])).toBool,
  C.int IntKind.i64
    ((l.getD ((0 : Nat) + j.toNat) []).getD ((0 : Nat) + (1 : Nat) + (1 : Nat) + (1 : Nat))
        (C.fn (0 : FuncId) [])).toInt,
  C.int IntKind.i64
    ((l.getD ((0 : Nat) + j.toNat) []).getD ((0 : Nat) + (1 : Nat) + (1 : Nat) + (1 : Nat) + (1 : Nat))
        (C.fn (0 : FuncId) [])).toInt,
  C.int IntKind.i64
    ((l.getD ((0 : Nat) + j.toNat) []).getD ((0 : Nat) + (1 : Nat) + (1 : Nat) + (1 : Nat) + (1 : Nat) + (1 : Nat))
        (C.fn (0 : FuncId) [])).toInt,
  C.int IntKind.i64
    ((l.getD ((0 : Nat) + j.toNat) []).getD
        ((0 : Nat) + (1 : Nat) + (1 : Nat) + (1 : Nat) + (1 : Nat) + (1 : Nat) + (1 : Nat))
        (C.fn (0 : FuncId) [])).toInt,
  C.sl
    ((l.getD ((0 : Nat) + j.toNat) []).getD
        ((0 : Nat) + (1 : Nat) + (1 : Nat) + (1 : Nat) + (1 : Nat) + (1 : Nat) + (1 : Nat) + (1 : Nat))
        (C.fn (0 : FuncId) [])).toRows,
  C.sl
    ((l.getD ((0 : Nat) + j.toNat) []).getD
        ((0 : Nat) + (1 : Nat) + (1 : Nat) + (1 : Nat) + (1 : Nat) + (1 : Nat) + (1 : Nat) + (1 : Nat) + (1 : Nat))
        (C.fn (0 : FuncId) [])).toRows,
  C.int IntKind.i64
    ((l.getD ((0 : Nat) + j.toNat) []).getD
        ((0 : Nat) + (1 : Nat) + (1 : Nat) + (1 : Nat) + (1 : Nat) + (1 : Nat) + (1 : Nat) + (1 : Nat) + (1 : Nat) +
          (1 : Nat))
        (C.fn (0 : FuncId) [])).toInt,
  C.bool
    ((l.getD ((0 : Nat) + j.toNat) []).getD
        ((0 : Nat) + (1 : Nat) + (1 : Nat) + (1 : Nat) + (1 : Nat) + (1 : Nat) + (1 : Nat) + (1 : Nat) + (1 : Nat) +
            (1 : Nat) +
          (1 : Nat))
        (C.fn (0 : FuncId) [])).toBool,
  C.bool true])
     (H [Pt.r, Pt.l, Pt.r, Pt.b] k (H_fileOfF (i) (n) (l) (k2) (IntKind.i64.wrap (j + (1 : Int)))))))))
 (.ret [C.int IntKind.i64 (0 : Int), C.str [], C.bool false, C.int IntKind.i64 (0 : Int), C.int IntKind.i64 (0 : Int),
  C.int IntKind.i64 (0 : Int), C.int IntKind.i64 (0 : Int), C.sl [], C.sl [], C.int IntKind.i64 (0 : Int), C.bool false,
  C.bool false])) : T (List C)).eval := evalEq (by kernel_rfl)
theorem sFileOf_tree (H : List Pt → Nat → St → T (List C)) (ns : List (List C)) (es : List (List C)) (os : List (List C)) (ss : List (List C)) (r : Int) (x : Int) (i : Int) : (vBodyL E_sFileOf noInl (sg [pDisk, pI] [rI]) Tryz.f45 H
  [C.sl ns, C.sl es, C.sl os, C.sl ss, C.int IntKind.i64 r, C.int IntKind.i64 x, C.int IntKind.i64 i]).eval =
 ((.must (dkOk ns es)
 (.ask (getCode (recsOf ns es).length i != (0 : Int))
  (.ret [C.int IntKind.i64 (-1 : Int)])
  (.must (dkOk ns es)
   (.must ((true && (lkBases (chain (nds ns) (ens es))).all fun row => decide (row.length = (1 : Nat))) && true && true && true)
    (H [Pt.r, Pt.r, Pt.r, Pt.r, Pt.l, Pt.r, Pt.b] (9223372036854775808 : Nat) (H_sFileOf (i) ((-1 : Int)) ((lkBases (chain (nds ns) (ens es))).length) (lkBases (chain (nds ns) (ens es))) ((0 : Int)))))))) : T (List C)).eval := evalEq (by kernel_rfl)
theorem sFileOf_round0 (H : List Pt → Nat → St → T (List C)) (i : Int) (out : Int) (n : Nat) (l : List (List C)) (k2 : Int) (k : Nat) : (vRound E_sFileOf noInl (sg [pDisk, pI] [rI]) Tryz.f45 H [Pt.r, Pt.r, Pt.r, Pt.r, Pt.l, Pt.r, Pt.b] k
  (H_sFileOf i out n l k2)).eval =
 ((.ask (decide (k2 < (↑n : Int)))
 (.must (decide ((0 : Int) ≤ k2) && decide (k2 < (↑n : Int)))
  (.must (decide ((0 : Nat) + k2.toNat < l.length) &&
  (decide ((0 : Nat) < (l.getD ((0 : Nat) + k2.toNat) []).length) &&
      C.is (K.int IntKind.i64) ((l.getD ((0 : Nat) + k2.toNat) []).getD (0 : Nat) (C.fn (0 : FuncId) [])) &&
    true))
   (.ask (decide (((l.getD ((0 : Nat) + k2.toNat) []).getD (0 : Nat) (C.fn (0 : FuncId) [])).toInt ≤ i))
    (.must (decide ((0 : Int) ≤ k2) && decide (k2 < (↑n : Int)))
     (.must (decide ((0 : Nat) + k2.toNat < l.length) &&
  (decide ((0 : Nat) < (l.getD ((0 : Nat) + k2.toNat) []).length) &&
      C.is (K.int IntKind.i64) ((l.getD ((0 : Nat) + k2.toNat) []).getD (0 : Nat) (C.fn (0 : FuncId) [])) &&
    true))
      (H [Pt.r, Pt.r, Pt.r, Pt.r, Pt.l, Pt.r, Pt.b] k (H_sFileOf (i) (((l.getD ((0 : Nat) + k2.toNat) []).getD (0 : Nat) (C.fn (0 : FuncId) [])).toInt) (n) (l) (IntKind.i64.wrap (k2 + (1 : Int)))))))
    (H [Pt.r, Pt.r, Pt.r, Pt.r, Pt.l, Pt.r, Pt.b] k (H_sFileOf (i) (out) (n) (l) (IntKind.i64.wrap (k2 + (1 : Int))))))))
 (.ret [C.int IntKind.i64 out])) : T (List C)).eval := evalEq (by kernel_rfl)
end Go.Proofs.YtggmbjbmklimdaaGreatDoor.V

namespace Go.Proofs.YtggmbjbmklimdaaGreatDoor.V

theorem head_base {b : List UInt8} (h : readHeadOk b = true) : 0 ≤ rhB b ∧ rhB b ≤ 1000000000 := by
  have h24 : 24 ≤ b.length ∧ fixOk b 8 8 = true ∧ headText (rhV b) (rhS b) (rhB b) (rhL b) = b.take 24 := by
    unfold readHeadOk at h
    simpa [and_assoc] using h
  have ht := h24.2.2
  cases hk : headOk (rhV b) (rhS b) (rhB b) (rhL b) with
  | true => have := (headOk_iff _ _ _ _).1 hk; exact this.2.2.1
  | false =>
    unfold headText at ht
    rw [hk] at ht
    have := congrArg List.length ht
    simp at this
    omega
theorem ifI_base (b : List UInt8) : 0 ≤ ifI (readHeadOk b) (rhB b) ∧ ifI (readHeadOk b) (rhB b) ≤ 1000000000 := by
  unfold ifI
  split
  · exact head_base ‹_›
  · omega
/-- the files of a chain go on from one another -/
def Consec : List Lk → Int → Prop
  | [], _ => True
  | x :: r, b => x.1 = b ∧ readHeadOk x.2 = true ∧ rhB x.2 = b ∧ 0 < (scRecs x.2).length ∧ Consec r (b + (scRecs x.2).length)
theorem chainGo_consec (ns : List Nd) (es : List En) : ∀ (k : Nat) (base sum : Int), Consec (chainGo ns es k base sum) base
  | 0, _, _ => trivial
  | k + 1, base, sum => by
    simp only [chainGo]
    split
    · rename_i h
      simp only [Bool.and_eq_true, decide_eq_true_eq] at h
      have hg := h.1
      unfold goesOn at hg
      simp only [Bool.and_eq_true, decide_eq_true_eq] at hg
      exact ⟨rfl, hg.1.1, hg.1.2, Nat.pos_of_ne_zero h.2, chainGo_consec ns es k _ _⟩
    · trivial
def lastLe : List Lk → Int → Int → Int
  | [], _, out => out
  | x :: r, i, out => lastLe r i (if x.1 ≤ i then x.1 else out)
theorem scanAt_pos (b n i : Int) : 0 ≤ scanAt b n i ↔ b ≤ i ∧ i ≤ b + n - 1 := by
  unfold scanAt
  split
  · rename_i h; exact ⟨fun _ => h, fun _ => by omega⟩
  · rename_i h; exact ⟨fun hn => absurd hn (by decide), fun hh => absurd hh h⟩
theorem lastLe_low : ∀ (c : List Lk) (b i out : Int), Consec c b → i < b → lastLe c i out = out
  | [], _, _, _, _, _ => rfl
  | x :: r, b, i, out, h, hi => by
    obtain ⟨h1, h2, h3, h4, h5⟩ := h
    simp only [lastLe]
    rw [if_neg (by omega)]
    exact lastLe_low r _ i out h5 (by omega)
theorem lkRecs_cons (x : Lk) (r : List Lk) : (lkRecs (x :: r)).length = (scRecs x.2).length + (lkRecs r).length := by simp [lkRecs]
theorem file_in : ∀ (c : List Lk) (b i out : Int), Consec c b → b ≤ i → i < b + (lkRecs c).length → ∃ x, fileGo c i = some x ∧ lastLe c i out = x.1
  | [], b, i, _, _, h1, h2 => by simp [lkRecs] at h2; omega
  | x :: r, b, i, out, h, h1, h2 => by
    obtain ⟨a1, a2, a3, a4, a5⟩ := h
    rw [lkRecs_cons] at h2
    simp only [fileGo, lastLe, a2, ifI, if_true, a3, scanAt_pos]
    rw [if_pos (by omega : x.1 ≤ i)]
    by_cases hi : i < b + (scRecs x.2).length
    · rw [if_pos (by omega)]
      exact ⟨x, rfl, lastLe_low r _ i _ a5 hi⟩
    · rw [if_neg (by omega)]
      exact file_in r _ i _ a5 (by omega) (by omega)
theorem file_out : ∀ (c : List Lk) (b i : Int), Consec c b → (i < b ∨ b + (lkRecs c).length ≤ i) → fileGo c i = none
  | [], _, _, _, _ => rfl
  | x :: r, b, i, h, hi => by
    obtain ⟨a1, a2, a3, a4, a5⟩ := h
    rw [lkRecs_cons] at hi
    simp only [fileGo, a2, ifI, if_true, a3, scanAt_pos]
    rw [if_neg (by omega)]
    exact file_out r _ i a5 (by omega)
theorem scanAtF_E : EnvSound Tryz.prog E_scanAtF := mkE_sound (by simp [iIn_sound])
theorem scanAtF_sound : Sound Tryz.prog 53 (sg [pScan, pI] [rI]) scanAtSpec := vBody_sound scanAtF_E noInl_ok Tryz.func53 (by kernel_rfl) fun cs outs hk h => by
  unfold scanAtSpec at h
  split at h
  · simp only [Option.some.injEq, Prod.mk.injEq, Bool.and_eq_true, decide_eq_true_eq] at h
    obtain ⟨⟨⟨h1, h2⟩, h3⟩, rfl⟩ := h
    rename_i ok v s b l rs os e mk i
    rw [vBody_L, scanAtF_tree]
    have w1 : IntKind.i64.wrap (b + (rs.length : Int)) = b + rs.length := by rw [wrap64] <;> omega
    have w2 : IntKind.i64.wrap (b + (rs.length : Int) - 1) = b + rs.length - 1 := by rw [wrap64] <;> omega
    simp only [eval_ask', eval_ret', w1, w2, in_iff, scanAt]
    by_cases hc : b ≤ i ∧ i ≤ b + (rs.length : Int) - 1
    · have w3 : IntKind.i64.wrap (i - b) = i - b := by rw [wrap64] <;> omega
      simp only [hc, and_self, if_true, w3]
    · simp only [hc, if_false]
  · cases h
theorem fileOfF_loop (c : List Lk) (i : Int) (ht : ∀ y ∈ c, y.2.length ≤ 1048576) (hl : c.length ≤ 16) : ∀ (n j : Nat), j ≤ c.length → c.length < j + n →
    (vLoop E_fileOfF noInl (⟨[pDisk, pI], [rLink, rB], true⟩) Tryz.f51 [.r, .l, .r, .b] n (H_fileOfF i c.length (lkRows c) c.length j)).eval = some (oLk (fileLk (c.drop j) i) ++ [.bool (fileHas (c.drop j) i)]) := by
  intro n
  induction n with
  | zero => intro j h1 h2; omega
  | succ n ih =>
    intro j h1 h2
    rw [vLoop_L _ _ _ _ _ _ _ (by kernel_rfl), fileOfF_round0]
    by_cases hj : j < c.length
    · have g := get_lk c j hj
      have w : IntKind.i64.wrap ((j : Int) + 1) = ((j + 1 : Nat) : Int) := by rw [wrap64] <;> omega
      have hz : (0 : Int) ≤ j := by omega
      have hj' : (j : Int) < c.length := by omega
      have hm : c.getD j (0, []) ∈ c := by rw [List.getD_eq_getElem?_getD, List.getElem?_eq_getElem hj]; exact List.getElem_mem hj
      have hx := ht _ hm
      rw [drop_cons c j (0, []) hj]
      unfold fileLk fileHas
      simp only [fileGo]
      generalize c.getD j (0, []) = y at g hx ⊢
      obtain ⟨f1, f2, f3⟩ := scan_facts y.2
      have b1 := (ifI_base y.2).1
      have b2 : ifI (readHeadOk y.2) (rhB y.2) ≤ 4294967296 := by have := (ifI_base y.2).2; omega
      have b3 : (scRecs y.2).length ≤ 16777216 := by omega
      simp only [eval_must', eval_ask', eval_ret', if_true, decide_eq_true_eq, w, hz, hj', hj, Int.toNat_natCast, len_lk, Nat.zero_add, Nat.reduceAdd, Nat.reduceLT, g, b1, b2, b3, decide_true, Bool.and_self, List.getD_cons_zero, List.getD_cons_succ, C.toInt, C.toStr, C.toBool, C.toRows, C.is, List.length_cons, List.length_nil, Nat.zero_lt_succ, beq_self_eq_true, List.length_map]
      by_cases hs : 0 ≤ scanAt (ifI (readHeadOk y.2) (rhB y.2)) ((scRecs y.2).length : Int) i
      · simp only [hs, if_true]
        rfl
      · simp only [hs, if_false]
        exact ih (j + 1) (by omega) (by omega)
    · have e : j = c.length := by omega
      subst e
      have hi' : ¬ ((c.length : Int) < (c.length : Int)) := by omega
      simp only [eval_must', eval_ask', eval_ret', decide_eq_true_eq, hi', if_false, List.drop_length]
      rfl
theorem fileOfF_E : EnvSound Tryz.prog E_fileOfF := mkE_sound (by simp [linksF_sound, scanAtF_sound])
theorem fileOfF_sound : Sound Tryz.prog 51 (⟨[pDisk, pI], [rLink, rB], true⟩) fileOfSpec := vBody_sound fileOfF_E noInl_ok Tryz.func51 (by kernel_rfl) fun cs outs hk h => by
  unfold fileOfSpec at h
  split at h
  · simp only [Option.some.injEq, Prod.mk.injEq] at h
    obtain ⟨hd, rfl⟩ := h
    rename_i ns es os ss r x i
    rw [vBody_L, fileOfF_tree]
    have hb : ((lkRows (chain (nds ns) (ens es))).all fun row => decide (row.length = 11)) = true := by simp [lkRows]
    have lp := fileOfF_loop (chain (nds ns) (ens es)) i (chain_text hd) (chainGo_len _ _ _ _ _) 9223372036854775808 0 (by omega) (by have := chainGo_len (nds ns) (ens es) 16 0 0; unfold chain; omega)
    rw [← len_lk] at lp
    simp only [eval_must', hd, hb, decide_true, Bool.and_self, if_true]
    exact lp
  · cases h
theorem sFileOf_loop (c : List Lk) (i : Int) (hl : c.length ≤ 16) : ∀ (n j : Nat) (out : Int), j ≤ c.length → c.length < j + n →
    (vLoop E_sFileOf noInl (sg [pDisk, pI] [rI]) Tryz.f45 [.r, .r, .r, .r, .l, .r, .b] n (H_sFileOf i out c.length (lkBases c) j)).eval = some [.int .i64 (lastLe (c.drop j) i out)] := by
  intro n
  induction n with
  | zero => intro j out h1 h2; omega
  | succ n ih =>
    intro j out h1 h2
    rw [vLoop_L _ _ _ _ _ _ _ (by kernel_rfl), sFileOf_round0]
    by_cases hj : j < c.length
    · have g := get_base c j hj
      have w : IntKind.i64.wrap ((j : Int) + 1) = ((j + 1 : Nat) : Int) := by rw [wrap64] <;> omega
      have hz : (0 : Int) ≤ j := by omega
      have hj' : (j : Int) < c.length := by omega
      rw [drop_cons c j (0, []) hj]
      simp only [lastLe]
      generalize c.getD j (0, []) = y at g ⊢
      simp only [eval_must', eval_ask', eval_ret', if_true, decide_eq_true_eq, w, hz, hj', hj, Int.toNat_natCast, len_bases, Nat.zero_add, g, decide_true, Bool.and_self, List.getD_cons_zero, C.toInt, C.is, List.length_cons, List.length_nil, Nat.zero_lt_succ, beq_self_eq_true]
      by_cases hs : y.1 ≤ i
      · simp only [hs, if_true]
        exact ih (j + 1) _ (by omega) (by omega)
      · simp only [hs, if_false]
        exact ih (j + 1) _ (by omega) (by omega)
    · have e : j = c.length := by omega
      subst e
      have hi' : ¬ ((c.length : Int) < (c.length : Int)) := by omega
      simp only [eval_must', eval_ask', eval_ret', decide_eq_true_eq, hi', if_false, List.drop_length]
      rfl
theorem fileBase_eq (ns : List Nd) (es : List En) (i : Int) : fileBase (chain ns es) i = if getOk (lkRecs (chain ns es)).length i then lastLe (chain ns es) i (-1) else -1 := by
  have hc := chainGo_consec ns es 16 0 0
  unfold fileBase fileHas fileLk
  have hc' : Consec (chain ns es) 0 := hc
  generalize chain ns es = c at hc' ⊢
  by_cases hg : getOk (lkRecs c).length i = true
  · obtain ⟨g1, g2⟩ := (getOk_iff _ _).1 hg
    obtain ⟨x, e1, e2⟩ := file_in c 0 i (-1) hc' g1 (by omega)
    rw [hg, e1, if_pos rfl, e2]
    rfl
  · have : ¬ (0 ≤ i ∧ i < ((lkRecs c).length : Int)) := fun hh => hg ((getOk_iff _ _).2 hh)
    have e1 := file_out c 0 i hc' (by omega)
    rw [e1, if_neg hg]
    rfl
theorem sFileOf_E : EnvSound Tryz.prog E_sFileOf := mkE_sound (by simp [sChain_sound, sLogGet_sound])
theorem sFileOf_sound : Sound Tryz.prog 45 (sg [pDisk, pI] [rI]) fileNoSpec := vBody_sound sFileOf_E noInl_ok Tryz.func45 (by kernel_rfl) fun cs outs hk h => by
  unfold fileNoSpec at h
  split at h
  · simp only [Option.some.injEq, Prod.mk.injEq] at h
    obtain ⟨hd, rfl⟩ := h
    rename_i ns es os ss r x i
    rw [vBody_L, sFileOf_tree]
    have hb : ((lkBases (chain (nds ns) (ens es))).all fun row => decide (row.length = 1)) = true := by simp [lkBases]
    have lp := sFileOf_loop (chain (nds ns) (ens es)) i (chainGo_len _ _ _ _ _) 9223372036854775808 0 (-1) (by omega) (by have := chainGo_len (nds ns) (ens es) 16 0 0; unfold chain; omega)
    rw [← len_bases] at lp
    rw [fileBase_eq]
    have er : lkRecs (chain (nds ns) (ens es)) = recsOf ns es := rfl
    rw [er]
    unfold getCode
    by_cases hg : getOk (recsOf ns es).length i = true
    · simp only [eval_must', eval_ask', hd, hb, hg, decide_true, Bool.and_self, if_true, bne_self_eq_false, Bool.false_eq_true, if_false]
      exact lp
    · have hf : getOk (recsOf ns es).length i = false := by simpa using hg
      have h10 : ((1 : Int) != 0) = true := by decide
      simp only [eval_must', eval_ask', eval_ret', hd, hf, if_true, Bool.false_eq_true, if_false, h10]
  · cases h

end Go.Proofs.YtggmbjbmklimdaaGreatDoor.V
