/- Functions of the given program and of its reference: what each returns, as an equation over data; by the interpreter. -/
import Derived.Test.YtpjcnjefffakpaaGreatDoorS3
import Derived.Test.YtpjcnjefffakpaaGreatDoorProg
import Derived.KernelRfl
set_option linter.unusedVariables false
set_option linter.unusedSimpArgs false
set_option linter.unusedSectionVars false
set_option linter.deprecated false
namespace Go.Proofs.YtpjcnjefffakpaaGreatDoor.V
noncomputable section

def pScanT : PTy := .val true [.bool, .int .i64, .int .i64, .int .i64, .int .i64, .slice 9, .slice 3, .int .i64, .bool]
/-- where the frame i begins and ends, of these places and this end -/
def offFrom (os : List Int) (i : Int) : Int := os.getD i.toNat 0
def offTo (os : List Int) (e i : Int) : Int := if i + 1 < os.length then os.getD (i + 1).toNat 0 else e
def frameAtSpec : Spec := fun cs => match cs with
  | [.bool _, .int .i64 _, .int .i64 _, .int .i64 _, .int .i64 _, .sl _, .sl os, .int .i64 e, .bool _, .int .i64 i] => some (rowsOk [.int .i64] os && (decide (os.length ≤ 1048576) && (decide (0 ≤ i) && decide (i < os.length))), [.int .i64 (offFrom (ints os) i), .int .i64 (offTo (ints os) e i)])
  | _ => none
def frOk (b : List UInt8) (i : Int) : Bool := inB i 0 ((scOffs b).length - 1)
def frFrom (b : List UInt8) (i : Int) : Int := if frOk b i then offFrom (scOffs b) i else 0
def frTo (b : List UInt8) (i : Int) : Int := if frOk b i then offTo (scOffs b) (scEnd b) i else 0
def frameRangeSpec : Spec := fun cs => match cs with
  | [.str b, .int .i64 i] => some (decide (b.length ≤ 1048576), [.int .i64 (frFrom b i), .int .i64 (frTo b i), .bool (frOk b i)])
  | _ => none
def E_iFrameAt : Env := mkE [] []
def E_sFrameRange : Env := mkE [] [(47, (sg [pI, pI, pI] [rB]), inSpec), (77, (sg [pS] [rScan]), scanSpec)]

abbrev scBox (b : List UInt8) (i j : Nat) : Blk := .box [.b (readHeadOk b), .i .i64 (ifI (readHeadOk b) (rhV b)), .i .i64 (ifI (readHeadOk b) (rhS b)), .i .i64 (ifI (readHeadOk b) (rhB b)), .i .i64 (ifI (readHeadOk b) (rhL b)), .ref i 0 ((scRecs b).map eStr).length, .ref j 0 ((scOffs b).map eInt).length, .i .i64 (scEnd b), .b (scMark b)]
abbrev scHeap (b : List UInt8) : List (Nat × Blk) := [(0, scBox b 1 2), (1, .arr 1 ((scRecs b).map eStr)), (2, .arr 1 ((scOffs b).map eInt))]
def H_sFirstHit (b : List UInt8) (x y i : Int) : St := { slots := [(0, wstr b), (1, int64 x), (2, int64 y), (7, .l (.ptr 0 0)), (8, int64 i)], heap := scHeap b, next := 3, pins := [] }
def H_iFirstHit (b : List UInt8) (x y e i : Int) : St := { slots := [(1, int64 x), (2, int64 y), (7, .l (.ptr 0 0)), (23, int64 e), (24, int64 i)], heap := scHeap b, next := 3, pins := [] }
def hitAt (b : List UInt8) (x y : Int) (i : Nat) : Bool := meets (frFrom b i) (frTo b i) x y
def firstFrom (b : List UInt8) (x y : Int) : Nat → Nat → Nat
  | 0, i => i
  | f + 1, i => if hitAt b x y i then i else firstFrom b x y f (i + 1)
def firstHit (b : List UInt8) (x y : Int) : Int := if readHeadOk b = false ∨ meets 0 24 x y = true then 0 else firstFrom b x y (scRecs b).length 0
def firstHitSpec : Spec := fun cs => match cs with
  | [.str b, .int .i64 x, .int .i64 y] => some (decide (b.length ≤ 1048576), [.int .i64 (firstHit b x y)])
  | _ => none
def E_sFirstHit : Env := mkE [(5, [0, 1, 2, 7, 8])] [(77, (sg [pS] [rScan]), scanSpec), (78, (sg [pS, pI] [rI, rI, rB]), frameRangeSpec)]
def E_iFirstHit : Env := mkE [(5, [1, 2, 7, 23, 24])] [(83, (sg [pI, pI, pI, pI] [rB]), meetsSpec), (80, (sg [pS] [rScan]), scanSpec), (84, (sg [pScanT, pI] [rI, rI]), frameAtSpec)]

end
end Go.Proofs.YtpjcnjefffakpaaGreatDoor.V

namespace Go.Proofs.YtpjcnjefffakpaaGreatDoor.V
set_option maxRecDepth 100000
theorem iFrameAt_tree (H : List Pt → Nat → St → T (List C)) (k : Bool) (v : Int) (s : Int) (q : Int) (l : Int) (r : List (List C)) (o : List (List C)) (e : Int) (m : Bool) (i : Int) : vBodyL E_iFrameAt noInl (sg [pScanT, pI] [rI, rI]) Tryz.f84 H
  [C.bool k, C.int IntKind.i64 v, C.int IntKind.i64 s, C.int IntKind.i64 q, C.int IntKind.i64 l, C.sl r, C.sl o,
    C.int IntKind.i64 e, C.bool m, C.int IntKind.i64 i] =
 (.must true
 (.ask (decide (IntKind.i64.wrap (i + (1 : Int)) < (↑o.length : Int)))
  (.must (decide ((0 : Int) ≤ i) && decide (i < (↑o.length : Int)) && decide ((o.getD i.toNat []).length = (1 : Nat)))
   (.must (decide ((0 : Nat) < (o.getD i.toNat []).length) &&
    C.is (K.int IntKind.i64) ((o.getD i.toNat []).getD (0 : Nat) (C.fn (0 : FuncId) [])) &&
  true)
    (.must (decide ((0 : Int) ≤ IntKind.i64.wrap (i + (1 : Int))) &&
    decide (IntKind.i64.wrap (i + (1 : Int)) < (↑o.length : Int)) &&
  decide ((o.getD (IntKind.i64.wrap (i + (1 : Int))).toNat []).length = (1 : Nat)))
     (.must (decide ((0 : Nat) < (o.getD (IntKind.i64.wrap (i + (1 : Int))).toNat []).length) &&
    C.is (K.int IntKind.i64)
      ((o.getD (IntKind.i64.wrap (i + (1 : Int))).toNat []).getD (0 : Nat) (C.fn (0 : FuncId) [])) &&
  true)
      (.must true
       (.ret [C.int IntKind.i64 ((o.getD i.toNat []).getD (0 : Nat) (C.fn (0 : FuncId) [])).toInt,
  C.int IntKind.i64 ((o.getD (IntKind.i64.wrap (i + (1 : Int))).toNat []).getD (0 : Nat) (C.fn (0 : FuncId) [])).toInt]))))))
  (.must (decide ((0 : Int) ≤ i) && decide (i < (↑o.length : Int)) && decide ((o.getD i.toNat []).length = (1 : Nat)))
   (.must (decide ((0 : Nat) < (o.getD i.toNat []).length) &&
    C.is (K.int IntKind.i64) ((o.getD i.toNat []).getD (0 : Nat) (C.fn (0 : FuncId) [])) &&
  true)
    (.must true
     (.ret [C.int IntKind.i64 ((o.getD i.toNat []).getD (0 : Nat) (C.fn (0 : FuncId) [])).toInt, C.int IntKind.i64 e])))))) := by kernel_rfl
theorem sFrameRange_tree (H : List Pt → Nat → St → T (List C)) (b : List UInt8) (i : Int) : vBodyL E_sFrameRange noInl (sg [pS, pI] [rI, rI, rB]) Tryz.f78 H [C.str b, C.int IntKind.i64 i] =
 (.must true
 (.must true
  (.must (decide (b.length ≤ (1048576 : Nat)))
   (.must (decide ((0 : Nat) < (1 : Nat)) && true &&
      (decide ((0 : Nat) < (1 : Nat)) && true &&
        (decide ((0 : Nat) < (1 : Nat)) && true &&
          (decide ((0 : Nat) < (1 : Nat)) && true &&
            (decide ((0 : Nat) < (1 : Nat)) && true &&
              ((true && (List.map eStr (scRecs b)).all fun row => decide (row.length = (1 : Nat))) &&
                ((true && (List.map eInt (scOffs b)).all fun row => decide (row.length = (1 : Nat))) &&
                  (decide ((0 : Nat) < (1 : Nat)) && true && (decide ((0 : Nat) < (1 : Nat)) && true && true)))))))) &&
    true &&
  true)
    (.must true
     (.must true
      (.must true
       (.ask (inB i (0 : Int) (IntKind.i64.wrap ((↑(List.map eInt (scOffs b)).length : Int) - (1 : Int))))
        (.ask (decide (i = IntKind.i64.wrap ((↑(List.map eInt (scOffs b)).length : Int) - (1 : Int))))
         (.must (decide ((0 : Int) ≤ i) && decide (i < (↑(List.map eInt (scOffs b)).length : Int)))
          (.must (decide ((0 : Nat) + i.toNat < (List.map eInt (scOffs b)).length) &&
  (decide ((0 : Nat) < ((List.map eInt (scOffs b)).getD ((0 : Nat) + i.toNat) []).length) &&
      C.is (K.int IntKind.i64)
        (((List.map eInt (scOffs b)).getD ((0 : Nat) + i.toNat) []).getD (0 : Nat) (C.fn (0 : FuncId) [])) &&
    true))
           (.must true
            (.ret [C.int IntKind.i64
    (((List.map eInt (scOffs b)).getD ((0 : Nat) + i.toNat) []).getD (0 : Nat) (C.fn (0 : FuncId) [])).toInt,
  C.int IntKind.i64 (scEnd b), C.bool true]))))
         (.must (decide ((0 : Int) ≤ i) && decide (i < (↑(List.map eInt (scOffs b)).length : Int)))
          (.must (decide ((0 : Nat) + i.toNat < (List.map eInt (scOffs b)).length) &&
  (decide ((0 : Nat) < ((List.map eInt (scOffs b)).getD ((0 : Nat) + i.toNat) []).length) &&
      C.is (K.int IntKind.i64)
        (((List.map eInt (scOffs b)).getD ((0 : Nat) + i.toNat) []).getD (0 : Nat) (C.fn (0 : FuncId) [])) &&
    true))
           (.must (decide ((0 : Int) ≤ IntKind.i64.wrap (i + (1 : Int))) &&
  decide (IntKind.i64.wrap (i + (1 : Int)) < (↑(List.map eInt (scOffs b)).length : Int)))
            (.must (decide ((0 : Nat) + (IntKind.i64.wrap (i + (1 : Int))).toNat < (List.map eInt (scOffs b)).length) &&
  (decide
        ((0 : Nat) <
          ((List.map eInt (scOffs b)).getD ((0 : Nat) + (IntKind.i64.wrap (i + (1 : Int))).toNat) []).length) &&
      C.is (K.int IntKind.i64)
        (((List.map eInt (scOffs b)).getD ((0 : Nat) + (IntKind.i64.wrap (i + (1 : Int))).toNat) []).getD (0 : Nat)
          (C.fn (0 : FuncId) [])) &&
    true))
             (.must true
              (.ret [C.int IntKind.i64
    (((List.map eInt (scOffs b)).getD ((0 : Nat) + i.toNat) []).getD (0 : Nat) (C.fn (0 : FuncId) [])).toInt,
  C.int IntKind.i64
    (((List.map eInt (scOffs b)).getD ((0 : Nat) + (IntKind.i64.wrap (i + (1 : Int))).toNat) []).getD (0 : Nat)
        (C.fn (0 : FuncId) [])).toInt,
  C.bool true])))))))
        (.must true
         (.ret [C.int IntKind.i64 (0 : Int), C.int IntKind.i64 (0 : Int), C.bool false])))))))))) := by kernel_rfl
theorem sFirstHit_tree (H : List Pt → Nat → St → T (List C)) (b : List UInt8) (x : Int) (y : Int) : vBodyL E_sFirstHit noInl (sg [pS, pI, pI] [rI]) Tryz.f61 H [C.str b, C.int IntKind.i64 x, C.int IntKind.i64 y] =
 (.must true
 (.must true
  (.must (decide (b.length ≤ (1048576 : Nat)))
   (.must (decide ((0 : Nat) < (1 : Nat)) && true &&
      (decide ((0 : Nat) < (1 : Nat)) && true &&
        (decide ((0 : Nat) < (1 : Nat)) && true &&
          (decide ((0 : Nat) < (1 : Nat)) && true &&
            (decide ((0 : Nat) < (1 : Nat)) && true &&
              ((true && (List.map eStr (scRecs b)).all fun row => decide (row.length = (1 : Nat))) &&
                ((true && (List.map eInt (scOffs b)).all fun row => decide (row.length = (1 : Nat))) &&
                  (decide ((0 : Nat) < (1 : Nat)) && true && (decide ((0 : Nat) < (1 : Nat)) && true && true)))))))) &&
    true &&
  true)
    (.ask (readHeadOk b)
     (.ask (decide (x < (24 : Int)))
      (.ask (decide ((0 : Int) < y))
       (.ask (decide (x < y))
        (.must true
         (.ret [C.int IntKind.i64 (0 : Int)]))
        (H [Pt.r, Pt.r, Pt.r, Pt.l, Pt.r, Pt.b] (9223372036854775808 : Nat) (H_sFirstHit (b) (x) (y) ((0 : Int)))))
       (H [Pt.r, Pt.r, Pt.r, Pt.l, Pt.r, Pt.b] (9223372036854775808 : Nat) (H_sFirstHit (b) (x) (y) ((0 : Int)))))
      (H [Pt.r, Pt.r, Pt.r, Pt.l, Pt.r, Pt.b] (9223372036854775808 : Nat) (H_sFirstHit (b) (x) (y) ((0 : Int)))))
     (.must true
      (.ret [C.int IntKind.i64 (0 : Int)]))))))) := by kernel_rfl
theorem iFirstHit_tree (H : List Pt → Nat → St → T (List C)) (b : List UInt8) (x : Int) (y : Int) : vBodyL E_iFirstHit noInl (sg [pS, pI, pI] [rI]) Tryz.f63 H [C.str b, C.int IntKind.i64 x, C.int IntKind.i64 y] =
 (.must true
 (.must true
  (.must (decide (b.length ≤ (1048576 : Nat)))
   (.must (decide ((0 : Nat) < (1 : Nat)) && true &&
      (decide ((0 : Nat) < (1 : Nat)) && true &&
        (decide ((0 : Nat) < (1 : Nat)) && true &&
          (decide ((0 : Nat) < (1 : Nat)) && true &&
            (decide ((0 : Nat) < (1 : Nat)) && true &&
              ((true && (List.map eStr (scRecs b)).all fun row => decide (row.length = (1 : Nat))) &&
                ((true && (List.map eInt (scOffs b)).all fun row => decide (row.length = (1 : Nat))) &&
                  (decide ((0 : Nat) < (1 : Nat)) && true && (decide ((0 : Nat) < (1 : Nat)) && true && true)))))))) &&
    true &&
  true)
    (.ask (readHeadOk b)
     (.must true
      (.must true
       (.must true
        (.ask (meets (0 : Int) (24 : Int) x y)
         (.must true
          (.ret [C.int IntKind.i64 (0 : Int)]))
         (H [Pt.r, Pt.r, Pt.r, Pt.l, Pt.r, Pt.b] (9223372036854775808 : Nat) (H_iFirstHit (b) (x) (y) ((↑(List.map eStr (scRecs b)).length : Int)) ((0 : Int))))))))
     (.must true
      (.ret [C.int IntKind.i64 (0 : Int)]))))))) := by kernel_rfl
theorem sFirstHit_round0 (H : List Pt → Nat → St → T (List C)) (b : List UInt8) (x : Int) (y : Int) (i : Int) (k : Nat) : vRound E_sFirstHit noInl (sg [pS, pI, pI] [rI]) Tryz.f61 H [Pt.r, Pt.r, Pt.r, Pt.l, Pt.r, Pt.b] k (H_sFirstHit b x y i) =
 (.ask (decide (i < (↑(List.map eStr (scRecs b)).length : Int)))
 (.must true
  (.must (decide (b.length ≤ (1048576 : Nat)))
   (.must true
    (.ask (frOk b i)
     (.ask (decide (x < frTo b i))
      (.ask (decide (frFrom b i < y))
       (.ask (decide (x < y))
        (.must true
         (.ret [C.int IntKind.i64 i]))
        (H [Pt.r, Pt.r, Pt.r, Pt.l, Pt.r, Pt.b] k (H_sFirstHit (b) (x) (y) (IntKind.i64.wrap (i + (1 : Int))))))
       (H [Pt.r, Pt.r, Pt.r, Pt.l, Pt.r, Pt.b] k (H_sFirstHit (b) (x) (y) (IntKind.i64.wrap (i + (1 : Int))))))
      (H [Pt.r, Pt.r, Pt.r, Pt.l, Pt.r, Pt.b] k (H_sFirstHit (b) (x) (y) (IntKind.i64.wrap (i + (1 : Int))))))
     (.ask (decide (x < frTo b i))
      (.ask (decide (frFrom b i < y))
       (.ask (decide (x < y))
        (.must true
         (.ret [C.int IntKind.i64 i]))
        (H [Pt.r, Pt.r, Pt.r, Pt.l, Pt.r, Pt.b] k (H_sFirstHit (b) (x) (y) (IntKind.i64.wrap (i + (1 : Int))))))
       (H [Pt.r, Pt.r, Pt.r, Pt.l, Pt.r, Pt.b] k (H_sFirstHit (b) (x) (y) (IntKind.i64.wrap (i + (1 : Int))))))
      (H [Pt.r, Pt.r, Pt.r, Pt.l, Pt.r, Pt.b] k (H_sFirstHit (b) (x) (y) (IntKind.i64.wrap (i + (1 : Int))))))))))
 (.must true
  (.ret [C.int IntKind.i64 (↑(List.map eStr (scRecs b)).length : Int)]))) := by kernel_rfl
theorem iFirstHit_round0 (H : List Pt → Nat → St → T (List C)) (b : List UInt8) (x : Int) (y : Int) (e : Int) (i : Int) (k : Nat) : vRound E_iFirstHit noInl (sg [pS, pI, pI] [rI]) Tryz.f63 H [Pt.r, Pt.r, Pt.r, Pt.l, Pt.r, Pt.b] k
  (H_iFirstHit b x y e i) =
 (.ask (decide (i < e))
 (.must true
  (.must (rowsOk [K.int IntKind.i64] (List.take (List.map eInt (scOffs b)).length (List.map eInt (scOffs b))) &&
  (decide ((List.take (List.map eInt (scOffs b)).length (List.map eInt (scOffs b))).length ≤ (1048576 : Nat)) &&
    (decide ((0 : Int) ≤ i) &&
      decide (i < (↑(List.take (List.map eInt (scOffs b)).length (List.map eInt (scOffs b))).length : Int)))))
   (.must true
    (.must true
     (.must true
      (.must true
       (.ask (meets (offFrom (ints (List.take (List.map eInt (scOffs b)).length (List.map eInt (scOffs b)))) i)
  (offTo (ints (List.take (List.map eInt (scOffs b)).length (List.map eInt (scOffs b)))) (scEnd b) i) x y)
        (.must true
         (.ret [C.int IntKind.i64 i]))
        (H [Pt.r, Pt.r, Pt.r, Pt.l, Pt.r, Pt.b] k (H_iFirstHit (b) (x) (y) (e) (IntKind.i64.wrap (i + (1 : Int))))))))))))
 (.must true
  (.ret [C.int IntKind.i64 (↑(List.map eStr (scRecs b)).length : Int)]))) := by kernel_rfl
end Go.Proofs.YtpjcnjefffakpaaGreatDoor.V

namespace Go.Proofs.YtpjcnjefffakpaaGreatDoor.V

theorem iFrameAt_E : EnvSound Tryz.prog E_iFrameAt := mkE_sound (by simp [])
theorem iFrameAt_sound : Sound Tryz.prog 84 (sg [pScanT, pI] [rI, rI]) frameAtSpec := vBody_sound iFrameAt_E noInl_ok Tryz.func84 (by kernel_rfl) fun cs outs hk h => by
  unfold frameAtSpec at h
  split at h
  · simp only [Option.some.injEq, Prod.mk.injEq, Bool.and_eq_true, decide_eq_true_eq] at h
    obtain ⟨⟨h1, h2, h3, h4⟩, rfl⟩ := h
    rename_i k v s q l rr os e m i
    have hr := rows_ints h1
    generalize ints os = o at hr ⊢
    subst hr
    rw [List.length_map] at h2 h4
    rw [vBody_L, iFrameAt_tree]
    obtain ⟨i, rfl⟩ := Int.eq_ofNat_of_zero_le h3
    have w : IntKind.i64.wrap ((i : Int) + 1) = ((i + 1 : Nat) : Int) := by rw [wrap64] <;> omega
    have hi : i < o.length := by omega
    have g := map_getD eInt o 0 i hi
    have z : (0 : Int) ≤ ((i + 1 : Nat) : Int) := by omega
    have t1 : ((i : Int) + 1).toNat = i + 1 := by omega
    simp only [eval_must', eval_ask', eval_ret', if_true, decide_eq_true_eq, Bool.and_eq_true, w, h3, z, Int.toNat_natCast, List.length_map, Int.ofNat_lt, hi, g, offFrom, offTo, and_self]
    by_cases hn : i + 1 < o.length
    · have g2 := map_getD eInt o 0 (i + 1) hn
      have hn' : (i : Int) + 1 < o.length := by omega
      simp only [hn, hn', if_true, g2, t1, and_self]
      rfl
    · have hn' : ¬ ((i : Int) + 1 < o.length) := by omega
      simp only [hn, hn', if_false]
      rfl
  · cases h
structure Good (b : List UInt8) (rs : List (List UInt8)) (os : List Int) (e : Int) : Prop where
  len : rs.length = os.length
  e0 : 0 ≤ e
  e1 : e ≤ b.length
  few : (os.length : Int) ≤ e
  offs : ∀ i : Nat, i < os.length → 0 ≤ offFrom os i ∧ offFrom os i < offTo os e i ∧ offTo os e i ≤ b.length
  recs : ∀ r, r ∈ rs → r.length ≤ 60
theorem rfRec_len (v p : Int) (b : List UInt8) (a : Int) : (rfRec v p b a).length ≤ 60 := by
  unfold rfRec
  split
  · rename_i h
    unfold rfOk at h
    simp only [Bool.and_eq_true, decide_eq_true_eq] at h
    unfold rfText; simp; omega
  · simp
theorem scanGo_good (v p : Int) (b : List UInt8) : ∀ (f : Nat) (k e : Int) (rs : List (List UInt8)) (os : List Int), Good b rs os e → Good b (scanGo v p b f k e rs os).1 (scanGo v p b f k e rs os).2.1 (scanGo v p b f k e rs os).2.2.1
  | 0, k, e, rs, os, h => h
  | f + 1, k, e, rs, os, h => by
    simp only [scanGo]
    split
    · exact h
    · split
      · rename_i ho
        obtain ⟨g1, g2, g3⟩ := rfOk_end _ _ _ _ ho
        refine scanGo_good v p b f (k + 1) _ _ _ ⟨by simp [h.len], by omega, g2, by simp; have := h.few; omega, fun i hi => ?_, fun r hr => ?_⟩
        · have e0 := h.e0
          by_cases hlt : i < os.length
          · have ho := h.offs i hlt
            have c1 : offFrom (os ++ [e]) i = offFrom os i := by
              unfold offFrom; simp [List.getD_eq_getElem?_getD, List.getElem?_append_left hlt]
            have c2 : offTo (os ++ [e]) (rfEnd v (p + k) b e) i = offTo os e i := by
              have t1 : ((i : Int) + 1).toNat = i + 1 := by omega
              unfold offTo
              rw [t1, if_pos (by simp; omega)]
              by_cases hn : i + 1 < os.length
              · rw [if_pos (by omega)]
                simp [List.getD_eq_getElem?_getD, List.getElem?_append_left hn]
              · rw [if_neg (by omega)]
                have : i + 1 = os.length := by omega
                rw [this]
                simp [List.getD_eq_getElem?_getD]
            rw [c1, c2]; exact ho
          · have hil : i = os.length := by simp at hi; omega
            subst hil
            have c1 : offFrom (os ++ [e]) os.length = e := by unfold offFrom; simp [List.getD_eq_getElem?_getD]
            have c2 : offTo (os ++ [e]) (rfEnd v (p + k) b e) os.length = rfEnd v (p + k) b e := by unfold offTo; rw [if_neg (by simp)]
            rw [c1, c2]
            omega
        · rcases List.mem_append.1 hr with hr | hr
          · exact h.recs r hr
          · have : r = rfRec v (p + k) b e := by simpa using hr
            rw [this]; exact rfRec_len _ _ _ _
      · exact h
theorem scan_good (b : List UInt8) : Good b (scRecs b) (scOffs b) (scEnd b) := by
  unfold scRecs scOffs scEnd scanOf
  split
  · rename_i hr
    have h24 : 24 ≤ b.length := by
      unfold readHeadOk at hr
      simp only [Bool.and_eq_true, decide_eq_true_eq] at hr
      exact hr.1.1
    exact scanGo_good _ _ b _ 0 24 [] [] ⟨rfl, by omega, by omega, by simp, fun i hi => by simp at hi, fun r hr => by cases hr⟩
  · exact ⟨rfl, by simp, by simp, by simp, fun i hi => by simp at hi, fun r hr => by cases hr⟩
theorem len1_str (l : List (List UInt8)) : ((l.map eStr).all fun row => decide (row.length = 1)) = true := by simp
theorem len1_int (l : List Int) : ((l.map eInt).all fun row => decide (row.length = 1)) = true := by simp
theorem frOk_iff (b : List UInt8) (i : Int) : frOk b i = true ↔ 0 ≤ i ∧ i < (scOffs b).length := by
  unfold frOk; rw [in_iff]; omega
theorem sFrameRange_E : EnvSound Tryz.prog E_sFrameRange := mkE_sound (by simp [sIn_sound, sScanText_sound])
theorem sFrameRange_sound : Sound Tryz.prog 78 (sg [pS, pI] [rI, rI, rB]) frameRangeSpec := vBody_sound sFrameRange_E noInl_ok Tryz.func78 (by kernel_rfl) fun cs outs hk h => by
  unfold frameRangeSpec at h
  split at h
  · simp only [Option.some.injEq, Prod.mk.injEq, decide_eq_true_eq] at h
    obtain ⟨h1, rfl⟩ := h
    rename_i b i
    rw [vBody_L, sFrameRange_tree]
    have hg := scan_good b
    have hf := hg.few
    have he := hg.e1
    have l1 := len1_str (scRecs b)
    have l2 := len1_int (scOffs b)
    have pre : decide (b.length ≤ 1048576) = true := decide_eq_true h1
    have w : IntKind.i64.wrap (((scOffs b).length : Int) - 1) = ((scOffs b).length : Int) - 1 := by rw [wrap64] <;> omega
    have hfr : inB i 0 (((scOffs b).length : Int) - 1) = frOk b i := rfl
    cases hk : frOk b i with
    | false =>
      simp only [lit_must, pre, eval_must', eval_ask', eval_ret', l1, l2, List.length_map, w, hfr, hk, frFrom, frTo, Bool.false_eq_true, if_false]
      simp
    | true =>
      have hi := (frOk_iff b i).1 hk
      obtain ⟨i, rfl⟩ := Int.eq_ofNat_of_zero_le hi.1
      have hi' : i < (scOffs b).length := by omega
      have g := map_getD eInt (scOffs b) 0 i hi'
      have w1 : IntKind.i64.wrap ((i : Int) + 1) = ((i + 1 : Nat) : Int) := by rw [wrap64] <;> omega
      have t1 : ((i : Int) + 1).toNat = i + 1 := by omega
      simp only [lit_must, pre, eval_must', eval_ask', eval_ret', l1, l2, List.length_map, w, hfr, hk, frFrom, frTo, if_true, Nat.zero_add, Int.toNat_natCast, g, offFrom, offTo, w1, t1]
      by_cases hl : (i : Int) = ((scOffs b).length : Int) - 1
      · have hn : ¬ ((i : Int) + 1 < (scOffs b).length) := by omega
        have hlt := eq_true hl
        simp [hlt, hn, hi', C.is, C.toInt]
      · have hn : (i : Int) + 1 < (scOffs b).length := by omega
        have hn' : i + 1 < (scOffs b).length := by omega
        have g2 := map_getD eInt (scOffs b) 0 (i + 1) hn'
        have z : (0 : Int) ≤ ((i + 1 : Nat) : Int) := by omega
        have z2 : ((i + 1 : Nat) : Int) < (scOffs b).length := by omega
        have hl' : ((i : Int) = ((scOffs b).length : Int) - 1) = False := eq_false hl
        simp only [hl', decide_false, Bool.false_eq_true, if_false, g2, hn, if_true]
        simp [hi', hn', C.is, C.toInt]
        omega
  · cases h

theorem meets_iff (a b x y : Int) : meets a b x y = true ↔ a < b ∧ a < y ∧ x < b ∧ x < y := by
  unfold meets imax imin
  rw [decide_eq_true_eq]
  repeat' split
  all_goals omega
theorem frRange (b : List UInt8) (i : Nat) (h : i < (scOffs b).length) : frFrom b i = offFrom (scOffs b) i ∧ frTo b i = offTo (scOffs b) (scEnd b) i ∧ frOk b i = true ∧ frFrom b i < frTo b i := by
  have hk : frOk b i = true := (frOk_iff b i).2 ⟨by omega, by omega⟩
  have := (scan_good b).offs i h
  unfold frFrom frTo
  rw [hk]
  exact ⟨rfl, rfl, rfl, by simpa using this.2.1⟩
theorem sFirstHit_loop (b : List UInt8) (x y : Int) (hb : b.length ≤ 1048576) : ∀ (f n i : Nat), i + f = (scRecs b).length → f < n →
    (vLoop E_sFirstHit noInl (sg [pS, pI, pI] [rI]) Tryz.f61 [.r, .r, .r, .l, .r, .b] n (H_sFirstHit b x y i)).eval = some [.int .i64 (firstFrom b x y f i : Nat)] := by
  have hg := scan_good b
  have hf := hg.few
  have he := hg.e1
  have hlen := hg.len
  intro f
  induction f with
  | zero =>
    intro n i h1 h2
    obtain ⟨n, rfl⟩ : ∃ m, n = m + 1 := ⟨n - 1, by omega⟩
    rw [vLoop_L _ _ _ _ _ _ _ (by kernel_rfl), sFirstHit_round0]
    have : ¬ ((i : Int) < (scRecs b).length) := by omega
    simp only [eval_must', eval_ask', eval_ret', if_true, decide_eq_true_eq, List.length_map, this, if_false, firstFrom]
    congr 3; omega
  | succ f ih =>
    intro n i h1 h2
    obtain ⟨n, rfl⟩ : ∃ m, n = m + 1 := ⟨n - 1, by omega⟩
    rw [vLoop_L _ _ _ _ _ _ _ (by kernel_rfl), sFirstHit_round0]
    have e := ih n (i + 1) (by omega) (by omega)
    have w1 : IntKind.i64.wrap ((i : Int) + 1) = ((i + 1 : Nat) : Int) := by rw [wrap64] <;> omega
    have hi : (i : Int) < (scRecs b).length := by omega
    obtain ⟨r1, r2, r3, r4⟩ := frRange b i (by omega)
    have pre : decide (b.length ≤ 1048576) = true := decide_eq_true hb
    simp only [lit_must, eval_must', eval_ask', eval_ret', if_true, decide_eq_true_eq, List.length_map, hi, hb, r3, w1, firstFrom]
    cases hh : hitAt b x y i with
    | true =>
      have := (meets_iff _ _ _ _).1 hh
      simp only [this.2.1, this.2.2.1, this.2.2.2, if_true]
    | false =>
      have hne : ¬ (x < frTo b i ∧ frFrom b i < y ∧ x < y) := fun h => by
        have : hitAt b x y i = true := (meets_iff _ _ _ _).2 ⟨r4, h.2.1, h.1, h.2.2⟩
        rw [hh] at this; cases this
      simp only [Bool.false_eq_true, if_false]
      by_cases p1 : x < frTo b i
      · by_cases p2 : frFrom b i < y
        · by_cases p3 : x < y
          · exact absurd ⟨p1, p2, p3⟩ hne
          · simp only [p1, p2, p3, if_true, if_false]; exact e
        · simp only [p1, p2, if_true, if_false]; exact e
      · simp only [p1, if_false]; exact e
theorem sFirstHit_E : EnvSound Tryz.prog E_sFirstHit := mkE_sound (by simp [sScanText_sound, sFrameRange_sound])
theorem sFirstHit_sound : Sound Tryz.prog 61 (sg [pS, pI, pI] [rI]) firstHitSpec := vBody_sound sFirstHit_E noInl_ok Tryz.func61 (by kernel_rfl) fun cs outs hk h => by
  unfold firstHitSpec at h
  split at h
  · simp only [Option.some.injEq, Prod.mk.injEq, decide_eq_true_eq] at h
    obtain ⟨h1, rfl⟩ := h
    rename_i b x y
    rw [vBody_L, sFirstHit_tree]
    have l1 := len1_str (scRecs b)
    have l2 := len1_int (scOffs b)
    have hg := scan_good b
    have hf := hg.few
    have he := hg.e1
    have hlen := hg.len
    have lp := sFirstHit_loop b x y h1 (scRecs b).length 9223372036854775808 0 (by omega) (by omega)
    have pre : decide (b.length ≤ 1048576) = true := decide_eq_true h1
    cases hr : readHeadOk b with
    | false =>
      simp only [lit_must, lit_no, pre, hr, eval_must', eval_ret', l1, l2, firstHit, true_or, if_true]
      simp
    | true =>
      cases hm : meets 0 24 x y with
      | true =>
        have := (meets_iff _ _ _ _).1 hm
        simp only [lit_must, lit_yes, pre, hr, eval_must', eval_ask', eval_ret', l1, l2, firstHit, hm, or_true, if_true, decide_eq_true_eq, this.2.1, this.2.2.1, this.2.2.2]
        simp
      | false =>
        have hne : ¬ (x < 24 ∧ 0 < y ∧ x < y) := fun h => by
          have : meets 0 24 x y = true := (meets_iff _ _ _ _).2 ⟨by omega, h.2.1, h.1, h.2.2⟩
          rw [hm] at this; cases this
        have ef : firstHit b x y = firstFrom b x y (scRecs b).length 0 := by unfold firstHit; rw [if_neg (by simp [hr, hm])]
        rw [ef, ← lp]
        simp only [lit_must, lit_yes, pre, hr, eval_must', eval_ask', l1, l2, decide_eq_true_eq]
        have cl : ((decide (0 < 1) && true && (decide (0 < 1) && true && (decide (0 < 1) && true && (decide (0 < 1) && true && (decide (0 < 1) && true && ((true && true) && ((true && true) && (decide (0 < 1) && true && (decide (0 < 1) && true && true)))))))) && true && true) : Bool) = true := by decide
        rw [if_pos cl]
        by_cases p1 : x < 24
        · by_cases p2 : 0 < y
          · by_cases p3 : x < y
            · exact absurd ⟨p1, p2, p3⟩ hne
            · rw [if_pos p1, if_pos p2, if_neg p3]; rfl
          · rw [if_pos p1, if_neg p2]; rfl
        · rw [if_neg p1]; rfl
  · cases h
theorem closedAll : ((decide (0 < 1) && true && (decide (0 < 1) && true && (decide (0 < 1) && true && (decide (0 < 1) && true && (decide (0 < 1) && true && ((true && true) && ((true && true) && (decide (0 < 1) && true && (decide (0 < 1) && true && true)))))))) && true && true) : Bool) = true := by decide
theorem iFirstHit_loop (b : List UInt8) (x y : Int) (hb : b.length ≤ 1048576) : ∀ (f n i : Nat), i + f = (scRecs b).length → f < n →
    (vLoop E_iFirstHit noInl (sg [pS, pI, pI] [rI]) Tryz.f63 [.r, .r, .r, .l, .r, .b] n (H_iFirstHit b x y ((scRecs b).length : Nat) i)).eval = some [.int .i64 (firstFrom b x y f i : Nat)] := by
  have hg := scan_good b
  have hf := hg.few
  have he := hg.e1
  have hlen := hg.len
  have tk : ((scOffs b).map eInt).take (scOffs b).length = (scOffs b).map eInt := List.take_of_length_le (by simp)
  have ro := rowsOk_ints (scOffs b)
  have im := ints_map (scOffs b)
  intro f
  induction f with
  | zero =>
    intro n i h1 h2
    obtain ⟨n, rfl⟩ : ∃ m, n = m + 1 := ⟨n - 1, by omega⟩
    rw [vLoop_L _ _ _ _ _ _ _ (by kernel_rfl), iFirstHit_round0]
    have : ¬ ((i : Int) < (scRecs b).length) := by omega
    simp only [eval_must', eval_ask', eval_ret', if_true, decide_eq_true_eq, List.length_map, this, if_false, firstFrom]
    congr 3; omega
  | succ f ih =>
    intro n i h1 h2
    obtain ⟨n, rfl⟩ : ∃ m, n = m + 1 := ⟨n - 1, by omega⟩
    rw [vLoop_L _ _ _ _ _ _ _ (by kernel_rfl), iFirstHit_round0]
    have e := ih n (i + 1) (by omega) (by omega)
    have w1 : IntKind.i64.wrap ((i : Int) + 1) = ((i + 1 : Nat) : Int) := by rw [wrap64] <;> omega
    have hi : (i : Int) < (scRecs b).length := by omega
    have hi2 : (i : Int) < (scOffs b).length := by omega
    have hz : (0 : Int) ≤ i := by omega
    have hl : (scOffs b).length ≤ 1048576 := by omega
    obtain ⟨r1, r2, r3, r4⟩ := frRange b i (by omega)
    have hm : meets (offFrom (scOffs b) i) (offTo (scOffs b) (scEnd b) i) x y = hitAt b x y i := by unfold hitAt; rw [r1, r2]
    simp only [lit_must, eval_must', eval_ask', eval_ret', if_true, decide_eq_true_eq, Bool.and_eq_true, List.length_map, hi, hi2, hz, hl, tk, ro, im, w1, firstFrom, and_self, hm]
    cases hh : hitAt b x y i with
    | true => simp
    | false => simp only [Bool.false_eq_true, if_false]; exact e
theorem iFirstHit_E : EnvSound Tryz.prog E_iFirstHit := mkE_sound (by simp [iMeets_sound, iScanText_sound, iFrameAt_sound])
theorem iFirstHit_sound : Sound Tryz.prog 63 (sg [pS, pI, pI] [rI]) firstHitSpec := vBody_sound iFirstHit_E noInl_ok Tryz.func63 (by kernel_rfl) fun cs outs hk h => by
  unfold firstHitSpec at h
  split at h
  · simp only [Option.some.injEq, Prod.mk.injEq, decide_eq_true_eq] at h
    obtain ⟨h1, rfl⟩ := h
    rename_i b x y
    rw [vBody_L, iFirstHit_tree]
    have l1 := len1_str (scRecs b)
    have l2 := len1_int (scOffs b)
    have hg := scan_good b
    have hf := hg.few
    have he := hg.e1
    have hlen := hg.len
    have lp := iFirstHit_loop b x y h1 (scRecs b).length 9223372036854775808 0 (by omega) (by omega)
    have pre : decide (b.length ≤ 1048576) = true := decide_eq_true h1
    cases hr : readHeadOk b with
    | false =>
      simp only [lit_must, lit_no, pre, hr, eval_must', eval_ret', l1, l2, firstHit, true_or, if_true]
      simp
    | true =>
      cases hm : meets 0 24 x y with
      | true =>
        simp only [lit_must, lit_yes, pre, hr, eval_must', eval_ask', eval_ret', l1, l2, firstHit, hm, or_true, if_true]
        simp
      | false =>
        have ef : firstHit b x y = firstFrom b x y (scRecs b).length 0 := by unfold firstHit; rw [if_neg (by simp [hr, hm])]
        rw [ef, ← lp]
        simp only [lit_must, lit_yes, lit_no, pre, hr, eval_must', hm, l1, l2, List.length_map]
        rw [if_pos closedAll]
        rfl
  · cases h

end Go.Proofs.YtpjcnjefffakpaaGreatDoor.V

namespace Go.Proofs.YtpjcnjefffakpaaGreatDoor.V
noncomputable section

def hasInt : List Int → Int → Bool
  | [], _ => false
  | x :: r, n => if x = n then true else hasInt r n
def hasSpec : Spec := fun cs => match cs with
  | [.sl rows, .int .i64 n] => some (rowsOk [.int .i64] rows && decide (rows.length ≤ 1048576), [.bool (hasInt (ints rows) n)])
  | _ => none
/-- what damage leaves of a file -/
def leftRec (base a b : Int) (x : Lk) : List (List UInt8) := if x.1 = base then (scRecs x.2).take (firstHit x.2 a b).toNat else scRecs x.2
def leftStop (base a b : Int) (x : Lk) : Bool := decide (x.1 = base) && decide (firstHit x.2 a b < (scRecs x.2).length)
def leftGo (base a b : Int) : List Lk → List (List UInt8)
  | [] => []
  | x :: r => leftRec base a b x ++ (if leftStop base a b x then [] else leftGo base a b r)
def leftOf (ns es : List (List C)) (base a b : Int) : List (List UInt8) := leftGo base a b (chain (nds ns) (ens es))
def leftSpec : Spec := fun cs => match cs with
  | [.sl ns, .sl es, .sl _, .sl _, .int .i64 _, .int .i64 _, .int .i64 base, .int .i64 a, .int .i64 b] => some (dkOk ns es, [.sl ((leftOf ns es base a b).map eStr)])
  | _ => none
def diskInt3Law : Spec := fun cs => match cs with
  | [.sl ns, .sl es, .sl os, .sl ss, .int .i64 _, .int .i64 _, .int .i64 _, .int .i64 _, .int .i64 _] => some (lawDisk ns es os ss, [.bool true])
  | _ => none
def H_sHas (r : List (List C)) (n i : Int) : St := st0 [(0, .l (.sl r)), (1, int64 n), (5, int64 i)]
def H_sLeft (ns es os ss : List (List C)) (r x c a b : Int) (n : Nat) (o : List (List C)) (m : Nat) (bs : List (List C)) (i : Int) : St := { slots := [(1, int64 c), (2, int64 a), (3, int64 b), (4, .l (.ptr 0 0)), (9, .l (.ref 1 0 n)), (10, .l (.ref 2 0 m)), (11, int64 i)], heap := [(0, dkBox ns es os ss r x), (1, .arr 1 o), (2, .arr 1 bs)], next := 3, pins := [] }
def H_iLeft (c a b : Int) (n : Nat) (o : List (List C)) (m : Nat) (ls : List (List C)) (k i : Int) : St := { slots := [(1, int64 c), (2, int64 a), (3, int64 b), (9, .l (.ref 0 0 n)), (15, .l (.ref 1 0 m)), (16, int64 k), (17, int64 i)], heap := [(0, .arr 1 o), (1, .arr 11 ls)], next := 2, pins := [] }
def E_sHas : Env := mkE [(2, [0, 1, 5])] []
def E_sLeft : Env := mkE [(6, [1, 2, 3, 4, 9, 10, 11])] [(59, (sg [pDisk, pI] [rS]), textAtSpec), (60, (sg [pS] [rSl 9]), recordsInSpec), (50, (sg [pDisk] [rSl 3]), basesSpec), (40, (sg [pDisk] [rSl 9]), rowOfSpec), (61, (sg [pS, pI, pI] [rI]), firstHitSpec), (58, (sg [pSl 3, pI] [rB]), hasSpec)]
def E_iLeft : Env := mkE [(3, [1, 2, 3, 9, 15, 16, 17])] [(62, (⟨[pDisk], [rSl 69], true⟩), linksSpec), (63, (sg [pS, pI, pI] [rI]), firstHitSpec)]
def E_lLeft : Env := mkE [] [(27, (sg [pSl 9, pSl 9] [rB]), eqStrSpec), (12, (sg [pLDisk, pI] [rI]), szDiskSpec), (14, (sg [pLDisk] [rDisk]), toDiskSpec), (16, (sg [pDisk, pDisk] [rB]), eqDiskSpec), (29, (sg [pWS, pI] [rI]), markSSpec), (30, (sg [pSl 9, pI] [rI]), heldSSpec), (28, (sg [pWDisk, pI] [rI]), markDSpec), (33, (sg [pDisk, pI, pI, pI] [rSl 9]), leftSpec), (34, (sg [pDisk, pI, pI, pI] [rSl 9]), leftSpec)]

end
end Go.Proofs.YtpjcnjefffakpaaGreatDoor.V

namespace Go.Proofs.YtpjcnjefffakpaaGreatDoor.V
set_option maxRecDepth 100000
theorem sHas_tree (H : List Pt → Nat → St → T (List C)) (r : List (List C)) (n : Int) : (vBodyL E_sHas noInl (sg [pSl (3 : TypeId), pI] [rB]) Tryz.f58 H [C.sl r, C.int IntKind.i64 n]).eval =
 ((H [Pt.r, Pt.l, Pt.r, Pt.b] (9223372036854775808 : Nat) (H_sHas (r) (n) ((0 : Int)))) : T (List C)).eval := evalEq (by kernel_rfl)
theorem sLeft_tree (H : List Pt → Nat → St → T (List C)) (ns : List (List C)) (es : List (List C)) (os : List (List C)) (ss : List (List C)) (r : Int) (x : Int) (c : Int) (a : Int) (b : Int) : (vBodyL E_sLeft noInl (sg [pDisk, pI, pI, pI] [rSl (9 : TypeId)]) Tryz.f33 H
  [C.sl ns, C.sl es, C.sl os, C.sl ss, C.int IntKind.i64 r, C.int IntKind.i64 x, C.int IntKind.i64 c,
    C.int IntKind.i64 a, C.int IntKind.i64 b]).eval =
 ((.must (dkOk ns es)
 (.must ((true && (lkBases (chain (nds ns) (ens es))).all fun row => decide (row.length = (1 : Nat))) && true && true && true)
  (.must (rowsOk [K.int IntKind.i64] (List.take (lkBases (chain (nds ns) (ens es))).length (lkBases (chain (nds ns) (ens es)))) &&
  decide
    ((List.take (lkBases (chain (nds ns) (ens es))).length (lkBases (chain (nds ns) (ens es)))).length ≤
      (1048576 : Nat)))
   (.ask (hasInt (ints (List.take (lkBases (chain (nds ns) (ens es))).length (lkBases (chain (nds ns) (ens es))))) c)
    (H [Pt.r, Pt.r, Pt.r, Pt.r, Pt.l, Pt.r, Pt.b] (9223372036854775808 : Nat) (H_sLeft (ns) (es) (os) (ss) (r) (x) (c) (a) (b) ((0 : Nat)) ([]) ((lkBases (chain (nds ns) (ens es))).length) (lkBases (chain (nds ns) (ens es))) ((0 : Int))))
    (.must (dkOk ns es)
     (.must ((true && (List.map eStr (lkRecs (chain (nds ns) (ens es)))).all fun row => decide (row.length = (1 : Nat))) && true &&
    true &&
  true)
      (.must (decide
          ((List.map eStr (lkRecs (chain (nds ns) (ens es)))).length =
            (List.map eStr (lkRecs (chain (nds ns) (ens es)))).length) &&
        (false || (List.map eStr (lkRecs (chain (nds ns) (ens es)))).all fun r => r.all C.flat) &&
      true &&
    true &&
  true)
       (.ret [C.sl (List.map eStr (lkRecs (chain (nds ns) (ens es))))])))))))) : T (List C)).eval := evalEq (by kernel_rfl)
theorem iLeft_tree (H : List Pt → Nat → St → T (List C)) (ns : List (List C)) (es : List (List C)) (os : List (List C)) (ss : List (List C)) (r : Int) (x : Int) (c : Int) (a : Int) (b : Int) : (vBodyL E_iLeft noInl (sg [pDisk, pI, pI, pI] [rSl (9 : TypeId)]) Tryz.f34 H
  [C.sl ns, C.sl es, C.sl os, C.sl ss, C.int IntKind.i64 r, C.int IntKind.i64 x, C.int IntKind.i64 c,
    C.int IntKind.i64 a, C.int IntKind.i64 b]).eval =
 ((.must (dkOk ns es)
 (.must ((true && (lkRows (chain (nds ns) (ens es))).all fun row => decide (row.length = (11 : Nat))) && true && true && true)
  (H [Pt.r, Pt.r, Pt.l, Pt.r, Pt.b] (9223372036854775808 : Nat) (H_iLeft (c) (a) (b) ((0 : Nat)) ([]) ((lkRows (chain (nds ns) (ens es))).length) (lkRows (chain (nds ns) (ens es))) ((↑(lkRows (chain (nds ns) (ens es))).length : Int)) ((0 : Int)))))) : T (List C)).eval := evalEq (by kernel_rfl)
theorem lLeft_tree (H : List Pt → Nat → St → T (List C)) (ns : List (List C)) (es : List (List C)) (os : List (List C)) (ss : List (List C)) (r : Int) (x : Int) (c : Int) (a : Int) (b : Int) : (vBodyL E_lLeft noInl (sg [pLDisk, pI, pI, pI] [rB]) Tryz.f10 H
  [C.sl ns, C.sl es, C.sl os, C.sl ss, C.int IntKind.i64 r, C.int IntKind.i64 x, C.int IntKind.i64 c,
    C.int IntKind.i64 a, C.int IntKind.i64 b]).eval =
 ((.must (decide ((0 : Int) ≤ (1048576 : Int)) && decide ((1048576 : Int) ≤ (1048576 : Int)) &&
  (diskLens (281474976710656 : Nat) ns es os ss && diskRows ns es os ss && diskTexts ns es os ss))
 (.ask (decide (szDisk (nds ns) (ens es) (ens os) (strs ss) (1048576 : Int) < (0 : Int)))
  (.ret [C.bool true])
  (.must (diskLens (1048576 : Nat) ns es os ss && diskRows ns es os ss)
   (.must ((true && ns.all fun row => decide (row.length = (3 : Nat))) &&
      ((true && es.all fun row => decide (row.length = (2 : Nat))) &&
        ((true && os.all fun row => decide (row.length = (2 : Nat))) &&
          ((true && ss.all fun row => decide (row.length = (1 : Nat))) &&
            (decide ((0 : Nat) < (1 : Nat)) && true && (decide ((0 : Nat) < (1 : Nat)) && true && true))))) &&
    true &&
  true)
    (.must (dkOk (List.take ns.length ns) (List.take es.length es))
     (.must ((true &&
        (List.map eStr (leftOf (List.take ns.length ns) (List.take es.length es) c a b)).all fun row =>
          decide (row.length = (1 : Nat))) &&
      true &&
    true &&
  true)
      (.must (diskLens (1048576 : Nat) ns es os ss && diskRows ns es os ss)
       (.must ((true && ns.all fun row => decide (row.length = (3 : Nat))) &&
      ((true && es.all fun row => decide (row.length = (2 : Nat))) &&
        ((true && os.all fun row => decide (row.length = (2 : Nat))) &&
          ((true && ss.all fun row => decide (row.length = (1 : Nat))) &&
            (decide ((0 : Nat) < (1 : Nat)) && true && (decide ((0 : Nat) < (1 : Nat)) && true && true))))) &&
    true &&
  true)
        (.must (dkOk (List.take ns.length ns) (List.take es.length es))
         (.must ((true &&
        (List.map eStr (leftOf (List.take ns.length ns) (List.take es.length es) c a b)).all fun row =>
          decide (row.length = (1 : Nat))) &&
      true &&
    true &&
  true)
          (.must (decide
    ((List.take (List.map eStr (leftOf (List.take ns.length ns) (List.take es.length es) c a b)).length
          (List.map eStr (leftOf (List.take ns.length ns) (List.take es.length es) c a b))).length ≤
      (1073741824 : Nat)) &&
  (rowsOk [K.str]
      (List.take (List.map eStr (leftOf (List.take ns.length ns) (List.take es.length es) c a b)).length
        (List.map eStr (leftOf (List.take ns.length ns) (List.take es.length es) c a b))) &&
    rowsOk [K.str]
      (List.take (List.map eStr (leftOf (List.take ns.length ns) (List.take es.length es) c a b)).length
        (List.map eStr (leftOf (List.take ns.length ns) (List.take es.length es) c a b)))))
           (.ask (decide
  (strs
      (List.take (List.map eStr (leftOf (List.take ns.length ns) (List.take es.length es) c a b)).length
        (List.map eStr (leftOf (List.take ns.length ns) (List.take es.length es) c a b))) =
    strs
      (List.take (List.map eStr (leftOf (List.take ns.length ns) (List.take es.length es) c a b)).length
        (List.map eStr (leftOf (List.take ns.length ns) (List.take es.length es) c a b)))))
            (.must (diskLens (1048576 : Nat) ns es os ss && diskRows ns es os ss)
             (.must ((true && ns.all fun row => decide (row.length = (3 : Nat))) &&
      ((true && es.all fun row => decide (row.length = (2 : Nat))) &&
        ((true && os.all fun row => decide (row.length = (2 : Nat))) &&
          ((true && ss.all fun row => decide (row.length = (1 : Nat))) &&
            (decide ((0 : Nat) < (1 : Nat)) && true && (decide ((0 : Nat) < (1 : Nat)) && true && true))))) &&
    true &&
  true)
              (.must (diskLens (1048576 : Nat) (List.take ns.length ns) (List.take es.length es) (List.take os.length os)
      (List.take ss.length ss) &&
    diskRows (List.take ns.length ns) (List.take es.length es) (List.take os.length os) (List.take ss.length ss) &&
  diskRows (List.take ns.length ns) (List.take es.length es) (List.take os.length os) (List.take ss.length ss))
               (.ask (eqDk (List.take ns.length ns) (List.take es.length es) (List.take os.length os) (List.take ss.length ss) r x
  (List.take ns.length ns) (List.take es.length es) (List.take os.length os) (List.take ss.length ss) r x)
                (.must (true && (true && (true && (true && (true && (true && (true && true)))))) &&
  (decide (ns.length = ns.length) &&
      (decide (es.length = es.length) &&
        (decide (os.length = os.length) && (decide (ss.length = ss.length) && true))) &&
    true))
                 (.must (diskRows ns es os ss &&
  (diskLens (1048576 : Nat) ns es os ss && (decide ((0 : Int) ≤ (1 : Int)) && decide ((1 : Int) ≤ (1073741824 : Int)))))
                  (.must (decide ((0 : Nat) < (1 : Nat)) && true && true && true &&
  ((decide ((mk mkN (3 : Int) (1 : Int) ns.length).length = ns.length) &&
        (mk mkN (3 : Int) (1 : Int) ns.length).all fun r => decide (r.length = (3 : Nat))) &&
      ((decide ((mk mkE' (2 : Int) ((1 : Int) + (3 : Int) * (↑ns.length : Int)) es.length).length = es.length) &&
          (mk mkE' (2 : Int) ((1 : Int) + (3 : Int) * (↑ns.length : Int)) es.length).all fun r =>
            decide (r.length = (2 : Nat))) &&
        ((decide
              ((mk mkE' (2 : Int) ((1 : Int) + (3 : Int) * (↑ns.length : Int) + (2 : Int) * (↑es.length : Int))
                    os.length).length =
                os.length) &&
            (mk mkE' (2 : Int) ((1 : Int) + (3 : Int) * (↑ns.length : Int) + (2 : Int) * (↑es.length : Int))
                  os.length).all
              fun r => decide (r.length = (2 : Nat))) &&
          ((decide
                ((mk mkS (1 : Int)
                      ((1 : Int) + (3 : Int) * (↑ns.length : Int) + (2 : Int) * (↑es.length : Int) +
                        (2 : Int) * (↑os.length : Int))
                      ss.length).length =
                  ss.length) &&
              (mk mkS (1 : Int)
                    ((1 : Int) + (3 : Int) * (↑ns.length : Int) + (2 : Int) * (↑es.length : Int) +
                      (2 : Int) * (↑os.length : Int))
                    ss.length).all
                fun r => decide (r.length = (1 : Nat))) &&
            true))) &&
    true))
                   (.must (decide
    ((List.take (List.map eStr (leftOf (List.take ns.length ns) (List.take es.length es) c a b)).length
          (List.map eStr (leftOf (List.take ns.length ns) (List.take es.length es) c a b))).length ≤
      (1073741824 : Nat)) &&
  (rowsOk [K.str]
      (List.take (List.map eStr (leftOf (List.take ns.length ns) (List.take es.length es) c a b)).length
        (List.map eStr (leftOf (List.take ns.length ns) (List.take es.length es) c a b))) &&
    rowsOk [K.str]
      (List.take (List.map eStr (leftOf (List.take ns.length ns) (List.take es.length es) c a b)).length
        (List.map eStr (leftOf (List.take ns.length ns) (List.take es.length es) c a b)))))
                    (.ask (decide
  (strs
      (List.take (List.map eStr (leftOf (List.take ns.length ns) (List.take es.length es) c a b)).length
        (List.map eStr (leftOf (List.take ns.length ns) (List.take es.length es) c a b))) =
    strs
      (List.take (List.map eStr (leftOf (List.take ns.length ns) (List.take es.length es) c a b)).length
        (List.map eStr (leftOf (List.take ns.length ns) (List.take es.length es) c a b)))))
                     (.must (true && (true && true) &&
  (decide
        ((List.map eStr (leftOf (List.take ns.length ns) (List.take es.length es) c a b)).length =
          (List.map eStr (leftOf (List.take ns.length ns) (List.take es.length es) c a b)).length) &&
      true &&
    true))
                      (.must (rowsOk [K.str] (List.map eStr (leftOf (List.take ns.length ns) (List.take es.length es) c a b)) &&
  (decide
      ((List.map eStr (leftOf (List.take ns.length ns) (List.take es.length es) c a b)).length ≤ (1073741824 : Nat)) &&
    (decide ((0 : Int) ≤ (1 : Int)) && decide ((1 : Int) ≤ (1099511627776 : Int)))))
                       (.must (decide ((0 : Nat) < (1 : Nat)) && true && true && true &&
  ((decide
          ((mk mkS (1 : Int) (1 : Int)
                (List.map eStr (leftOf (List.take ns.length ns) (List.take es.length es) c a b)).length).length =
            (List.map eStr (leftOf (List.take ns.length ns) (List.take es.length es) c a b)).length) &&
        (mk mkS (1 : Int) (1 : Int)
              (List.map eStr (leftOf (List.take ns.length ns) (List.take es.length es) c a b)).length).all
          fun r => decide (r.length = (1 : Nat))) &&
      true &&
    true))
                        (.must (rowsOk [K.str]
    (List.take (List.map eStr (leftOf (List.take ns.length ns) (List.take es.length es) c a b)).length
      (mk mkS (1 : Int) (1 : Int)
        (List.map eStr (leftOf (List.take ns.length ns) (List.take es.length es) c a b)).length)) &&
  (decide
      ((List.take (List.map eStr (leftOf (List.take ns.length ns) (List.take es.length es) c a b)).length
            (mk mkS (1 : Int) (1 : Int)
              (List.map eStr (leftOf (List.take ns.length ns) (List.take es.length es) c a b)).length)).length ≤
        (1073741824 : Nat)) &&
    (decide ((0 : Int) ≤ (1 : Int)) && decide ((1 : Int) ≤ (1099511627776 : Int)))))
                         (.ask (decide
  (heldS
      (strs
        (List.take (List.map eStr (leftOf (List.take ns.length ns) (List.take es.length es) c a b)).length
          (mk mkS (1 : Int) (1 : Int)
            (List.map eStr (leftOf (List.take ns.length ns) (List.take es.length es) c a b)).length)))
      (1 : Int) <
    (0 : Int)))
                          (.ret [C.bool false])
                          (.ask (heldS
    (strs
      (List.take (List.map eStr (leftOf (List.take ns.length ns) (List.take es.length es) c a b)).length
        (mk mkS (1 : Int) (1 : Int)
          (List.map eStr (leftOf (List.take ns.length ns) (List.take es.length es) c a b)).length)))
    (1 : Int) !=
  Int.ofNat ((1 : Nat) + (List.map eStr (leftOf (List.take ns.length ns) (List.take es.length es) c a b)).length))
                           (.ret [C.bool false])
                           (.must (diskLens (1048576 : Nat) ns es os ss && diskRows ns es os ss)
                            (.must ((true && ns.all fun row => decide (row.length = (3 : Nat))) &&
      ((true && es.all fun row => decide (row.length = (2 : Nat))) &&
        ((true && os.all fun row => decide (row.length = (2 : Nat))) &&
          ((true && ss.all fun row => decide (row.length = (1 : Nat))) &&
            (decide ((0 : Nat) < (1 : Nat)) && true && (decide ((0 : Nat) < (1 : Nat)) && true && true))))) &&
    true &&
  true)
                             (.must (dkOk (List.take ns.length ns) (List.take es.length es))
                              (.must ((true &&
        (List.map eStr (leftOf (List.take ns.length ns) (List.take es.length es) c a b)).all fun row =>
          decide (row.length = (1 : Nat))) &&
      true &&
    true &&
  true)
                               (.must (decide
    ((List.take (List.map eStr (leftOf (List.take ns.length ns) (List.take es.length es) c a b)).length
          (List.map eStr (leftOf (List.take ns.length ns) (List.take es.length es) c a b))).length ≤
      (1073741824 : Nat)) &&
  (rowsOk [K.str]
      (List.take (List.map eStr (leftOf (List.take ns.length ns) (List.take es.length es) c a b)).length
        (List.map eStr (leftOf (List.take ns.length ns) (List.take es.length es) c a b))) &&
    rowsOk [K.str]
      (List.take (List.map eStr (leftOf (List.take ns.length ns) (List.take es.length es) c a b)).length
        (List.map eStr (leftOf (List.take ns.length ns) (List.take es.length es) c a b)))))
                                (.ask (decide
  (strs
      (List.take (List.map eStr (leftOf (List.take ns.length ns) (List.take es.length es) c a b)).length
        (List.map eStr (leftOf (List.take ns.length ns) (List.take es.length es) c a b))) =
    strs
      (List.take (List.map eStr (leftOf (List.take ns.length ns) (List.take es.length es) c a b)).length
        (List.map eStr (leftOf (List.take ns.length ns) (List.take es.length es) c a b)))))
                                 (.must (rowsOk [K.str]
    (List.take (List.map eStr (leftOf (List.take ns.length ns) (List.take es.length es) c a b)).length
      (mk mkS (1 : Int) (1 : Int)
        (List.map eStr (leftOf (List.take ns.length ns) (List.take es.length es) c a b)).length)) &&
  (decide
      ((List.take (List.map eStr (leftOf (List.take ns.length ns) (List.take es.length es) c a b)).length
            (mk mkS (1 : Int) (1 : Int)
              (List.map eStr (leftOf (List.take ns.length ns) (List.take es.length es) c a b)).length)).length ≤
        (1073741824 : Nat)) &&
    (decide ((0 : Int) ≤ (1 : Int)) && decide ((1 : Int) ≤ (1099511627776 : Int)))))
                                  (.ask (decide
  (heldS
      (strs
        (List.take (List.map eStr (leftOf (List.take ns.length ns) (List.take es.length es) c a b)).length
          (mk mkS (1 : Int) (1 : Int)
            (List.map eStr (leftOf (List.take ns.length ns) (List.take es.length es) c a b)).length)))
      (1 : Int) <
    (0 : Int)))
                                   (.ret [C.bool false])
                                   (.ask (heldS
    (strs
      (List.take (List.map eStr (leftOf (List.take ns.length ns) (List.take es.length es) c a b)).length
        (mk mkS (1 : Int) (1 : Int)
          (List.map eStr (leftOf (List.take ns.length ns) (List.take es.length es) c a b)).length)))
    (1 : Int) !=
  Int.ofNat ((1 : Nat) + (List.map eStr (leftOf (List.take ns.length ns) (List.take es.length es) c a b)).length))
                                    (.ret [C.bool false])
                                    (.ret [C.bool true]))))
                                 (.ret [C.bool false])))))))))))))
                     (.ret [C.bool false]))))))
                (.ret [C.bool false])))))
            (.ret [C.bool false]))))))))))))) : T (List C)).eval := evalEq (by kernel_rfl)
theorem sHas_round0 (H : List Pt → Nat → St → T (List C)) (r : List (List C)) (n : Int) (i : Int) (k : Nat) : (vRound E_sHas noInl (sg [pSl (3 : TypeId), pI] [rB]) Tryz.f58 H [Pt.r, Pt.l, Pt.r, Pt.b] k (H_sHas r n i)).eval =
 ((.ask (decide (i < (↑r.length : Int)))
 (.must (decide ((0 : Int) ≤ i) && decide (i < (↑r.length : Int)) && decide ((r.getD i.toNat []).length = (1 : Nat)))
  (.must (decide ((0 : Nat) < (r.getD i.toNat []).length) &&
    C.is (K.int IntKind.i64) ((r.getD i.toNat []).getD (0 : Nat) (C.fn (0 : FuncId) [])) &&
  true)
   (.ask (decide (((r.getD i.toNat []).getD (0 : Nat) (C.fn (0 : FuncId) [])).toInt = n))
    (.ret [C.bool true])
    (H [Pt.r, Pt.l, Pt.r, Pt.b] k (H_sHas (r) (n) (IntKind.i64.wrap (i + (1 : Int))))))))
 (.ret [C.bool false])) : T (List C)).eval := evalEq (by kernel_rfl)
theorem sLeft_round0 (H : List Pt → Nat → St → T (List C)) (ns : List (List C)) (es : List (List C)) (os : List (List C)) (ss : List (List C)) (r : Int) (x : Int) (c : Int) (a : Int) (b : Int) (n : Nat) (o : List (List C)) (m2 : Nat) (bs : List (List C)) (i : Int) (k : Nat) : (vRound E_sLeft noInl (sg [pDisk, pI, pI, pI] [rSl (9 : TypeId)]) Tryz.f33 H [Pt.r, Pt.r, Pt.r, Pt.r, Pt.l, Pt.r, Pt.b] k
  (H_sLeft ns es os ss r x c a b n o m2 bs i)).eval =
 ((.ask (decide (i < (↑m2 : Int)))
 (.must (decide ((0 : Int) ≤ i) && decide (i < (↑m2 : Int)))
  (.must (decide ((0 : Nat) + i.toNat < bs.length) &&
  (decide ((0 : Nat) < (bs.getD ((0 : Nat) + i.toNat) []).length) &&
      C.is (K.int IntKind.i64) ((bs.getD ((0 : Nat) + i.toNat) []).getD (0 : Nat) (C.fn (0 : FuncId) [])) &&
    true))
   (.must (neOk ns es)
    (.must (decide
  ((textAt (nds ns) (ens es) ((bs.getD ((0 : Nat) + i.toNat) []).getD (0 : Nat) (C.fn (0 : FuncId) [])).toInt).length ≤
    (1048576 : Nat)))
     (.must ((true &&
        (List.map eStr
              (scRecs
                (textAt (nds ns) (ens es)
                  ((bs.getD ((0 : Nat) + i.toNat) []).getD (0 : Nat) (C.fn (0 : FuncId) [])).toInt))).all
          fun row => decide (row.length = (1 : Nat))) &&
      true &&
    true &&
  true)
      (.must (decide ((0 : Int) ≤ i) && decide (i < (↑m2 : Int)))
       (.must (decide ((0 : Nat) + i.toNat < bs.length) &&
  (decide ((0 : Nat) < (bs.getD ((0 : Nat) + i.toNat) []).length) &&
      C.is (K.int IntKind.i64) ((bs.getD ((0 : Nat) + i.toNat) []).getD (0 : Nat) (C.fn (0 : FuncId) [])) &&
    true))
        (.ask (((bs.getD ((0 : Nat) + i.toNat) []).getD (0 : Nat) (C.fn (0 : FuncId) [])).toInt != c)
         (.must (decide (n = o.length) &&
    roomy
      (o.length +
        (List.take
            (List.map eStr
                (scRecs
                  (textAt (nds ns) (ens es)
                    ((bs.getD ((0 : Nat) + i.toNat) []).getD (0 : Nat) (C.fn (0 : FuncId) [])).toInt))).length
            (List.map eStr
              (scRecs
                (textAt (nds ns) (ens es)
                  ((bs.getD ((0 : Nat) + i.toNat) []).getD (0 : Nat) (C.fn (0 : FuncId) [])).toInt)))).length)
      (16 : Nat) &&
  (List.take
        (List.map eStr
            (scRecs
              (textAt (nds ns) (ens es)
                ((bs.getD ((0 : Nat) + i.toNat) []).getD (0 : Nat) (C.fn (0 : FuncId) [])).toInt))).length
        (List.map eStr
          (scRecs
            (textAt (nds ns) (ens es)
              ((bs.getD ((0 : Nat) + i.toNat) []).getD (0 : Nat) (C.fn (0 : FuncId) [])).toInt)))).all
    fun r => decide (r.length = (1 : Nat)))
          (H [Pt.r, Pt.r, Pt.r, Pt.r, Pt.l, Pt.r, Pt.b] k (H_sLeft (ns) (es) (os) (ss) (r) (x) (c) (a) (b) (o.length +
  (List.take
      (List.map eStr
          (scRecs
            (textAt (nds ns) (ens es)
              ((bs.getD ((0 : Nat) + i.toNat) []).getD (0 : Nat) (C.fn (0 : FuncId) [])).toInt))).length
      (List.map eStr
        (scRecs
          (textAt (nds ns) (ens es)
            ((bs.getD ((0 : Nat) + i.toNat) []).getD (0 : Nat) (C.fn (0 : FuncId) [])).toInt)))).length) (o.append
  (List.take
    (List.map eStr
        (scRecs
          (textAt (nds ns) (ens es)
            ((bs.getD ((0 : Nat) + i.toNat) []).getD (0 : Nat) (C.fn (0 : FuncId) [])).toInt))).length
    (List.map eStr
      (scRecs
        (textAt (nds ns) (ens es) ((bs.getD ((0 : Nat) + i.toNat) []).getD (0 : Nat) (C.fn (0 : FuncId) [])).toInt))))) (m2) (bs) (IntKind.i64.wrap (i + (1 : Int))))))
         (.must (decide
  ((textAt (nds ns) (ens es) ((bs.getD ((0 : Nat) + i.toNat) []).getD (0 : Nat) (C.fn (0 : FuncId) [])).toInt).length ≤
    (1048576 : Nat)))
          (.must (decide
    ((0 : Int) ≤
      firstHit
        (textAt (nds ns) (ens es) ((bs.getD ((0 : Nat) + i.toNat) []).getD (0 : Nat) (C.fn (0 : FuncId) [])).toInt) a
        b) &&
  decide
    (firstHit
        (textAt (nds ns) (ens es) ((bs.getD ((0 : Nat) + i.toNat) []).getD (0 : Nat) (C.fn (0 : FuncId) [])).toInt) a
        b ≤
      (↑(List.map eStr
              (scRecs
                (textAt (nds ns) (ens es)
                  ((bs.getD ((0 : Nat) + i.toNat) []).getD (0 : Nat) (C.fn (0 : FuncId) [])).toInt))).length :
        Int)))
           (.must (decide (n = o.length) &&
    roomy
      (o.length +
        (List.take
            ((firstHit
                  (textAt (nds ns) (ens es)
                    ((bs.getD ((0 : Nat) + i.toNat) []).getD (0 : Nat) (C.fn (0 : FuncId) [])).toInt)
                  a b).toNat -
              (0 : Nat))
            (List.map eStr
              (scRecs
                (textAt (nds ns) (ens es)
                  ((bs.getD ((0 : Nat) + i.toNat) []).getD (0 : Nat) (C.fn (0 : FuncId) [])).toInt)))).length)
      (16 : Nat) &&
  (List.take
        ((firstHit
              (textAt (nds ns) (ens es)
                ((bs.getD ((0 : Nat) + i.toNat) []).getD (0 : Nat) (C.fn (0 : FuncId) [])).toInt)
              a b).toNat -
          (0 : Nat))
        (List.map eStr
          (scRecs
            (textAt (nds ns) (ens es)
              ((bs.getD ((0 : Nat) + i.toNat) []).getD (0 : Nat) (C.fn (0 : FuncId) [])).toInt)))).all
    fun r => decide (r.length = (1 : Nat)))
            (.ask (decide
  (firstHit (textAt (nds ns) (ens es) ((bs.getD ((0 : Nat) + i.toNat) []).getD (0 : Nat) (C.fn (0 : FuncId) [])).toInt)
      a b <
    (↑(List.map eStr
            (scRecs
              (textAt (nds ns) (ens es)
                ((bs.getD ((0 : Nat) + i.toNat) []).getD (0 : Nat) (C.fn (0 : FuncId) [])).toInt))).length :
      Int)))
             (.must (decide
          (o.length +
              (List.take
                  ((firstHit
                        (textAt (nds ns) (ens es)
                          ((bs.getD ((0 : Nat) + i.toNat) []).getD (0 : Nat) (C.fn (0 : FuncId) [])).toInt)
                        a b).toNat -
                    (0 : Nat))
                  (List.map eStr
                    (scRecs
                      (textAt (nds ns) (ens es)
                        ((bs.getD ((0 : Nat) + i.toNat) []).getD (0 : Nat) (C.fn (0 : FuncId) [])).toInt)))).length =
            (o.append
                (List.take
                  ((firstHit
                        (textAt (nds ns) (ens es)
                          ((bs.getD ((0 : Nat) + i.toNat) []).getD (0 : Nat) (C.fn (0 : FuncId) [])).toInt)
                        a b).toNat -
                    (0 : Nat))
                  (List.map eStr
                    (scRecs
                      (textAt (nds ns) (ens es)
                        ((bs.getD ((0 : Nat) + i.toNat) []).getD (0 : Nat) (C.fn (0 : FuncId) [])).toInt))))).length) &&
        (false ||
          (o.append
                (List.take
                  ((firstHit
                        (textAt (nds ns) (ens es)
                          ((bs.getD ((0 : Nat) + i.toNat) []).getD (0 : Nat) (C.fn (0 : FuncId) [])).toInt)
                        a b).toNat -
                    (0 : Nat))
                  (List.map eStr
                    (scRecs
                      (textAt (nds ns) (ens es)
                        ((bs.getD ((0 : Nat) + i.toNat) []).getD (0 : Nat) (C.fn (0 : FuncId) [])).toInt))))).all
            fun r => r.all C.flat) &&
      true &&
    true &&
  true)
              (.ret [C.sl
    (o.append
      (List.take
        ((firstHit
              (textAt (nds ns) (ens es)
                ((bs.getD ((0 : Nat) + i.toNat) []).getD (0 : Nat) (C.fn (0 : FuncId) [])).toInt)
              a b).toNat -
          (0 : Nat))
        (List.map eStr
          (scRecs
            (textAt (nds ns) (ens es)
              ((bs.getD ((0 : Nat) + i.toNat) []).getD (0 : Nat) (C.fn (0 : FuncId) [])).toInt)))))]))
             (H [Pt.r, Pt.r, Pt.r, Pt.r, Pt.l, Pt.r, Pt.b] k (H_sLeft (ns) (es) (os) (ss) (r) (x) (c) (a) (b) (o.length +
  (List.take
      ((firstHit
            (textAt (nds ns) (ens es) ((bs.getD ((0 : Nat) + i.toNat) []).getD (0 : Nat) (C.fn (0 : FuncId) [])).toInt)
            a b).toNat -
        (0 : Nat))
      (List.map eStr
        (scRecs
          (textAt (nds ns) (ens es)
            ((bs.getD ((0 : Nat) + i.toNat) []).getD (0 : Nat) (C.fn (0 : FuncId) [])).toInt)))).length) (o.append
  (List.take
    ((firstHit
          (textAt (nds ns) (ens es) ((bs.getD ((0 : Nat) + i.toNat) []).getD (0 : Nat) (C.fn (0 : FuncId) [])).toInt) a
          b).toNat -
      (0 : Nat))
    (List.map eStr
      (scRecs
        (textAt (nds ns) (ens es) ((bs.getD ((0 : Nat) + i.toNat) []).getD (0 : Nat) (C.fn (0 : FuncId) [])).toInt))))) (m2) (bs) (IntKind.i64.wrap (i + (1 : Int)))))))))))))))))
 (.must (decide (n = o.length) && (false || o.all fun r => r.all C.flat) && true && true && true)
  (.ret [C.sl o]))) : T (List C)).eval := evalEq (by kernel_rfl)
theorem iLeft_round0 (H : List Pt → Nat → St → T (List C)) (c : Int) (a : Int) (b : Int) (n : Nat) (o : List (List C)) (m2 : Nat) (ls : List (List C)) (k2 : Int) (i : Int) (k : Nat) : (vRound E_iLeft noInl (sg [pDisk, pI, pI, pI] [rSl (9 : TypeId)]) Tryz.f34 H [Pt.r, Pt.r, Pt.l, Pt.r, Pt.b] k
  (H_iLeft c a b n o m2 ls k2 i)).eval =
 ((.ask (decide (i < k2))
 (.must (decide ((0 : Int) ≤ i) && decide (i < (↑m2 : Int)))
  (.must (decide ((0 : Nat) + i.toNat < ls.length) &&
  (decide ((0 : Nat) < (ls.getD ((0 : Nat) + i.toNat) []).length) &&
      C.is (K.int IntKind.i64) ((ls.getD ((0 : Nat) + i.toNat) []).getD (0 : Nat) (C.fn (0 : FuncId) [])) &&
    (decide ((0 : Nat) + (1 : Nat) < (ls.getD ((0 : Nat) + i.toNat) []).length) &&
        C.is K.str ((ls.getD ((0 : Nat) + i.toNat) []).getD ((0 : Nat) + (1 : Nat)) (C.fn (0 : FuncId) [])) &&
      (decide ((0 : Nat) + (1 : Nat) + (1 : Nat) < (ls.getD ((0 : Nat) + i.toNat) []).length) &&
          C.is K.bool
            ((ls.getD ((0 : Nat) + i.toNat) []).getD ((0 : Nat) + (1 : Nat) + (1 : Nat)) (C.fn (0 : FuncId) [])) &&
        (decide ((0 : Nat) + (1 : Nat) + (1 : Nat) + (1 : Nat) < (ls.getD ((0 : Nat) + i.toNat) []).length) &&
            C.is (K.int IntKind.i64)
              ((ls.getD ((0 : Nat) + i.toNat) []).getD ((0 : Nat) + (1 : Nat) + (1 : Nat) + (1 : Nat))
                (C.fn (0 : FuncId) [])) &&
          (decide
                ((0 : Nat) + (1 : Nat) + (1 : Nat) + (1 : Nat) + (1 : Nat) <
                  (ls.getD ((0 : Nat) + i.toNat) []).length) &&
              C.is (K.int IntKind.i64)
                ((ls.getD ((0 : Nat) + i.toNat) []).getD ((0 : Nat) + (1 : Nat) + (1 : Nat) + (1 : Nat) + (1 : Nat))
                  (C.fn (0 : FuncId) [])) &&
            (decide
                  ((0 : Nat) + (1 : Nat) + (1 : Nat) + (1 : Nat) + (1 : Nat) + (1 : Nat) <
                    (ls.getD ((0 : Nat) + i.toNat) []).length) &&
                C.is (K.int IntKind.i64)
                  ((ls.getD ((0 : Nat) + i.toNat) []).getD
                    ((0 : Nat) + (1 : Nat) + (1 : Nat) + (1 : Nat) + (1 : Nat) + (1 : Nat)) (C.fn (0 : FuncId) [])) &&
              (decide
                    ((0 : Nat) + (1 : Nat) + (1 : Nat) + (1 : Nat) + (1 : Nat) + (1 : Nat) + (1 : Nat) <
                      (ls.getD ((0 : Nat) + i.toNat) []).length) &&
                  C.is (K.int IntKind.i64)
                    ((ls.getD ((0 : Nat) + i.toNat) []).getD
                      ((0 : Nat) + (1 : Nat) + (1 : Nat) + (1 : Nat) + (1 : Nat) + (1 : Nat) + (1 : Nat))
                      (C.fn (0 : FuncId) [])) &&
                (decide
                      ((0 : Nat) + (1 : Nat) + (1 : Nat) + (1 : Nat) + (1 : Nat) + (1 : Nat) + (1 : Nat) + (1 : Nat) <
                        (ls.getD ((0 : Nat) + i.toNat) []).length) &&
                    C.is (K.slice (9 : TypeId))
                      ((ls.getD ((0 : Nat) + i.toNat) []).getD
                        ((0 : Nat) + (1 : Nat) + (1 : Nat) + (1 : Nat) + (1 : Nat) + (1 : Nat) + (1 : Nat) + (1 : Nat))
                        (C.fn (0 : FuncId) [])) &&
                  (decide
                        ((0 : Nat) + (1 : Nat) + (1 : Nat) + (1 : Nat) + (1 : Nat) + (1 : Nat) + (1 : Nat) + (1 : Nat) +
                            (1 : Nat) <
                          (ls.getD ((0 : Nat) + i.toNat) []).length) &&
                      C.is (K.slice (3 : TypeId))
                        ((ls.getD ((0 : Nat) + i.toNat) []).getD
                          ((0 : Nat) + (1 : Nat) + (1 : Nat) + (1 : Nat) + (1 : Nat) + (1 : Nat) + (1 : Nat) +
                              (1 : Nat) +
                            (1 : Nat))
                          (C.fn (0 : FuncId) [])) &&
                    (decide
                          ((0 : Nat) + (1 : Nat) + (1 : Nat) + (1 : Nat) + (1 : Nat) + (1 : Nat) + (1 : Nat) +
                                  (1 : Nat) +
                                (1 : Nat) +
                              (1 : Nat) <
                            (ls.getD ((0 : Nat) + i.toNat) []).length) &&
                        C.is (K.int IntKind.i64)
                          ((ls.getD ((0 : Nat) + i.toNat) []).getD
                            ((0 : Nat) + (1 : Nat) + (1 : Nat) + (1 : Nat) + (1 : Nat) + (1 : Nat) + (1 : Nat) +
                                  (1 : Nat) +
                                (1 : Nat) +
                              (1 : Nat))
                            (C.fn (0 : FuncId) [])) &&
                      (decide
                            ((0 : Nat) + (1 : Nat) + (1 : Nat) + (1 : Nat) + (1 : Nat) + (1 : Nat) + (1 : Nat) +
                                      (1 : Nat) +
                                    (1 : Nat) +
                                  (1 : Nat) +
                                (1 : Nat) <
                              (ls.getD ((0 : Nat) + i.toNat) []).length) &&
                          C.is K.bool
                            ((ls.getD ((0 : Nat) + i.toNat) []).getD
                              ((0 : Nat) + (1 : Nat) + (1 : Nat) + (1 : Nat) + (1 : Nat) + (1 : Nat) + (1 : Nat) +
                                      (1 : Nat) +
                                    (1 : Nat) +
                                  (1 : Nat) +
                                (1 : Nat))
                              (C.fn (0 : FuncId) [])) &&
                        true))))))))))))
   (.ask (decide (((ls.getD ((0 : Nat) + i.toNat) []).getD (0 : Nat) (C.fn (0 : FuncId) [])).toInt = c))
    (.must (decide
  (((ls.getD ((0 : Nat) + i.toNat) []).getD ((0 : Nat) + (1 : Nat)) (C.fn (0 : FuncId) [])).toStr.length ≤
    (1048576 : Nat)))
     (.must (((ls.getD ((0 : Nat) + i.toNat) []).getD
        ((0 : Nat) + (1 : Nat) + (1 : Nat) + (1 : Nat) + (1 : Nat) + (1 : Nat) + (1 : Nat) + (1 : Nat))
        (C.fn (0 : FuncId) [])).toRows.all
  fun r => decide (r.length = (1 : Nat)))
      (.must (decide
    ((0 : Int) ≤
      firstHit ((ls.getD ((0 : Nat) + i.toNat) []).getD ((0 : Nat) + (1 : Nat)) (C.fn (0 : FuncId) [])).toStr a b) &&
  decide
    (firstHit ((ls.getD ((0 : Nat) + i.toNat) []).getD ((0 : Nat) + (1 : Nat)) (C.fn (0 : FuncId) [])).toStr a b ≤
      (↑((ls.getD ((0 : Nat) + i.toNat) []).getD
                ((0 : Nat) + (1 : Nat) + (1 : Nat) + (1 : Nat) + (1 : Nat) + (1 : Nat) + (1 : Nat) + (1 : Nat))
                (C.fn (0 : FuncId) [])).toRows.length :
        Int)))
       (.must (decide (n = o.length) &&
    roomy
      (o.length +
        (List.take
            (firstHit ((ls.getD ((0 : Nat) + i.toNat) []).getD ((0 : Nat) + (1 : Nat)) (C.fn (0 : FuncId) [])).toStr a
                b).toNat
            ((ls.getD ((0 : Nat) + i.toNat) []).getD
                ((0 : Nat) + (1 : Nat) + (1 : Nat) + (1 : Nat) + (1 : Nat) + (1 : Nat) + (1 : Nat) + (1 : Nat))
                (C.fn (0 : FuncId) [])).toRows).length)
      (16 : Nat) &&
  (List.take
        (firstHit ((ls.getD ((0 : Nat) + i.toNat) []).getD ((0 : Nat) + (1 : Nat)) (C.fn (0 : FuncId) [])).toStr a
            b).toNat
        ((ls.getD ((0 : Nat) + i.toNat) []).getD
            ((0 : Nat) + (1 : Nat) + (1 : Nat) + (1 : Nat) + (1 : Nat) + (1 : Nat) + (1 : Nat) + (1 : Nat))
            (C.fn (0 : FuncId) [])).toRows).all
    fun r => decide (r.length = (1 : Nat)))
        (.ask (decide
  (firstHit ((ls.getD ((0 : Nat) + i.toNat) []).getD ((0 : Nat) + (1 : Nat)) (C.fn (0 : FuncId) [])).toStr a b <
    (↑((ls.getD ((0 : Nat) + i.toNat) []).getD
              ((0 : Nat) + (1 : Nat) + (1 : Nat) + (1 : Nat) + (1 : Nat) + (1 : Nat) + (1 : Nat) + (1 : Nat))
              (C.fn (0 : FuncId) [])).toRows.length :
      Int)))
         (.must (decide
          (o.length +
              (List.take
                  (firstHit
                      ((ls.getD ((0 : Nat) + i.toNat) []).getD ((0 : Nat) + (1 : Nat)) (C.fn (0 : FuncId) [])).toStr a
                      b).toNat
                  ((ls.getD ((0 : Nat) + i.toNat) []).getD
                      ((0 : Nat) + (1 : Nat) + (1 : Nat) + (1 : Nat) + (1 : Nat) + (1 : Nat) + (1 : Nat) + (1 : Nat))
                      (C.fn (0 : FuncId) [])).toRows).length =
            (o.append
                (List.take
                  (firstHit
                      ((ls.getD ((0 : Nat) + i.toNat) []).getD ((0 : Nat) + (1 : Nat)) (C.fn (0 : FuncId) [])).toStr a
                      b).toNat
                  ((ls.getD ((0 : Nat) + i.toNat) []).getD
                      ((0 : Nat) + (1 : Nat) + (1 : Nat) + (1 : Nat) + (1 : Nat) + (1 : Nat) + (1 : Nat) + (1 : Nat))
                      (C.fn (0 : FuncId) [])).toRows)).length) &&
        (false ||
          (o.append
                (List.take
                  (firstHit
                      ((ls.getD ((0 : Nat) + i.toNat) []).getD ((0 : Nat) + (1 : Nat)) (C.fn (0 : FuncId) [])).toStr a
                      b).toNat
                  ((ls.getD ((0 : Nat) + i.toNat) []).getD
                      ((0 : Nat) + (1 : Nat) + (1 : Nat) + (1 : Nat) + (1 : Nat) + (1 : Nat) + (1 : Nat) + (1 : Nat))
                      (C.fn (0 : FuncId) [])).toRows)).all
            fun r => r.all C.flat) &&
      true &&
    true &&
  true)
          (.ret [C.sl
    (o.append
      (List.take
        (firstHit ((ls.getD ((0 : Nat) + i.toNat) []).getD ((0 : Nat) + (1 : Nat)) (C.fn (0 : FuncId) [])).toStr a
            b).toNat
        ((ls.getD ((0 : Nat) + i.toNat) []).getD
            ((0 : Nat) + (1 : Nat) + (1 : Nat) + (1 : Nat) + (1 : Nat) + (1 : Nat) + (1 : Nat) + (1 : Nat))
            (C.fn (0 : FuncId) [])).toRows))]))
         (H [Pt.r, Pt.r, Pt.l, Pt.r, Pt.b] k (H_iLeft (c) (a) (b) (o.length +
  (List.take
      (firstHit ((ls.getD ((0 : Nat) + i.toNat) []).getD ((0 : Nat) + (1 : Nat)) (C.fn (0 : FuncId) [])).toStr a
          b).toNat
      ((ls.getD ((0 : Nat) + i.toNat) []).getD
          ((0 : Nat) + (1 : Nat) + (1 : Nat) + (1 : Nat) + (1 : Nat) + (1 : Nat) + (1 : Nat) + (1 : Nat))
          (C.fn (0 : FuncId) [])).toRows).length) (o.append
  (List.take
    (firstHit ((ls.getD ((0 : Nat) + i.toNat) []).getD ((0 : Nat) + (1 : Nat)) (C.fn (0 : FuncId) [])).toStr a b).toNat
    ((ls.getD ((0 : Nat) + i.toNat) []).getD
        ((0 : Nat) + (1 : Nat) + (1 : Nat) + (1 : Nat) + (1 : Nat) + (1 : Nat) + (1 : Nat) + (1 : Nat))
        (C.fn (0 : FuncId) [])).toRows)) (m2) (ls) (k2) (IntKind.i64.wrap (i + (1 : Int))))))))))
    (.must (((ls.getD ((0 : Nat) + i.toNat) []).getD
        ((0 : Nat) + (1 : Nat) + (1 : Nat) + (1 : Nat) + (1 : Nat) + (1 : Nat) + (1 : Nat) + (1 : Nat))
        (C.fn (0 : FuncId) [])).toRows.all
  fun r => decide (r.length = (1 : Nat)))
     (.must (decide
    ((0 : Int) ≤
      (↑((ls.getD ((0 : Nat) + i.toNat) []).getD
                ((0 : Nat) + (1 : Nat) + (1 : Nat) + (1 : Nat) + (1 : Nat) + (1 : Nat) + (1 : Nat) + (1 : Nat))
                (C.fn (0 : FuncId) [])).toRows.length :
        Int)) &&
  decide
    ((↑((ls.getD ((0 : Nat) + i.toNat) []).getD
                ((0 : Nat) + (1 : Nat) + (1 : Nat) + (1 : Nat) + (1 : Nat) + (1 : Nat) + (1 : Nat) + (1 : Nat))
                (C.fn (0 : FuncId) [])).toRows.length :
        Int) ≤
      (↑((ls.getD ((0 : Nat) + i.toNat) []).getD
                ((0 : Nat) + (1 : Nat) + (1 : Nat) + (1 : Nat) + (1 : Nat) + (1 : Nat) + (1 : Nat) + (1 : Nat))
                (C.fn (0 : FuncId) [])).toRows.length :
        Int)))
      (.must (decide (n = o.length) &&
    roomy
      (o.length +
        (List.take
            (↑((ls.getD ((0 : Nat) + i.toNat) []).getD
                        ((0 : Nat) + (1 : Nat) + (1 : Nat) + (1 : Nat) + (1 : Nat) + (1 : Nat) + (1 : Nat) + (1 : Nat))
                        (C.fn (0 : FuncId) [])).toRows.length :
                Int).toNat
            ((ls.getD ((0 : Nat) + i.toNat) []).getD
                ((0 : Nat) + (1 : Nat) + (1 : Nat) + (1 : Nat) + (1 : Nat) + (1 : Nat) + (1 : Nat) + (1 : Nat))
                (C.fn (0 : FuncId) [])).toRows).length)
      (16 : Nat) &&
  (List.take
        (↑((ls.getD ((0 : Nat) + i.toNat) []).getD
                    ((0 : Nat) + (1 : Nat) + (1 : Nat) + (1 : Nat) + (1 : Nat) + (1 : Nat) + (1 : Nat) + (1 : Nat))
                    (C.fn (0 : FuncId) [])).toRows.length :
            Int).toNat
        ((ls.getD ((0 : Nat) + i.toNat) []).getD
            ((0 : Nat) + (1 : Nat) + (1 : Nat) + (1 : Nat) + (1 : Nat) + (1 : Nat) + (1 : Nat) + (1 : Nat))
            (C.fn (0 : FuncId) [])).toRows).all
    fun r => decide (r.length = (1 : Nat)))
       (.ask (decide
  ((↑((ls.getD ((0 : Nat) + i.toNat) []).getD
              ((0 : Nat) + (1 : Nat) + (1 : Nat) + (1 : Nat) + (1 : Nat) + (1 : Nat) + (1 : Nat) + (1 : Nat))
              (C.fn (0 : FuncId) [])).toRows.length :
      Int) <
    (↑((ls.getD ((0 : Nat) + i.toNat) []).getD
              ((0 : Nat) + (1 : Nat) + (1 : Nat) + (1 : Nat) + (1 : Nat) + (1 : Nat) + (1 : Nat) + (1 : Nat))
              (C.fn (0 : FuncId) [])).toRows.length :
      Int)))
        (.must (decide
          (o.length +
              (List.take
                  (↑((ls.getD ((0 : Nat) + i.toNat) []).getD
                              ((0 : Nat) + (1 : Nat) + (1 : Nat) + (1 : Nat) + (1 : Nat) + (1 : Nat) + (1 : Nat) +
                                (1 : Nat))
                              (C.fn (0 : FuncId) [])).toRows.length :
                      Int).toNat
                  ((ls.getD ((0 : Nat) + i.toNat) []).getD
                      ((0 : Nat) + (1 : Nat) + (1 : Nat) + (1 : Nat) + (1 : Nat) + (1 : Nat) + (1 : Nat) + (1 : Nat))
                      (C.fn (0 : FuncId) [])).toRows).length =
            (o.append
                (List.take
                  (↑((ls.getD ((0 : Nat) + i.toNat) []).getD
                              ((0 : Nat) + (1 : Nat) + (1 : Nat) + (1 : Nat) + (1 : Nat) + (1 : Nat) + (1 : Nat) +
                                (1 : Nat))
                              (C.fn (0 : FuncId) [])).toRows.length :
                      Int).toNat
                  ((ls.getD ((0 : Nat) + i.toNat) []).getD
                      ((0 : Nat) + (1 : Nat) + (1 : Nat) + (1 : Nat) + (1 : Nat) + (1 : Nat) + (1 : Nat) + (1 : Nat))
                      (C.fn (0 : FuncId) [])).toRows)).length) &&
        (false ||
          (o.append
                (List.take
                  (↑((ls.getD ((0 : Nat) + i.toNat) []).getD
                              ((0 : Nat) + (1 : Nat) + (1 : Nat) + (1 : Nat) + (1 : Nat) + (1 : Nat) + (1 : Nat) +
                                (1 : Nat))
                              (C.fn (0 : FuncId) [])).toRows.length :
                      Int).toNat
                  ((ls.getD ((0 : Nat) + i.toNat) []).getD
                      ((0 : Nat) + (1 : Nat) + (1 : Nat) + (1 : Nat) + (1 : Nat) + (1 : Nat) + (1 : Nat) + (1 : Nat))
                      (C.fn (0 : FuncId) [])).toRows)).all
            fun r => r.all C.flat) &&
      true &&
    true &&
  true)
         (.ret [C.sl
    (o.append
      (List.take
        (↑((ls.getD ((0 : Nat) + i.toNat) []).getD
                    ((0 : Nat) + (1 : Nat) + (1 : Nat) + (1 : Nat) + (1 : Nat) + (1 : Nat) + (1 : Nat) + (1 : Nat))
                    (C.fn (0 : FuncId) [])).toRows.length :
            Int).toNat
        ((ls.getD ((0 : Nat) + i.toNat) []).getD
            ((0 : Nat) + (1 : Nat) + (1 : Nat) + (1 : Nat) + (1 : Nat) + (1 : Nat) + (1 : Nat) + (1 : Nat))
            (C.fn (0 : FuncId) [])).toRows))]))
        (H [Pt.r, Pt.r, Pt.l, Pt.r, Pt.b] k (H_iLeft (c) (a) (b) (o.length +
  (List.take
      (↑((ls.getD ((0 : Nat) + i.toNat) []).getD
                  ((0 : Nat) + (1 : Nat) + (1 : Nat) + (1 : Nat) + (1 : Nat) + (1 : Nat) + (1 : Nat) + (1 : Nat))
                  (C.fn (0 : FuncId) [])).toRows.length :
          Int).toNat
      ((ls.getD ((0 : Nat) + i.toNat) []).getD
          ((0 : Nat) + (1 : Nat) + (1 : Nat) + (1 : Nat) + (1 : Nat) + (1 : Nat) + (1 : Nat) + (1 : Nat))
          (C.fn (0 : FuncId) [])).toRows).length) (o.append
  (List.take
    (↑((ls.getD ((0 : Nat) + i.toNat) []).getD
                ((0 : Nat) + (1 : Nat) + (1 : Nat) + (1 : Nat) + (1 : Nat) + (1 : Nat) + (1 : Nat) + (1 : Nat))
                (C.fn (0 : FuncId) [])).toRows.length :
        Int).toNat
    ((ls.getD ((0 : Nat) + i.toNat) []).getD
        ((0 : Nat) + (1 : Nat) + (1 : Nat) + (1 : Nat) + (1 : Nat) + (1 : Nat) + (1 : Nat) + (1 : Nat))
        (C.fn (0 : FuncId) [])).toRows)) (m2) (ls) (k2) (IntKind.i64.wrap (i + (1 : Int))))))))))))
 (.must (decide (n = o.length) && (false || o.all fun r => r.all C.flat) && true && true && true)
  (.ret [C.sl o]))) : T (List C)).eval := evalEq (by kernel_rfl)
end Go.Proofs.YtpjcnjefffakpaaGreatDoor.V

namespace Go.Proofs.YtpjcnjefffakpaaGreatDoor.V

theorem sHas_loop (l : List Int) (m : Int) (hl : l.length ≤ 1048576) : ∀ (n i : Nat), i ≤ l.length → l.length < i + n →
    (vLoop E_sHas noInl (sg [pSl 3, pI] [rB]) Tryz.f58 [.r, .l, .r, .b] n (H_sHas (l.map eInt) m i)).eval = some [.bool (hasInt (l.drop i) m)] := by
  intro n
  induction n with
  | zero => intro i h1 h2; omega
  | succ n ih =>
    intro i h1 h2
    rw [vLoop_L _ _ _ _ _ _ _ (by kernel_rfl), sHas_round0]
    by_cases hi : i < l.length
    · have g := map_getD eInt l 0 i hi
      have w : IntKind.i64.wrap ((i : Int) + 1) = ((i + 1 : Nat) : Int) := by rw [wrap64] <;> omega
      have hz : (0 : Int) ≤ i := by omega
      have hi' : (i : Int) < l.length := by omega
      rw [drop_cons l i 0 hi]
      generalize l.getD i 0 = y at g ⊢
      simp only [eval_must', eval_ask', eval_ret', if_true, decide_eq_true_eq, Bool.and_eq_true, w, hz, hi', Int.toNat_natCast, List.length_map, g, and_self, List.getD_cons_zero, C.toInt, C.is, List.length_cons, List.length_nil, Nat.zero_add, Nat.zero_lt_succ, decide_true, beq_iff_eq, hasInt]
      by_cases hy : y = m
      · simp only [hy, if_true]
      · simp only [hy, if_false]
        exact ih (i + 1) (by omega) (by omega)
    · have e : i = l.length := by omega
      subst e
      have hi' : ¬ ((l.length : Int) < (l.length : Int)) := by omega
      simp only [eval_ask', eval_ret', decide_eq_true_eq, List.length_map, hi', if_false, List.drop_length, hasInt]
theorem sHas_E : EnvSound Tryz.prog E_sHas := mkE_sound (by simp [])
theorem sHas_sound : Sound Tryz.prog 58 (sg [pSl 3, pI] [rB]) hasSpec := vBody_sound sHas_E noInl_ok Tryz.func58 (by kernel_rfl) fun cs outs hk h => by
  unfold hasSpec at h
  split at h
  · simp only [Option.some.injEq, Prod.mk.injEq, Bool.and_eq_true, decide_eq_true_eq] at h
    obtain ⟨⟨h1, h2⟩, rfl⟩ := h
    rename_i rows m
    have hr := rows_ints h1
    generalize ints rows = l at hr ⊢
    subst hr
    rw [List.length_map] at h2
    rw [vBody_L, sHas_tree]
    exact sHas_loop l m h2 9223372036854775808 0 (by omega) (by omega)
  · cases h
theorem firstFrom_range (b : List UInt8) (x y : Int) : ∀ (f i : Nat), i ≤ firstFrom b x y f i ∧ firstFrom b x y f i ≤ i + f := by
  intro f
  induction f with
  | zero => intro i; simp [firstFrom]
  | succ f ih =>
    intro i
    simp only [firstFrom]
    split
    · omega
    · have := ih (i + 1); omega
theorem hit_range (b : List UInt8) (x y : Int) : 0 ≤ firstHit b x y ∧ firstHit b x y ≤ ((scRecs b).length : Nat) := by
  unfold firstHit
  split
  · omega
  · have := firstFrom_range b x y (scRecs b).length 0; omega
theorem leftRec_len (base a b : Int) (x : Lk) : (leftRec base a b x).length ≤ (scRecs x.2).length := by
  unfold leftRec
  split
  · simp; omega
  · exact Nat.le_refl _
theorem take_recs (l : List (List UInt8)) (k : Nat) : List.take k (l.map eStr) = (l.take k).map eStr := by simp [List.map_take]
theorem leftGo_len (base a b : Int) : ∀ (l : List Lk), (∀ x ∈ l, x.2.length ≤ 1048576) → (leftGo base a b l).length ≤ l.length * 1048576 := by
  intro l
  induction l with
  | nil => intro _; simp [leftGo]
  | cons x r ih =>
    intro h
    have h1 := leftRec_len base a b x
    have h2 := (scan_facts x.2).1
    have h3 := h x List.mem_cons_self
    have h4 := ih fun y hy => h y (List.mem_cons_of_mem _ hy)
    have h5 : (r.length + 1) * 1048576 = r.length * 1048576 + 1048576 := by omega
    simp only [leftGo, List.length_append, List.length_cons]
    rw [h5]
    split
    · simp; omega
    · omega
theorem left_none (base a b : Int) : ∀ (l : List Lk), hasInt (l.map fun x => x.1) base = false → leftGo base a b l = lkRecs l := by
  intro l
  induction l with
  | nil => intro _; rfl
  | cons x r ih =>
    intro h
    simp only [List.map_cons, hasInt] at h
    by_cases hx : x.1 = base
    · rw [if_pos hx] at h; cases h
    · rw [if_neg hx] at h
      have e1 : leftRec base a b x = scRecs x.2 := by unfold leftRec; rw [if_neg hx]
      have e2 : leftStop base a b x = false := by unfold leftStop; rw [decide_eq_false hx]; rfl
      simp only [leftGo, e1, e2, Bool.false_eq_true, if_false, ih h, lkRecs, List.flatMap_cons]
theorem sLeft_loop (ns es os ss : List (List C)) (r x base a b : Int) (hd : dkOk ns es = true) (c : List Lk) (hc : ∀ y ∈ c, y.2 = textAt (nds ns) (ens es) y.1) (hl : c.length ≤ 16) : ∀ (n i : Nat) (acc : List (List UInt8)), i ≤ c.length → c.length < i + n → acc.length ≤ i * 1048576 →
    (vLoop E_sLeft noInl (sg [pDisk, pI, pI, pI] [rSl 9]) Tryz.f33 [.r, .r, .r, .r, .l, .r, .b] n (H_sLeft ns es os ss r x base a b acc.length (acc.map eStr) c.length (lkBases c) i)).eval = some [.sl ((acc ++ leftGo base a b (c.drop i)).map eStr)] := by
  have hne := neOk_of hd
  have ht2 : ∀ y ∈ c, y.2.length ≤ 1048576 := fun y hy => by rw [hc y hy]; exact textAt_le hd _
  intro n
  induction n with
  | zero => intro i acc h1 h2; omega
  | succ n ih =>
    intro i acc h1 h2 h3
    rw [vLoop_L _ _ _ _ _ _ _ (by kernel_rfl), sLeft_round0]
    by_cases hi : i < c.length
    · have g := get_base c i hi
      have w : IntKind.i64.wrap ((i : Int) + 1) = ((i + 1 : Nat) : Int) := by rw [wrap64] <;> omega
      have hz : (0 : Int) ≤ i := by omega
      have hi' : (i : Int) < c.length := by omega
      have hm : c.getD i (0, []) ∈ c := by rw [List.getD_eq_getElem?_getD, List.getElem?_eq_getElem hi]; exact List.getElem_mem hi
      have hx := hc _ hm
      have hx2 := ht2 _ hm
      rw [drop_cons c i (0, []) hi]
      have hne2 : (lkBases c).getD (0 + i) [] = eInt (c.getD i (0, [])).1 := by rw [Nat.zero_add]; exact g
      generalize c.getD i (0, []) = y at g hx hx2 hne2 ⊢
      obtain ⟨f1, f2, f3⟩ := scan_facts y.2
      have lr := leftRec_len base a b y
      have e := ih (i + 1) (acc ++ leftRec base a b y) (by omega) (by omega) (by rw [List.length_append]; omega)
      have hr := hit_range y.2 a b
      simp only [leftGo, leftRec, leftStop] at e ⊢
      rw [hx] at hx2 f1 hr
      simp only [hx] at e ⊢
      have acl : acc.length ≤ 16777216 := by omega
      have tk : List.take (scRecs (textAt (nds ns) (ens es) y.1)).length ((scRecs (textAt (nds ns) (ens es) y.1)).map eStr) = (scRecs (textAt (nds ns) (ens es) y.1)).map eStr := by rw [List.take_of_length_le]; simp
      have ro : roomy (acc.length + (scRecs (textAt (nds ns) (ens es) y.1)).length) 16 = true := by simp only [roomy, decide_eq_true_eq]; omega
      have ro2 : roomy (acc.length + ((scRecs (textAt (nds ns) (ens es) y.1)).take (firstHit (textAt (nds ns) (ens es) y.1) a b).toNat).length) 16 = true := by simp only [roomy, decide_eq_true_eq, List.length_take]; omega
      have hlb : i < (lkBases c).length := by rw [len_bases]; exact hi
      by_cases hy : y.1 = base
      · have hb : (y.1 != base) = false := by simp [hy]
        simp only [hy, if_true, decide_true, Bool.true_and, decide_eq_true_eq] at e hb ⊢
        rw [hy] at ro2 hr hx2 f1 hne2 g
        by_cases hst : firstHit (textAt (nds ns) (ens es) base) a b < ((scRecs (textAt (nds ns) (ens es) base)).length : Int)
        · simp only [eval_must', eval_ask', eval_ret', if_true, if_false, decide_eq_true_eq, w, hz, hi', hi, hb, hr, hst, Int.toNat_natCast, len_bases, Nat.zero_add, Nat.sub_zero, g, hne, hx2, rows1, take_recs, ro2, decide_true, Bool.and_self, List.getD_cons_zero, C.toInt, C.is, List.length_cons, List.length_nil, Nat.zero_lt_succ, beq_self_eq_true, List.length_map, app_recs, flat_strs, Bool.or_true, Bool.false_eq_true, List.length_append, List.append_nil, bne_self_eq_false]
        · simp only [hst, if_false] at e ⊢
          simp only [List.length_append, List.append_assoc] at e
          simp only [eval_must', eval_ask', eval_ret', if_true, if_false, decide_eq_true_eq, w, hz, hi', hi, hb, hr, hst, Int.toNat_natCast, len_bases, Nat.zero_add, Nat.sub_zero, g, hne, hx2, rows1, take_recs, ro2, decide_true, Bool.and_self, List.getD_cons_zero, C.toInt, C.is, List.length_cons, List.length_nil, Nat.zero_lt_succ, beq_self_eq_true, List.length_map, app_recs, Bool.false_eq_true, bne_self_eq_false]
          exact e
      · have hb : (y.1 != base) = true := by simp [hy]
        simp only [hy, if_false, decide_false, Bool.false_and, Bool.false_eq_true] at e ⊢
        simp only [List.length_append, List.append_assoc] at e
        simp only [eval_must', eval_ask', eval_ret', if_true, decide_eq_true_eq, w, hz, hi', hi, hb, Int.toNat_natCast, len_bases, Nat.zero_add, g, hne, hx2, rows1, tk, ro, decide_true, Bool.and_self, List.getD_cons_zero, C.toInt, C.is, List.length_cons, List.length_nil, Nat.zero_lt_succ, beq_self_eq_true, List.length_map, app_recs]
        exact e
    · have e : i = c.length := by omega
      subst e
      have hi' : ¬ ((c.length : Int) < (c.length : Int)) := by omega
      simp only [eval_must', eval_ask', eval_ret', decide_eq_true_eq, hi', if_false, List.length_map, flat_strs, decide_true, Bool.or_true, Bool.and_self, if_true, List.drop_length, leftGo, List.append_nil]
theorem sLeft_E : EnvSound Tryz.prog E_sLeft := mkE_sound (by simp [sTextAt_sound, sRecordsIn_sound, sChain_sound, sRowOf_sound, sFirstHit_sound, sHas_sound])
theorem sLeft_sound : Sound Tryz.prog 33 (sg [pDisk, pI, pI, pI] [rSl 9]) leftSpec := vBody_sound sLeft_E noInl_ok Tryz.func33 (by kernel_rfl) fun cs outs hk h => by
  unfold leftSpec at h
  split at h
  · simp only [Option.some.injEq, Prod.mk.injEq] at h
    obtain ⟨hd, rfl⟩ := h
    rename_i ns es os ss r x c a b
    rw [vBody_L, sLeft_tree]
    have hb : ((lkBases (chain (nds ns) (ens es))).all fun row => decide (row.length = 1)) = true := by simp [lkBases]
    have hn := chainGo_len (nds ns) (ens es) 16 0 0
    have hn' : (chain (nds ns) (ens es)).length ≤ 16 := hn
    have lp := sLeft_loop ns es os ss r x c a b hd (chain (nds ns) (ens es)) (fun y hy => chainGo_text _ _ _ _ _ y hy) hn' 9223372036854775808 0 [] (by omega) (by omega) (by simp)
    rw [← len_bases] at lp
    have e1 : lkBases (chain (nds ns) (ens es)) = ((chain (nds ns) (ens es)).map fun x => x.1).map eInt := by simp [lkBases, Function.comp_def]
    have ri : rowsOk [.int .i64] (lkBases (chain (nds ns) (ens es))) = true := by rw [e1]; exact rowsOk_ints _
    have ii : ints (lkBases (chain (nds ns) (ens es))) = (chain (nds ns) (ens es)).map fun x => x.1 := by rw [e1]; simp [ints, rowInt, C.toInt, Function.comp_def]
    have lb : (lkBases (chain (nds ns) (ens es))).length ≤ 1048576 := by rw [len_bases]; omega
    have ee : leftOf ns es c a b = leftGo c a b (chain (nds ns) (ens es)) := rfl
    rw [ee]
    simp only [eval_must', eval_ask', eval_ret', hd, hb, ri, ii, lb, List.take_length, decide_true, Bool.and_self, if_true]
    by_cases hh : hasInt ((chain (nds ns) (ens es)).map fun x => x.1) c = true
    · rw [if_pos hh]
      simpa using lp
    · have hf : hasInt ((chain (nds ns) (ens es)).map fun x => x.1) c = false := by simpa using hh
      rw [left_none c a b _ hf]
      simp only [hf, Bool.false_eq_true, if_false, rows1, flat_strs, decide_true, Bool.and_self, Bool.or_true, if_true]
  · cases h
theorem iLeft_loop (base a b : Int) (c : List Lk) (ht2 : ∀ y ∈ c, y.2.length ≤ 1048576) (hl : c.length ≤ 16) : ∀ (n i : Nat) (acc : List (List UInt8)), i ≤ c.length → c.length < i + n → acc.length ≤ i * 1048576 →
    (vLoop E_iLeft noInl (sg [pDisk, pI, pI, pI] [rSl 9]) Tryz.f34 [.r, .r, .l, .r, .b] n (H_iLeft base a b acc.length (acc.map eStr) c.length (lkRows c) c.length i)).eval = some [.sl ((acc ++ leftGo base a b (c.drop i)).map eStr)] := by
  intro n
  induction n with
  | zero => intro i acc h1 h2; omega
  | succ n ih =>
    intro i acc h1 h2 h3
    rw [vLoop_L _ _ _ _ _ _ _ (by kernel_rfl), iLeft_round0]
    by_cases hi : i < c.length
    · have g := get_lk c i hi
      have w : IntKind.i64.wrap ((i : Int) + 1) = ((i + 1 : Nat) : Int) := by rw [wrap64] <;> omega
      have hz : (0 : Int) ≤ i := by omega
      have hi' : (i : Int) < c.length := by omega
      have hm : c.getD i (0, []) ∈ c := by rw [List.getD_eq_getElem?_getD, List.getElem?_eq_getElem hi]; exact List.getElem_mem hi
      have hx2 := ht2 _ hm
      rw [drop_cons c i (0, []) hi]
      generalize c.getD i (0, []) = y at g hx2 ⊢
      obtain ⟨f1, f2, f3⟩ := scan_facts y.2
      have lr := leftRec_len base a b y
      have e := ih (i + 1) (acc ++ leftRec base a b y) (by omega) (by omega) (by rw [List.length_append]; omega)
      have hr := hit_range y.2 a b
      simp only [leftGo, leftRec, leftStop] at e ⊢
      have acl : acc.length ≤ 16777216 := by omega
      have tk : List.take (scRecs y.2).length ((scRecs y.2).map eStr) = (scRecs y.2).map eStr := by rw [List.take_of_length_le]; simp
      have ro : roomy (acc.length + (scRecs y.2).length) 16 = true := by simp only [roomy, decide_eq_true_eq]; omega
      have ro2 : roomy (acc.length + ((scRecs y.2).take (firstHit y.2 a b).toNat).length) 16 = true := by simp only [roomy, decide_eq_true_eq, List.length_take]; omega
      have hnn : (0 : Int) ≤ ((scRecs y.2).length : Int) := by omega
      have hle : ((scRecs y.2).length : Int) ≤ ((scRecs y.2).length : Int) := by omega
      have hnl : ¬ ((scRecs y.2).length : Int) < ((scRecs y.2).length : Int) := by omega
      by_cases hy : y.1 = base
      · simp only [hy, if_true, decide_true, Bool.true_and, decide_eq_true_eq] at e ⊢
        by_cases hst : firstHit y.2 a b < ((scRecs y.2).length : Int)
        · simp only [eval_must', eval_ask', eval_ret', if_true, if_false, decide_eq_true_eq, w, hz, hi', hi, hy, hr, hst, Int.toNat_natCast, len_lk, Nat.zero_add, Nat.sub_zero, Nat.reduceAdd, Nat.reduceLT, g, hx2, rows1, take_recs, ro2, decide_true, Bool.and_self, List.getD_cons_zero, List.getD_cons_succ, C.toInt, C.toStr, C.toRows, C.is, List.length_cons, List.length_nil, Nat.zero_lt_succ, beq_self_eq_true, List.length_map, app_recs, flat_strs, Bool.or_true, Bool.false_eq_true, List.length_append, List.append_nil]
        · simp only [hst, if_false] at e ⊢
          simp only [List.length_append, List.append_assoc] at e
          simp only [eval_must', eval_ask', eval_ret', if_true, if_false, decide_eq_true_eq, w, hz, hi', hi, hy, hr, hst, Int.toNat_natCast, len_lk, Nat.zero_add, Nat.sub_zero, Nat.reduceAdd, Nat.reduceLT, g, hx2, rows1, take_recs, ro2, decide_true, Bool.and_self, List.getD_cons_zero, List.getD_cons_succ, C.toInt, C.toStr, C.toRows, C.is, List.length_cons, List.length_nil, Nat.zero_lt_succ, beq_self_eq_true, List.length_map, app_recs, Bool.false_eq_true]
          exact e
      · simp only [hy, if_false, decide_false, Bool.false_and, Bool.false_eq_true] at e ⊢
        simp only [List.length_append, List.append_assoc] at e
        simp only [eval_must', eval_ask', eval_ret', if_true, if_false, decide_eq_true_eq, w, hz, hi', hi, hy, hnn, hle, hnl, Int.toNat_natCast, len_lk, Nat.zero_add, Nat.sub_zero, Nat.reduceAdd, Nat.reduceLT, g, hx2, rows1, tk, ro, decide_true, Bool.and_self, List.getD_cons_zero, List.getD_cons_succ, C.toInt, C.toStr, C.toRows, C.is, List.length_cons, List.length_nil, Nat.zero_lt_succ, beq_self_eq_true, List.length_map, app_recs, Bool.false_eq_true]
        exact e
    · have e : i = c.length := by omega
      subst e
      have hi' : ¬ ((c.length : Int) < (c.length : Int)) := by omega
      simp only [eval_must', eval_ask', eval_ret', decide_eq_true_eq, hi', if_false, List.length_map, flat_strs, decide_true, Bool.or_true, Bool.and_self, if_true, List.drop_length, leftGo, List.append_nil]
theorem iLeft_E : EnvSound Tryz.prog E_iLeft := mkE_sound (by simp [linksF_sound, iFirstHit_sound])
theorem iLeft_sound : Sound Tryz.prog 34 (sg [pDisk, pI, pI, pI] [rSl 9]) leftSpec := vBody_sound iLeft_E noInl_ok Tryz.func34 (by kernel_rfl) fun cs outs hk h => by
  unfold leftSpec at h
  split at h
  · simp only [Option.some.injEq, Prod.mk.injEq] at h
    obtain ⟨hd, rfl⟩ := h
    rename_i ns es os ss r x c a b
    rw [vBody_L, iLeft_tree]
    have hb : ((lkRows (chain (nds ns) (ens es))).all fun row => decide (row.length = 11)) = true := by simp [lkRows]
    have hn' : (chain (nds ns) (ens es)).length ≤ 16 := chainGo_len (nds ns) (ens es) 16 0 0
    have lp := iLeft_loop c a b (chain (nds ns) (ens es)) (chain_text hd) hn' 9223372036854775808 0 [] (by omega) (by omega) (by simp)
    rw [← len_lk] at lp
    have ee : leftOf ns es c a b = leftGo c a b (chain (nds ns) (ens es)) := rfl
    rw [ee]
    simp only [eval_must', hd, hb, decide_true, Bool.and_self, if_true]
    simpa using lp
  · cases h
theorem lLeft_E : EnvSound Tryz.prog E_lLeft := mkE_sound (by simp [eqStringS_sound, szDiskF_sound, toDisk_sound, eqDisk_sound, lMarkS_sound, lHeldS_sound, lMarkD_sound, sLeft_sound, iLeft_sound])
theorem lLeft_sound : Sound Tryz.prog 10 (sg [pLDisk, pI, pI, pI] [rB]) diskInt3Law := vBody_sound lLeft_E noInl_ok Tryz.func10 (by kernel_rfl) fun cs outs hk h => by
  unfold diskInt3Law at h
  split at h
  · simp only [Option.some.injEq, Prod.mk.injEq] at h
    obtain ⟨hl, rfl⟩ := h
    rename_i ns es os ss r x c a b
    rw [vBody_L, lLeft_tree]
    have hl' := hl
    unfold lawDisk at hl'
    simp only [Bool.and_eq_true] at hl'
    obtain ⟨⟨g1, g2⟩, g3⟩ := hl'
    have d0 : decide ((0 : Int) ≤ 1048576) = true := by decide
    have d1 : decide ((1048576 : Int) ≤ 1048576) = true := by decide
    have d2 : decide (0 < 1) = true := by decide
    simp only [eval_must', eval_ask', eval_ret', d0, d1, d2, g1, g2, g3, Bool.and_self, if_true, decide_eq_true_eq]
    by_cases hs : szDisk (nds ns) (ens es) (ens os) (strs ss) 1048576 < 0
    · simp only [hs, if_true]
    · obtain ⟨_, _, _, q4, q5⟩ := small_disk hl hs
      obtain ⟨r1, r2, r3, r4⟩ := disk_rows g2
      simp only [hs, if_false, List.take_length]
      have l2 : (leftOf ns es c a b).length ≤ 16777216 := by
        have h1 := leftGo_len c a b (chain (nds ns) (ens es)) (chain_text q5)
        have h2 : (chain (nds ns) (ens es)).length ≤ 16 := chainGo_len (nds ns) (ens es) 16 0 0
        have h3 : leftOf ns es c a b = leftGo c a b (chain (nds ns) (ens es)) := rfl
        rw [h3]
        omega
      generalize leftOf ns es c a b = m at l2 ⊢
      have m1 := bigOne m (by omega)
      have d3 : decide ((0 : Int) ≤ 1) = true := by decide
      have d4 : decide ((1 : Int) ≤ 1073741824) = true := by decide
      have d5 : decide ((1 : Int) ≤ 1099511627776) = true := by decide
      have z1 : ¬ ((1 : Int) + ((m.map eStr).length : Int) < 0) := by omega
      have z2 : ((1 : Int) + ((m.map eStr).length : Int) != Int.ofNat (1 + (m.map eStr).length)) = false := by simp
      simp only [g2, q4, q5, r1, r2, r3, r4, d3, d4, d5, m1, z1, z2, rows1, rowsOk_strs, take_mk, rows_mk, mk_len, mk_n1, mk_n2, mk_n3, held_marks, eqDk_self, bne_self_eq_false, decide_true, Bool.and_self, Bool.and_true, Bool.true_and, Bool.false_eq_true, if_true, if_false]
  · cases h

end Go.Proofs.YtpjcnjefffakpaaGreatDoor.V
