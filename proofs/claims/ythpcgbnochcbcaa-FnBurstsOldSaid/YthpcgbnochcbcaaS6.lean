/- Functions of the given program and of its reference: what each returns, as an equation over data; by the interpreter. -/
import Derived.Test.YthpcgbnochcbcaaS4
import Derived.Test.YthpcgbnochcbcaaProg
import Derived.KernelRfl
set_option linter.unusedVariables false
set_option linter.unusedSimpArgs false
set_option linter.unusedSectionVars false
set_option linter.deprecated false
namespace Go.Proofs.Ythpcgbnochcbcaa.V
noncomputable section

def rScan : RTy := ⟨true, [(.bool, false), (.int .i64, false), (.int .i64, false), (.int .i64, false), (.int .i64, false), (.slice 9, true), (.slice 3, true), (.int .i64, false), (.bool, false)]⟩
/-- scan on from a place: the frames' records and places, the end, is there a mark -/
def scanGo (v p : Int) (b : List UInt8) : Nat → Int → Int → List (List UInt8) → List Int → (List (List UInt8) × List Int × Int × Bool)
  | 0, _, e, rs, os => (rs, os, e, false)
  | f + 1, k, e, rs, os => if markAt v (p + k) b e then (rs, os, e, true) else if rfOk v (p + k) b e then scanGo v p b f (k + 1) (rfEnd v (p + k) b e) (rs ++ [rfRec v (p + k) b e]) (os ++ [e]) else (rs, os, e, false)
def scanOf (b : List UInt8) : List (List UInt8) × List Int × Int × Bool := if readHeadOk b then scanGo (rhV b) (rhB b) b (b.length + 1) 0 24 [] [] else ([], [], 0, false)
def scRecs (b : List UInt8) : List (List UInt8) := (scanOf b).1
def scOffs (b : List UInt8) : List Int := (scanOf b).2.1
def scEnd (b : List UInt8) : Int := (scanOf b).2.2.1
def scMark (b : List UInt8) : Bool := (scanOf b).2.2.2
def scanSpec : Spec := fun cs => match cs with
  | [.str b] => some (decide (b.length ≤ 1048576), [.bool (readHeadOk b), .int .i64 (ifI (readHeadOk b) (rhV b)), .int .i64 (ifI (readHeadOk b) (rhS b)), .int .i64 (ifI (readHeadOk b) (rhB b)), .int .i64 (ifI (readHeadOk b) (rhL b)), .sl ((scRecs b).map eStr), .sl ((scOffs b).map eInt), .int .i64 (scEnd b), .bool (scMark b)])
  | _ => none
def H_sScanTexta (b : List UInt8) (v s bb l e : Int) : St := { slots := [(0, wstr b), (2, .l (.ptr 0 0)), (3, .l (.ptr 1 0)), (5, .l (.ptr 2 0))], heap := [(0, .box [.b false, .i .i64 0, .i .i64 0, .i .i64 0, .i .i64 0, .nil, .nil, .i .i64 0, .b false]), (1, .box [.i .i64 v, .i .i64 s, .i .i64 bb, .i .i64 l]), (2, .box [.b true, .i .i64 v, .i .i64 s, .i .i64 bb, .i .i64 l, .nil, .nil, .i .i64 e, .b false])], next := 3, pins := [] }
def H_sScanTextb (b : List UInt8) (v s bb l e : Int) (n : Nat) (r : List (List C)) (m : Nat) (o : List (List C)) : St := { slots := [(0, wstr b), (2, .l (.ptr 0 0)), (3, .l (.ptr 1 0)), (5, .l (.ptr 2 0))], heap := [(0, .box [.b false, .i .i64 0, .i .i64 0, .i .i64 0, .i .i64 0, .nil, .nil, .i .i64 0, .b false]), (1, .box [.i .i64 v, .i .i64 s, .i .i64 bb, .i .i64 l]), (2, .box [.b true, .i .i64 v, .i .i64 s, .i .i64 bb, .i .i64 l, .ref 3 0 n, .ref 4 0 m, .i .i64 e, .b false]), (3, .arr 1 r), (4, .arr 1 o)], next := 5, pins := [] }
def H_iScanTexta (b : List UInt8) (v s bb l e : Int) : St := { slots := [(0, wstr b), (2, .l (.ptr 0 0)), (3, .l (.ptr 1 0)), (5, .l (.ptr 2 0))], heap := [(0, .box [.b false, .i .i64 0, .i .i64 0, .i .i64 0, .i .i64 0, .nil, .nil, .i .i64 0, .b false]), (1, .box [.i .i64 v, .i .i64 s, .i .i64 bb, .i .i64 l]), (2, .box [.b true, .i .i64 v, .i .i64 s, .i .i64 bb, .i .i64 l, .nil, .nil, .i .i64 e, .b false])], next := 3, pins := [] }
def H_iScanTextb (b : List UInt8) (v s bb l e : Int) (n : Nat) (r : List (List C)) (m : Nat) (o : List (List C)) : St := { slots := [(0, wstr b), (2, .l (.ptr 0 0)), (3, .l (.ptr 1 0)), (5, .l (.ptr 2 0))], heap := [(0, .box [.b false, .i .i64 0, .i .i64 0, .i .i64 0, .i .i64 0, .nil, .nil, .i .i64 0, .b false]), (1, .box [.i .i64 v, .i .i64 s, .i .i64 bb, .i .i64 l]), (2, .box [.b true, .i .i64 v, .i .i64 s, .i .i64 bb, .i .i64 l, .ref 3 0 n, .ref 4 0 m, .i .i64 e, .b false]), (3, .arr 1 r), (4, .arr 1 o)], next := 5, pins := [] }
def E_sScanText : Env := mkE [(5, [0, 2, 3, 5])] [(40, (sg [pS] [rHead, rB]), readHeadSpec), (102, (sg [pI, pI, pS, pI] [rB]), markAtSpec), (103, (sg [pI, pI, pS, pI] [rS, rI, rB]), readFrameSpec)]
def E_iScanText : Env := mkE [(5, [0, 2, 3, 5])] [(39, (sg [pS] [rHead, rB]), readHeadSpec), (27, (sg [pI, pI, pS, pI] [rB]), markAtSpec), (31, (sg [pI, pI, pS, pI] [rS, rI, rB]), readFrameSpec)]

end
end Go.Proofs.Ythpcgbnochcbcaa.V

namespace Go.Proofs.Ythpcgbnochcbcaa.V
set_option maxRecDepth 100000
theorem sScanText_tree (H : List Pt → Nat → St → T (List C)) (b : List UInt8) : vBodyL E_sScanText noInl (sg [pS] [rScan]) Try.f86 H [C.str b] =
 (.must true
 (.must true
  (.must (decide (b.length ≤ (281474976710656 : Nat)))
   (.must true
    (.ask (readHeadOk b)
     (H [Pt.r, Pt.r, Pt.r, Pt.r, Pt.b] (9223372036854775808 : Nat) (H_sScanTexta (b) (ifI (readHeadOk b) (rhV b)) (ifI (readHeadOk b) (rhS b)) (ifI (readHeadOk b) (rhB b)) (ifI (readHeadOk b) (rhL b)) ((24 : Int))))
     (.must true
      (.ret [C.bool false, C.int IntKind.i64 (0 : Int), C.int IntKind.i64 (0 : Int), C.int IntKind.i64 (0 : Int),
  C.int IntKind.i64 (0 : Int), C.sl [], C.sl [], C.int IntKind.i64 (0 : Int), C.bool false]))))))) := by kernel_rfl
theorem iScanText_tree (H : List Pt → Nat → St → T (List C)) (b : List UInt8) : vBodyL E_iScanText noInl (sg [pS] [rScan]) Try.f88 H [C.str b] =
 (.must true
 (.must true
  (.must (decide (b.length ≤ (281474976710656 : Nat)))
   (.must true
    (.ask (readHeadOk b)
     (H [Pt.r, Pt.r, Pt.r, Pt.r, Pt.b] (9223372036854775808 : Nat) (H_iScanTexta (b) (ifI (readHeadOk b) (rhV b)) (ifI (readHeadOk b) (rhS b)) (ifI (readHeadOk b) (rhB b)) (ifI (readHeadOk b) (rhL b)) ((24 : Int))))
     (.must true
      (.ret [C.bool false, C.int IntKind.i64 (0 : Int), C.int IntKind.i64 (0 : Int), C.int IntKind.i64 (0 : Int),
  C.int IntKind.i64 (0 : Int), C.sl [], C.sl [], C.int IntKind.i64 (0 : Int), C.bool false]))))))) := by kernel_rfl
theorem sScanText_round0a (H : List Pt → Nat → St → T (List C)) (b : List UInt8) (v : Int) (s : Int) (q : Int) (l : Int) (e : Int) (k : Nat) : vRound E_sScanText noInl (sg [pS] [rScan]) Try.f86 H [Pt.r, Pt.r, Pt.r, Pt.r, Pt.b] k (H_sScanTexta b v s q l e) =
 (.must true
 (.must (decide (b.length ≤ (281474976710656 : Nat)))
  (.must true
   (.ask (markAt v (IntKind.i64.wrap (q + (0 : Int))) b e)
    (.must true
     (.ret [C.bool true, C.int IntKind.i64 v, C.int IntKind.i64 s, C.int IntKind.i64 q, C.int IntKind.i64 l, C.sl [], C.sl [],
  C.int IntKind.i64 e, C.bool true]))
    (.must true
     (.must (decide (b.length ≤ (281474976710656 : Nat)) &&
  (decide ((-9223372036854775808 : Int) ≤ e) && decide (e ≤ (9223372036854775807 : Int))))
      (.must true
       (.ask (rfOk v (IntKind.i64.wrap (q + (0 : Int))) b e)
        (.must true
         (.must true
          (H [Pt.r, Pt.r, Pt.r, Pt.r, Pt.b] k (H_sScanTextb (b) (v) (s) (q) (l) (rfEnd v (IntKind.i64.wrap (q + (0 : Int))) b e) ((1 : Nat)) ([[C.str (rfRec v (IntKind.i64.wrap (q + (0 : Int))) b e)]]) ((1 : Nat)) ([[C.int IntKind.i64 e]])))))
        (.must true
         (.ret [C.bool true, C.int IntKind.i64 v, C.int IntKind.i64 s, C.int IntKind.i64 q, C.int IntKind.i64 l, C.sl [], C.sl [],
  C.int IntKind.i64 e, C.bool false])))))))))) := by kernel_rfl
theorem iScanText_round0a (H : List Pt → Nat → St → T (List C)) (b : List UInt8) (v : Int) (s : Int) (q : Int) (l : Int) (e : Int) (k : Nat) : vRound E_iScanText noInl (sg [pS] [rScan]) Try.f88 H [Pt.r, Pt.r, Pt.r, Pt.r, Pt.b] k (H_iScanTexta b v s q l e) =
 (.must true
 (.must (decide (b.length ≤ (281474976710656 : Nat)))
  (.must true
   (.ask (markAt v (IntKind.i64.wrap (q + (0 : Int))) b e)
    (.must true
     (.ret [C.bool true, C.int IntKind.i64 v, C.int IntKind.i64 s, C.int IntKind.i64 q, C.int IntKind.i64 l, C.sl [], C.sl [],
  C.int IntKind.i64 e, C.bool true]))
    (.must true
     (.must (decide (b.length ≤ (281474976710656 : Nat)) &&
  (decide ((-9223372036854775808 : Int) ≤ e) && decide (e ≤ (9223372036854775807 : Int))))
      (.must true
       (.ask (rfOk v (IntKind.i64.wrap (q + (0 : Int))) b e)
        (.must true
         (.must true
          (H [Pt.r, Pt.r, Pt.r, Pt.r, Pt.b] k (H_iScanTextb (b) (v) (s) (q) (l) (rfEnd v (IntKind.i64.wrap (q + (0 : Int))) b e) ((1 : Nat)) ([[C.str (rfRec v (IntKind.i64.wrap (q + (0 : Int))) b e)]]) ((1 : Nat)) ([[C.int IntKind.i64 e]])))))
        (.must true
         (.ret [C.bool true, C.int IntKind.i64 v, C.int IntKind.i64 s, C.int IntKind.i64 q, C.int IntKind.i64 l, C.sl [], C.sl [],
  C.int IntKind.i64 e, C.bool false])))))))))) := by kernel_rfl
theorem sScanText_round0b (H : List Pt → Nat → St → T (List C)) (b : List UInt8) (v : Int) (s : Int) (q : Int) (l : Int) (e : Int) (n : Nat) (r : List (List C)) (n2 : Nat) (o : List (List C)) (k : Nat) : vRound E_sScanText noInl (sg [pS] [rScan]) Try.f86 H [Pt.r, Pt.r, Pt.r, Pt.r, Pt.b] k
  (H_sScanTextb b v s q l e n r n2 o) =
 (.must true
 (.must (decide (b.length ≤ (281474976710656 : Nat)))
  (.must true
   (.ask (markAt v (IntKind.i64.wrap (q + (↑n : Int))) b e)
    (.must (true && (false || true) &&
      (true && (false || true) &&
        (true && (false || true) &&
          (true && (false || true) &&
            (true && (false || true) &&
              (decide (n = r.length) && (false || r.all fun r => r.all C.flat) &&
                (decide (n2 = o.length) && (false || o.all fun r => r.all C.flat) &&
                  (true && (false || true) && (true && (false || true) && true)))))))) &&
    true &&
  true)
     (.ret [C.bool true, C.int IntKind.i64 v, C.int IntKind.i64 s, C.int IntKind.i64 q, C.int IntKind.i64 l, C.sl r, C.sl o,
  C.int IntKind.i64 e, C.bool true]))
    (.must true
     (.must (decide (b.length ≤ (281474976710656 : Nat)) &&
  (decide ((-9223372036854775808 : Int) ≤ e) && decide (e ≤ (9223372036854775807 : Int))))
      (.must true
       (.ask (rfOk v (IntKind.i64.wrap (q + (↑n : Int))) b e)
        (.must (decide (n = r.length) && roomy (r.length + (1 : Nat)) (16 : Nat) && (decide ((1 : Nat) = (1 : Nat)) && true))
         (.must (decide (n2 = o.length) && roomy (o.length + (1 : Nat)) (8 : Nat) && (decide ((1 : Nat) = (1 : Nat)) && true))
          (H [Pt.r, Pt.r, Pt.r, Pt.r, Pt.b] k (H_sScanTextb (b) (v) (s) (q) (l) (rfEnd v (IntKind.i64.wrap (q + (↑n : Int))) b e) (r.length + (1 : Nat)) (r.append [[C.str (rfRec v (IntKind.i64.wrap (q + (↑n : Int))) b e)]]) (o.length + (1 : Nat)) (o.append [[C.int IntKind.i64 e]])))))
        (.must (true && (false || true) &&
      (true && (false || true) &&
        (true && (false || true) &&
          (true && (false || true) &&
            (true && (false || true) &&
              (decide (n = r.length) && (false || r.all fun r => r.all C.flat) &&
                (decide (n2 = o.length) && (false || o.all fun r => r.all C.flat) &&
                  (true && (false || true) && (true && (false || true) && true)))))))) &&
    true &&
  true)
         (.ret [C.bool true, C.int IntKind.i64 v, C.int IntKind.i64 s, C.int IntKind.i64 q, C.int IntKind.i64 l, C.sl r, C.sl o,
  C.int IntKind.i64 e, C.bool false])))))))))) := by kernel_rfl
theorem iScanText_round0b (H : List Pt → Nat → St → T (List C)) (b : List UInt8) (v : Int) (s : Int) (q : Int) (l : Int) (e : Int) (n : Nat) (r : List (List C)) (n2 : Nat) (o : List (List C)) (k : Nat) : vRound E_iScanText noInl (sg [pS] [rScan]) Try.f88 H [Pt.r, Pt.r, Pt.r, Pt.r, Pt.b] k
  (H_iScanTextb b v s q l e n r n2 o) =
 (.must true
 (.must (decide (b.length ≤ (281474976710656 : Nat)))
  (.must true
   (.ask (markAt v (IntKind.i64.wrap (q + (↑n : Int))) b e)
    (.must (true && (false || true) &&
      (true && (false || true) &&
        (true && (false || true) &&
          (true && (false || true) &&
            (true && (false || true) &&
              (decide (n = r.length) && (false || r.all fun r => r.all C.flat) &&
                (decide (n2 = o.length) && (false || o.all fun r => r.all C.flat) &&
                  (true && (false || true) && (true && (false || true) && true)))))))) &&
    true &&
  true)
     (.ret [C.bool true, C.int IntKind.i64 v, C.int IntKind.i64 s, C.int IntKind.i64 q, C.int IntKind.i64 l, C.sl r, C.sl o,
  C.int IntKind.i64 e, C.bool true]))
    (.must true
     (.must (decide (b.length ≤ (281474976710656 : Nat)) &&
  (decide ((-9223372036854775808 : Int) ≤ e) && decide (e ≤ (9223372036854775807 : Int))))
      (.must true
       (.ask (rfOk v (IntKind.i64.wrap (q + (↑n : Int))) b e)
        (.must (decide (n = r.length) && roomy (r.length + (1 : Nat)) (16 : Nat) && (decide ((1 : Nat) = (1 : Nat)) && true))
         (.must (decide (n2 = o.length) && roomy (o.length + (1 : Nat)) (8 : Nat) && (decide ((1 : Nat) = (1 : Nat)) && true))
          (H [Pt.r, Pt.r, Pt.r, Pt.r, Pt.b] k (H_iScanTextb (b) (v) (s) (q) (l) (rfEnd v (IntKind.i64.wrap (q + (↑n : Int))) b e) (r.length + (1 : Nat)) (r.append [[C.str (rfRec v (IntKind.i64.wrap (q + (↑n : Int))) b e)]]) (o.length + (1 : Nat)) (o.append [[C.int IntKind.i64 e]])))))
        (.must (true && (false || true) &&
      (true && (false || true) &&
        (true && (false || true) &&
          (true && (false || true) &&
            (true && (false || true) &&
              (decide (n = r.length) && (false || r.all fun r => r.all C.flat) &&
                (decide (n2 = o.length) && (false || o.all fun r => r.all C.flat) &&
                  (true && (false || true) && (true && (false || true) && true)))))))) &&
    true &&
  true)
         (.ret [C.bool true, C.int IntKind.i64 v, C.int IntKind.i64 s, C.int IntKind.i64 q, C.int IntKind.i64 l, C.sl r, C.sl o,
  C.int IntKind.i64 e, C.bool false])))))))))) := by kernel_rfl
end Go.Proofs.Ythpcgbnochcbcaa.V

namespace Go.Proofs.Ythpcgbnochcbcaa.V

def scOut (v s q l : Int) (x : List (List UInt8) × List Int × Int × Bool) : List C := [.bool true, .int .i64 v, .int .i64 s, .int .i64 q, .int .i64 l, .sl (x.1.map eStr), .sl (x.2.1.map eInt), .int .i64 x.2.2.1, .bool x.2.2.2]
theorem rfOk_end (v p : Int) (b : List UInt8) (a : Int) (h : rfOk v p b a = true) : a + 1 ≤ rfEnd v p b a ∧ rfEnd v p b a ≤ b.length ∧ 0 ≤ a := by
  unfold rfEnd
  rw [if_pos h]
  unfold rfOk at h
  simp only [Bool.and_eq_true, decide_eq_true_eq] at h
  obtain ⟨⟨⟨⟨hv, hp⟩, hh⟩, hn1, hn2⟩, ha⟩ := h
  have hl : (rfText v b a).length ≤ 60 := by unfold rfText; simp; omega
  have hne := frameText_ne v p (rfText v b a) hv hp hl
  obtain ⟨h1, h2, h3⟩ := (hasAt_iff _ _ _).1 ha
  generalize frameText v p (rfText v b a) = t at hne h3
  have hpos : 0 < t.length := List.length_pos_iff.2 hne
  have := congrArg List.length h3
  simp at this
  omega
theorem app_str (rs : List (List UInt8)) (x : List UInt8) : (rs.map eStr).append [[C.str x]] = (rs ++ [x]).map eStr := by simp
theorem app_int (rs : List Int) (x : Int) : (rs.map eInt).append [[C.int .i64 x]] = (rs ++ [x]).map eInt := by simp
theorem sScanText_loopb (b : List UInt8) (v s q l : Int) (hb : b.length ≤ 1048576) (hq : 0 ≤ q ∧ q ≤ 1000000000) : ∀ (n f : Nat) (e : Int) (rs : List (List UInt8)) (os : List Int), 0 ≤ e → e ≤ b.length → (b.length : Int) < e + n → (b.length : Int) < e + f → rs.length = os.length → (rs.length : Int) ≤ e →
    (vLoop E_sScanText noInl (sg [pS] [rScan]) Try.f86 [.r, .r, .r, .r, .b] n (H_sScanTextb b v s q l e rs.length (rs.map eStr) os.length (os.map eInt))).eval = some (scOut v s q l (scanGo v q b f rs.length e rs os)) := by
  intro n
  induction n with
  | zero => intro f e rs os h0 h1 h2 h3 h4 h5; omega
  | succ n ih =>
    intro f e rs os h0 h1 h2 h3 h4 h5
    obtain ⟨f, rfl⟩ : ∃ g, f = g + 1 := ⟨f - 1, by omega⟩
    rw [vLoop_L _ _ _ _ _ _ _ (by kernel_rfl), sScanText_round0b]
    have w : IntKind.i64.wrap (q + (rs.length : Int)) = q + (rs.length : Int) := by rw [wrap64] <;> omega
    have pre1 : decide (b.length ≤ 281474976710656) = true := decide_eq_true (by omega)
    have pre2 : (decide ((-9223372036854775808 : Int) ≤ e) && decide (e ≤ (9223372036854775807 : Int))) = true := by simp; omega
    have ro1 : roomy (rs.length + 1) 16 = true := by simp only [roomy, decide_eq_true_eq]; omega
    have ro2 : roomy (os.length + 1) 8 = true := by simp only [roomy, decide_eq_true_eq]; omega
    have fl1 := flat_strs rs
    have fl2 := flat_ints os
    rw [w]
    simp only [scanGo]
    cases hm : markAt v (q + (rs.length : Int)) b e with
    | true =>
      simp only [lit_must, lit_yes, pre1, hm, eval_must', eval_ret', List.length_map, decide_true, fl1, fl2, Bool.false_or, Bool.or_true, Bool.and_self, if_true]
      rfl
    | false =>
      cases ho : rfOk v (q + (rs.length : Int)) b e with
      | true =>
        obtain ⟨g1, g2, g3⟩ := rfOk_end _ _ _ _ ho
        have e1 := ih f (rfEnd v (q + (rs.length : Int)) b e) (rs ++ [rfRec v (q + (rs.length : Int)) b e]) (os ++ [e]) (by omega) g2 (by omega) (by omega) (by simp; omega) (by simp; omega)
        simp only [lit_must, lit_yes, lit_no, pre1, pre2, hm, ho, eval_must', List.length_map, decide_true, ro1, ro2, Bool.and_self, Bool.and_true, if_true, app_str, app_int, Bool.false_eq_true, if_false]
        simp only [List.length_append, List.length_cons, List.length_nil, Nat.zero_add, Int.natCast_add, Int.natCast_one] at e1 ⊢
        exact e1
      | false =>
        simp only [lit_must, lit_yes, lit_no, pre1, pre2, hm, ho, eval_must', eval_ret', List.length_map, decide_true, fl1, fl2, Bool.false_or, Bool.or_true, Bool.and_self, if_true, Bool.false_eq_true, if_false]
        rfl
theorem sScanText_loopa (b : List UInt8) (v s q l : Int) (hb : b.length ≤ 1048576) (h24 : 24 ≤ b.length) (hq : 0 ≤ q ∧ q ≤ 1000000000) (n : Nat) (hn : b.length < n) :
    (vLoop E_sScanText noInl (sg [pS] [rScan]) Try.f86 [.r, .r, .r, .r, .b] (n + 1) (H_sScanTexta b v s q l 24)).eval = some (scOut v s q l (scanGo v q b (b.length + 1) 0 24 [] [])) := by
  rw [vLoop_L _ _ _ _ _ _ _ (by kernel_rfl), sScanText_round0a]
  have w : IntKind.i64.wrap (q + 0) = q + 0 := by rw [wrap64] <;> omega
  have pre1 : decide (b.length ≤ 281474976710656) = true := decide_eq_true (by omega)
  have pre2 : (decide ((-9223372036854775808 : Int) ≤ 24) && decide ((24 : Int) ≤ (9223372036854775807 : Int))) = true := by decide
  rw [w]
  simp only [scanGo]
  cases hm : markAt v (q + 0) b 24 with
  | true =>
    simp only [lit_must, lit_yes, pre1, hm, eval_must', eval_ret', if_true]
    rfl
  | false =>
    cases ho : rfOk v (q + 0) b 24 with
    | true =>
      obtain ⟨g1, g2, g3⟩ := rfOk_end _ _ _ _ ho
      have e1 := sScanText_loopb b v s q l hb hq n b.length (rfEnd v (q + 0) b 24) [rfRec v (q + 0) b 24] [24] (by omega) g2 (by omega) (by omega) rfl (by show (1 : Int) ≤ _; omega)
      simp only [lit_must, lit_yes, lit_no, pre1, pre2, hm, ho, Bool.and_self, Bool.false_eq_true, if_false, if_true, List.nil_append]
      exact e1
    | false =>
      simp only [lit_must, lit_yes, lit_no, pre1, pre2, hm, ho, eval_must', eval_ret', if_true, Bool.and_self, Bool.false_eq_true, if_false]
      rfl
theorem sScanText_E : EnvSound Try.prog E_sScanText := mkE_sound (by simp [sReadHead_sound, sMarkAt_sound, sReadFrame_sound])
theorem sScanText_sound : Sound Try.prog 86 (sg [pS] [rScan]) scanSpec := vBody_sound sScanText_E noInl_ok Try.func86 (by kernel_rfl) fun cs outs hk h => by
  unfold scanSpec at h
  split at h
  · simp only [Option.some.injEq, Prod.mk.injEq, decide_eq_true_eq] at h
    obtain ⟨h1, rfl⟩ := h
    rename_i b
    rw [vBody_L, sScanText_tree]
    have pre1 : decide (b.length ≤ 281474976710656) = true := decide_eq_true (by omega)
    cases hr : readHeadOk b with
    | false =>
      have e1 : scanOf b = ([], [], 0, false) := by unfold scanOf; rw [hr]; rfl
      simp only [lit_must, lit_yes, lit_no, pre1, hr, eval_must', eval_ret', if_true, scRecs, scOffs, scEnd, scMark, e1, ifI, Bool.false_eq_true, if_false]
      rfl
    | true =>
      have h24 : 24 ≤ b.length ∧ fixOk b 8 8 = true ∧ headText (rhV b) (rhS b) (rhB b) (rhL b) = b.take 24 := by
        unfold readHeadOk at hr
        simpa [and_assoc] using hr
      have hq : 0 ≤ rhB b ∧ rhB b ≤ 1000000000 := by
        have ht := h24.2.2
        cases hk : headOk (rhV b) (rhS b) (rhB b) (rhL b) with
        | true => have := (headOk_iff _ _ _ _).1 hk; exact this.2.2.1
        | false =>
          unfold headText at ht
          rw [hk] at ht
          have := congrArg List.length ht
          simp at this
          omega
      have e1 : scanOf b = scanGo (rhV b) (rhB b) b (b.length + 1) 0 24 [] [] := by unfold scanOf; rw [hr]; rfl
      have lp := sScanText_loopa b (rhV b) (rhS b) (rhB b) (rhL b) h1 h24.1 hq 9223372036854775807 (by omega)
      rw [← e1] at lp
      simp only [lit_must, lit_yes, lit_no, pre1, hr, ifI, if_true]
      exact lp
  · cases h
theorem iScanText_loopb (b : List UInt8) (v s q l : Int) (hb : b.length ≤ 1048576) (hq : 0 ≤ q ∧ q ≤ 1000000000) : ∀ (n f : Nat) (e : Int) (rs : List (List UInt8)) (os : List Int), 0 ≤ e → e ≤ b.length → (b.length : Int) < e + n → (b.length : Int) < e + f → rs.length = os.length → (rs.length : Int) ≤ e →
    (vLoop E_iScanText noInl (sg [pS] [rScan]) Try.f88 [.r, .r, .r, .r, .b] n (H_iScanTextb b v s q l e rs.length (rs.map eStr) os.length (os.map eInt))).eval = some (scOut v s q l (scanGo v q b f rs.length e rs os)) := by
  intro n
  induction n with
  | zero => intro f e rs os h0 h1 h2 h3 h4 h5; omega
  | succ n ih =>
    intro f e rs os h0 h1 h2 h3 h4 h5
    obtain ⟨f, rfl⟩ : ∃ g, f = g + 1 := ⟨f - 1, by omega⟩
    rw [vLoop_L _ _ _ _ _ _ _ (by kernel_rfl), iScanText_round0b]
    have w : IntKind.i64.wrap (q + (rs.length : Int)) = q + (rs.length : Int) := by rw [wrap64] <;> omega
    have pre1 : decide (b.length ≤ 281474976710656) = true := decide_eq_true (by omega)
    have pre2 : (decide ((-9223372036854775808 : Int) ≤ e) && decide (e ≤ (9223372036854775807 : Int))) = true := by simp; omega
    have ro1 : roomy (rs.length + 1) 16 = true := by simp only [roomy, decide_eq_true_eq]; omega
    have ro2 : roomy (os.length + 1) 8 = true := by simp only [roomy, decide_eq_true_eq]; omega
    have fl1 := flat_strs rs
    have fl2 := flat_ints os
    rw [w]
    simp only [scanGo]
    cases hm : markAt v (q + (rs.length : Int)) b e with
    | true =>
      simp only [lit_must, lit_yes, pre1, hm, eval_must', eval_ret', List.length_map, decide_true, fl1, fl2, Bool.false_or, Bool.or_true, Bool.and_self, if_true]
      rfl
    | false =>
      cases ho : rfOk v (q + (rs.length : Int)) b e with
      | true =>
        obtain ⟨g1, g2, g3⟩ := rfOk_end _ _ _ _ ho
        have e1 := ih f (rfEnd v (q + (rs.length : Int)) b e) (rs ++ [rfRec v (q + (rs.length : Int)) b e]) (os ++ [e]) (by omega) g2 (by omega) (by omega) (by simp; omega) (by simp; omega)
        simp only [lit_must, lit_yes, lit_no, pre1, pre2, hm, ho, eval_must', List.length_map, decide_true, ro1, ro2, Bool.and_self, Bool.and_true, if_true, app_str, app_int, Bool.false_eq_true, if_false]
        simp only [List.length_append, List.length_cons, List.length_nil, Nat.zero_add, Int.natCast_add, Int.natCast_one] at e1 ⊢
        exact e1
      | false =>
        simp only [lit_must, lit_yes, lit_no, pre1, pre2, hm, ho, eval_must', eval_ret', List.length_map, decide_true, fl1, fl2, Bool.false_or, Bool.or_true, Bool.and_self, if_true, Bool.false_eq_true, if_false]
        rfl
theorem iScanText_loopa (b : List UInt8) (v s q l : Int) (hb : b.length ≤ 1048576) (h24 : 24 ≤ b.length) (hq : 0 ≤ q ∧ q ≤ 1000000000) (n : Nat) (hn : b.length < n) :
    (vLoop E_iScanText noInl (sg [pS] [rScan]) Try.f88 [.r, .r, .r, .r, .b] (n + 1) (H_iScanTexta b v s q l 24)).eval = some (scOut v s q l (scanGo v q b (b.length + 1) 0 24 [] [])) := by
  rw [vLoop_L _ _ _ _ _ _ _ (by kernel_rfl), iScanText_round0a]
  have w : IntKind.i64.wrap (q + 0) = q + 0 := by rw [wrap64] <;> omega
  have pre1 : decide (b.length ≤ 281474976710656) = true := decide_eq_true (by omega)
  have pre2 : (decide ((-9223372036854775808 : Int) ≤ 24) && decide ((24 : Int) ≤ (9223372036854775807 : Int))) = true := by decide
  rw [w]
  simp only [scanGo]
  cases hm : markAt v (q + 0) b 24 with
  | true =>
    simp only [lit_must, lit_yes, pre1, hm, eval_must', eval_ret', if_true]
    rfl
  | false =>
    cases ho : rfOk v (q + 0) b 24 with
    | true =>
      obtain ⟨g1, g2, g3⟩ := rfOk_end _ _ _ _ ho
      have e1 := iScanText_loopb b v s q l hb hq n b.length (rfEnd v (q + 0) b 24) [rfRec v (q + 0) b 24] [24] (by omega) g2 (by omega) (by omega) rfl (by show (1 : Int) ≤ _; omega)
      simp only [lit_must, lit_yes, lit_no, pre1, pre2, hm, ho, Bool.and_self, Bool.false_eq_true, if_false, if_true, List.nil_append]
      exact e1
    | false =>
      simp only [lit_must, lit_yes, lit_no, pre1, pre2, hm, ho, eval_must', eval_ret', if_true, Bool.and_self, Bool.false_eq_true, if_false]
      rfl
theorem iScanText_E : EnvSound Try.prog E_iScanText := mkE_sound (by simp [iReadHead_sound, iMarkAt_sound, iReadFrame_sound])
theorem iScanText_sound : Sound Try.prog 88 (sg [pS] [rScan]) scanSpec := vBody_sound iScanText_E noInl_ok Try.func88 (by kernel_rfl) fun cs outs hk h => by
  unfold scanSpec at h
  split at h
  · simp only [Option.some.injEq, Prod.mk.injEq, decide_eq_true_eq] at h
    obtain ⟨h1, rfl⟩ := h
    rename_i b
    rw [vBody_L, iScanText_tree]
    have pre1 : decide (b.length ≤ 281474976710656) = true := decide_eq_true (by omega)
    cases hr : readHeadOk b with
    | false =>
      have e1 : scanOf b = ([], [], 0, false) := by unfold scanOf; rw [hr]; rfl
      simp only [lit_must, lit_yes, lit_no, pre1, hr, eval_must', eval_ret', if_true, scRecs, scOffs, scEnd, scMark, e1, ifI, Bool.false_eq_true, if_false]
      rfl
    | true =>
      have h24 : 24 ≤ b.length ∧ fixOk b 8 8 = true ∧ headText (rhV b) (rhS b) (rhB b) (rhL b) = b.take 24 := by
        unfold readHeadOk at hr
        simpa [and_assoc] using hr
      have hq : 0 ≤ rhB b ∧ rhB b ≤ 1000000000 := by
        have ht := h24.2.2
        cases hk : headOk (rhV b) (rhS b) (rhB b) (rhL b) with
        | true => have := (headOk_iff _ _ _ _).1 hk; exact this.2.2.1
        | false =>
          unfold headText at ht
          rw [hk] at ht
          have := congrArg List.length ht
          simp at this
          omega
      have e1 : scanOf b = scanGo (rhV b) (rhB b) b (b.length + 1) 0 24 [] [] := by unfold scanOf; rw [hr]; rfl
      have lp := iScanText_loopa b (rhV b) (rhS b) (rhB b) (rhL b) h1 h24.1 hq 9223372036854775807 (by omega)
      rw [← e1] at lp
      simp only [lit_must, lit_yes, lit_no, pre1, hr, ifI, if_true]
      exact lp
  · cases h

end Go.Proofs.Ythpcgbnochcbcaa.V

namespace Go.Proofs.Ythpcgbnochcbcaa.V
noncomputable section

def pScanT : PTy := .val true [.bool, .int .i64, .int .i64, .int .i64, .int .i64, .slice 9, .slice 3, .int .i64, .bool]
/-- where the frame i begins and ends, of these places and this end -/
def offFrom (os : List Int) (i : Int) : Int := os.getD i.toNat 0
def offTo (os : List Int) (e i : Int) : Int := if i + 1 < os.length then os.getD (i + 1).toNat 0 else e
def frameAtSpec : Spec := fun cs => match cs with
  | [.bool _, .int .i64 _, .int .i64 _, .int .i64 _, .int .i64 _, .sl _, .sl os, .int .i64 e, .bool _, .int .i64 i] => some (rowsOk [.int .i64] os && (decide (os.length ≤ 1048576) && (decide (0 ≤ i) && decide (i < os.length))), [.int .i64 (offFrom (ints os) i), .int .i64 (offTo (ints os) e i)])
  | _ => none
def frOk (b : List UInt8) (i : Int) : Bool := inB i 0 ((scOffs b).length - 1)
def frFrom (b : List UInt8) (i : Int) : Int := if frOk b i then offFrom (scOffs b) i else 0
def frTo (b : List UInt8) (i : Int) : Int := if frOk b i then offTo (scOffs b) (scEnd b) i else 0
def frameRangeSpec : Spec := fun cs => match cs with
  | [.str b, .int .i64 i] => some (decide (b.length ≤ 1048576), [.int .i64 (frFrom b i), .int .i64 (frTo b i), .bool (frOk b i)])
  | _ => none
def E_iFrameAt : Env := mkE [] []
def E_sFrameRange : Env := mkE [] [(80, (sg [pI, pI, pI] [rB]), inSpec), (86, (sg [pS] [rScan]), scanSpec)]

def E_iFrameRange : Env := mkE [] [(79, (sg [pI, pI, pI] [rB]), inSpec), (88, (sg [pS] [rScan]), scanSpec), (89, (sg [pScanT, pI] [rI, rI]), frameAtSpec)]

abbrev scBox (b : List UInt8) (i j : Nat) : Blk := .box [.b (readHeadOk b), .i .i64 (ifI (readHeadOk b) (rhV b)), .i .i64 (ifI (readHeadOk b) (rhS b)), .i .i64 (ifI (readHeadOk b) (rhB b)), .i .i64 (ifI (readHeadOk b) (rhL b)), .ref i 0 ((scRecs b).map eStr).length, .ref j 0 ((scOffs b).map eInt).length, .i .i64 (scEnd b), .b (scMark b)]
abbrev scHeap (b : List UInt8) : List (Nat × Blk) := [(0, scBox b 1 2), (1, .arr 1 ((scRecs b).map eStr)), (2, .arr 1 ((scOffs b).map eInt))]
def H_sFirstHit (b : List UInt8) (x y i : Int) : St := { slots := [(0, wstr b), (1, int64 x), (2, int64 y), (7, .l (.ptr 0 0)), (8, int64 i)], heap := scHeap b, next := 3, pins := [] }
def H_iFirstHit (b : List UInt8) (x y e i : Int) : St := { slots := [(1, int64 x), (2, int64 y), (7, .l (.ptr 0 0)), (23, int64 e), (24, int64 i)], heap := scHeap b, next := 3, pins := [] }
def hitAt (b : List UInt8) (x y : Int) (i : Nat) : Bool := meets (frFrom b i) (frTo b i) x y
def firstFrom (b : List UInt8) (x y : Int) : Nat → Nat → Nat
  | 0, i => i
  | f + 1, i => if hitAt b x y i then i else firstFrom b x y f (i + 1)
def firstHit (b : List UInt8) (x y : Int) : Int := if readHeadOk b = false ∨ meets 0 24 x y = true then 0 else firstFrom b x y (scRecs b).length 0
def firstHitSpec : Spec := fun cs => match cs with
  | [.str b, .int .i64 x, .int .i64 y] => some (decide (b.length ≤ 1048576), [.int .i64 (firstHit b x y)])
  | _ => none
def E_sFirstHit : Env := mkE [(5, [0, 1, 2, 7, 8])] [(86, (sg [pS] [rScan]), scanSpec), (47, (sg [pS, pI] [rI, rI, rB]), frameRangeSpec)]
def E_iFirstHit : Env := mkE [(5, [1, 2, 7, 23, 24])] [(85, (sg [pI, pI, pI, pI] [rB]), meetsSpec), (88, (sg [pS] [rScan]), scanSpec), (89, (sg [pScanT, pI] [rI, rI]), frameAtSpec)]

def H_sSizesHit (b : List UInt8) (x y i : Int) : St := { slots := [(1, int64 x), (2, int64 y), (7, .l (.ptr 0 0)), (8, int64 i)], heap := scHeap b, next := 3, pins := [] }
def H_iSizesHit (b : List UInt8) (x y e i : Int) : St := { slots := [(1, int64 x), (2, int64 y), (7, .l (.ptr 0 0)), (22, .l (.ref 1 0 ((scOffs b).map eInt).length)), (23, int64 e), (24, int64 i)], heap := [(0, scBox b 2 1), (1, .arr 1 ((scOffs b).map eInt)), (2, .arr 1 ((scRecs b).map eStr))], next := 3, pins := [] }
def sizeHit (rs : List (List UInt8)) (os : List Int) (x y : Int) (i : Nat) : Bool := meets (os.getD i 0) (os.getD i 0 + (varText ((rs.getD i []).length : Int)).length) x y
def anyHit (rs : List (List UInt8)) (os : List Int) (x y : Int) : Nat → Nat → Bool
  | 0, _ => false
  | f + 1, i => if sizeHit rs os x y i then true else anyHit rs os x y f (i + 1)
def sizesHit (b : List UInt8) (x y : Int) : Bool := readHeadOk b && decide (rhV b = 1) && anyHit (scRecs b) (scOffs b) x y (scRecs b).length 0
def sizesHitSpec : Spec := fun cs => match cs with
  | [.str b, .int .i64 x, .int .i64 y] => some (decide (b.length ≤ 1048576), [.bool (sizesHit b x y)])
  | _ => none
def E_sSizesHit : Env := mkE [(5, [1, 2, 7, 8])] [(93, (sg [pI] [rI]), varSizeSpec), (86, (sg [pS] [rScan]), scanSpec)]
def E_iSizesHit : Env := mkE [(5, [1, 2, 7, 22, 23, 24])] [(85, (sg [pI, pI, pI, pI] [rB]), meetsSpec), (92, (sg [pI] [rI]), varSizeSpec), (88, (sg [pS] [rScan]), scanSpec)]

end
end Go.Proofs.Ythpcgbnochcbcaa.V

namespace Go.Proofs.Ythpcgbnochcbcaa.V
set_option maxRecDepth 100000
theorem iFrameAt_tree (H : List Pt → Nat → St → T (List C)) (k : Bool) (v : Int) (s : Int) (q : Int) (l : Int) (r : List (List C)) (o : List (List C)) (e : Int) (m : Bool) (i : Int) : vBodyL E_iFrameAt noInl (sg [pScanT, pI] [rI, rI]) Try.f89 H
  [C.bool k, C.int IntKind.i64 v, C.int IntKind.i64 s, C.int IntKind.i64 q, C.int IntKind.i64 l, C.sl r, C.sl o,
    C.int IntKind.i64 e, C.bool m, C.int IntKind.i64 i] =
 (.must true
 (.ask (decide (IntKind.i64.wrap (i + (1 : Int)) < (↑o.length : Int)))
  (.must (decide ((0 : Int) ≤ i) && decide (i < (↑o.length : Int)) && decide ((o.getD i.toNat []).length = (1 : Nat)))
   (.must (decide ((0 : Nat) < (o.getD i.toNat []).length) &&
    C.is (K.int IntKind.i64) ((o.getD i.toNat []).getD (0 : Nat) (C.fn (0 : FuncId) [])) &&
  true)
    (.must (decide ((0 : Int) ≤ IntKind.i64.wrap (i + (1 : Int))) &&
    decide (IntKind.i64.wrap (i + (1 : Int)) < (↑o.length : Int)) &&
  decide ((o.getD (IntKind.i64.wrap (i + (1 : Int))).toNat []).length = (1 : Nat)))
     (.must (decide ((0 : Nat) < (o.getD (IntKind.i64.wrap (i + (1 : Int))).toNat []).length) &&
    C.is (K.int IntKind.i64)
      ((o.getD (IntKind.i64.wrap (i + (1 : Int))).toNat []).getD (0 : Nat) (C.fn (0 : FuncId) [])) &&
  true)
      (.must true
       (.ret [C.int IntKind.i64 ((o.getD i.toNat []).getD (0 : Nat) (C.fn (0 : FuncId) [])).toInt,
  C.int IntKind.i64 ((o.getD (IntKind.i64.wrap (i + (1 : Int))).toNat []).getD (0 : Nat) (C.fn (0 : FuncId) [])).toInt]))))))
  (.must (decide ((0 : Int) ≤ i) && decide (i < (↑o.length : Int)) && decide ((o.getD i.toNat []).length = (1 : Nat)))
   (.must (decide ((0 : Nat) < (o.getD i.toNat []).length) &&
    C.is (K.int IntKind.i64) ((o.getD i.toNat []).getD (0 : Nat) (C.fn (0 : FuncId) [])) &&
  true)
    (.must true
     (.ret [C.int IntKind.i64 ((o.getD i.toNat []).getD (0 : Nat) (C.fn (0 : FuncId) [])).toInt, C.int IntKind.i64 e])))))) := by kernel_rfl
theorem sFrameRange_tree (H : List Pt → Nat → St → T (List C)) (b : List UInt8) (i : Int) : vBodyL E_sFrameRange noInl (sg [pS, pI] [rI, rI, rB]) Try.f47 H [C.str b, C.int IntKind.i64 i] =
 (.must true
 (.must true
  (.must (decide (b.length ≤ (1048576 : Nat)))
   (.must (decide ((0 : Nat) < (1 : Nat)) && true &&
      (decide ((0 : Nat) < (1 : Nat)) && true &&
        (decide ((0 : Nat) < (1 : Nat)) && true &&
          (decide ((0 : Nat) < (1 : Nat)) && true &&
            (decide ((0 : Nat) < (1 : Nat)) && true &&
              ((true && (List.map eStr (scRecs b)).all fun row => decide (row.length = (1 : Nat))) &&
                ((true && (List.map eInt (scOffs b)).all fun row => decide (row.length = (1 : Nat))) &&
                  (decide ((0 : Nat) < (1 : Nat)) && true && (decide ((0 : Nat) < (1 : Nat)) && true && true)))))))) &&
    true &&
  true)
    (.must true
     (.must true
      (.must true
       (.ask (inB i (0 : Int) (IntKind.i64.wrap ((↑(List.map eInt (scOffs b)).length : Int) - (1 : Int))))
        (.ask (decide (i = IntKind.i64.wrap ((↑(List.map eInt (scOffs b)).length : Int) - (1 : Int))))
         (.must (decide ((0 : Int) ≤ i) && decide (i < (↑(List.map eInt (scOffs b)).length : Int)))
          (.must (decide ((0 : Nat) + i.toNat < (List.map eInt (scOffs b)).length) &&
  (decide ((0 : Nat) < ((List.map eInt (scOffs b)).getD ((0 : Nat) + i.toNat) []).length) &&
      C.is (K.int IntKind.i64)
        (((List.map eInt (scOffs b)).getD ((0 : Nat) + i.toNat) []).getD (0 : Nat) (C.fn (0 : FuncId) [])) &&
    true))
           (.must true
            (.ret [C.int IntKind.i64
    (((List.map eInt (scOffs b)).getD ((0 : Nat) + i.toNat) []).getD (0 : Nat) (C.fn (0 : FuncId) [])).toInt,
  C.int IntKind.i64 (scEnd b), C.bool true]))))
         (.must (decide ((0 : Int) ≤ i) && decide (i < (↑(List.map eInt (scOffs b)).length : Int)))
          (.must (decide ((0 : Nat) + i.toNat < (List.map eInt (scOffs b)).length) &&
  (decide ((0 : Nat) < ((List.map eInt (scOffs b)).getD ((0 : Nat) + i.toNat) []).length) &&
      C.is (K.int IntKind.i64)
        (((List.map eInt (scOffs b)).getD ((0 : Nat) + i.toNat) []).getD (0 : Nat) (C.fn (0 : FuncId) [])) &&
    true))
           (.must (decide ((0 : Int) ≤ IntKind.i64.wrap (i + (1 : Int))) &&
  decide (IntKind.i64.wrap (i + (1 : Int)) < (↑(List.map eInt (scOffs b)).length : Int)))
            (.must (decide ((0 : Nat) + (IntKind.i64.wrap (i + (1 : Int))).toNat < (List.map eInt (scOffs b)).length) &&
  (decide
        ((0 : Nat) <
          ((List.map eInt (scOffs b)).getD ((0 : Nat) + (IntKind.i64.wrap (i + (1 : Int))).toNat) []).length) &&
      C.is (K.int IntKind.i64)
        (((List.map eInt (scOffs b)).getD ((0 : Nat) + (IntKind.i64.wrap (i + (1 : Int))).toNat) []).getD (0 : Nat)
          (C.fn (0 : FuncId) [])) &&
    true))
             (.must true
              (.ret [C.int IntKind.i64
    (((List.map eInt (scOffs b)).getD ((0 : Nat) + i.toNat) []).getD (0 : Nat) (C.fn (0 : FuncId) [])).toInt,
  C.int IntKind.i64
    (((List.map eInt (scOffs b)).getD ((0 : Nat) + (IntKind.i64.wrap (i + (1 : Int))).toNat) []).getD (0 : Nat)
        (C.fn (0 : FuncId) [])).toInt,
  C.bool true])))))))
        (.must true
         (.ret [C.int IntKind.i64 (0 : Int), C.int IntKind.i64 (0 : Int), C.bool false])))))))))) := by kernel_rfl
theorem iFrameRange_tree (H : List Pt → Nat → St → T (List C)) (b : List UInt8) (i : Int) : vBodyL E_iFrameRange noInl (sg [pS, pI] [rI, rI, rB]) Try.f46 H [C.str b, C.int IntKind.i64 i] =
 (.must true
 (.must true
  (.must (decide (b.length ≤ (1048576 : Nat)))
   (.must (decide ((0 : Nat) < (1 : Nat)) && true &&
      (decide ((0 : Nat) < (1 : Nat)) && true &&
        (decide ((0 : Nat) < (1 : Nat)) && true &&
          (decide ((0 : Nat) < (1 : Nat)) && true &&
            (decide ((0 : Nat) < (1 : Nat)) && true &&
              ((true && (List.map eStr (scRecs b)).all fun row => decide (row.length = (1 : Nat))) &&
                ((true && (List.map eInt (scOffs b)).all fun row => decide (row.length = (1 : Nat))) &&
                  (decide ((0 : Nat) < (1 : Nat)) && true && (decide ((0 : Nat) < (1 : Nat)) && true && true)))))))) &&
    true &&
  true)
    (.must true
     (.must true
      (.must true
       (.ask (inB i (0 : Int) (IntKind.i64.wrap ((↑(List.map eStr (scRecs b)).length : Int) - (1 : Int))))
        (.must true
         (.must (rowsOk [K.int IntKind.i64] (List.take (List.map eInt (scOffs b)).length (List.map eInt (scOffs b))) &&
  (decide ((List.take (List.map eInt (scOffs b)).length (List.map eInt (scOffs b))).length ≤ (1048576 : Nat)) &&
    (decide ((0 : Int) ≤ i) &&
      decide (i < (↑(List.take (List.map eInt (scOffs b)).length (List.map eInt (scOffs b))).length : Int)))))
          (.must true
           (.must true
            (.ret [C.int IntKind.i64 (offFrom (ints (List.take (List.map eInt (scOffs b)).length (List.map eInt (scOffs b)))) i),
  C.int IntKind.i64 (offTo (ints (List.take (List.map eInt (scOffs b)).length (List.map eInt (scOffs b)))) (scEnd b) i),
  C.bool true])))))
        (.must true
         (.ret [C.int IntKind.i64 (0 : Int), C.int IntKind.i64 (0 : Int), C.bool false])))))))))) := by kernel_rfl
theorem sFirstHit_tree (H : List Pt → Nat → St → T (List C)) (b : List UInt8) (x : Int) (y : Int) : vBodyL E_sFirstHit noInl (sg [pS, pI, pI] [rI]) Try.f44 H [C.str b, C.int IntKind.i64 x, C.int IntKind.i64 y] =
 (.must true
 (.must true
  (.must (decide (b.length ≤ (1048576 : Nat)))
   (.must (decide ((0 : Nat) < (1 : Nat)) && true &&
      (decide ((0 : Nat) < (1 : Nat)) && true &&
        (decide ((0 : Nat) < (1 : Nat)) && true &&
          (decide ((0 : Nat) < (1 : Nat)) && true &&
            (decide ((0 : Nat) < (1 : Nat)) && true &&
              ((true && (List.map eStr (scRecs b)).all fun row => decide (row.length = (1 : Nat))) &&
                ((true && (List.map eInt (scOffs b)).all fun row => decide (row.length = (1 : Nat))) &&
                  (decide ((0 : Nat) < (1 : Nat)) && true && (decide ((0 : Nat) < (1 : Nat)) && true && true)))))))) &&
    true &&
  true)
    (.ask (readHeadOk b)
     (.ask (decide (x < (24 : Int)))
      (.ask (decide ((0 : Int) < y))
       (.ask (decide (x < y))
        (.must true
         (.ret [C.int IntKind.i64 (0 : Int)]))
        (H [Pt.r, Pt.r, Pt.r, Pt.l, Pt.r, Pt.b] (9223372036854775808 : Nat) (H_sFirstHit (b) (x) (y) ((0 : Int)))))
       (H [Pt.r, Pt.r, Pt.r, Pt.l, Pt.r, Pt.b] (9223372036854775808 : Nat) (H_sFirstHit (b) (x) (y) ((0 : Int)))))
      (H [Pt.r, Pt.r, Pt.r, Pt.l, Pt.r, Pt.b] (9223372036854775808 : Nat) (H_sFirstHit (b) (x) (y) ((0 : Int)))))
     (.must true
      (.ret [C.int IntKind.i64 (0 : Int)]))))))) := by kernel_rfl
theorem iFirstHit_tree (H : List Pt → Nat → St → T (List C)) (b : List UInt8) (x : Int) (y : Int) : vBodyL E_iFirstHit noInl (sg [pS, pI, pI] [rI]) Try.f49 H [C.str b, C.int IntKind.i64 x, C.int IntKind.i64 y] =
 (.must true
 (.must true
  (.must (decide (b.length ≤ (1048576 : Nat)))
   (.must (decide ((0 : Nat) < (1 : Nat)) && true &&
      (decide ((0 : Nat) < (1 : Nat)) && true &&
        (decide ((0 : Nat) < (1 : Nat)) && true &&
          (decide ((0 : Nat) < (1 : Nat)) && true &&
            (decide ((0 : Nat) < (1 : Nat)) && true &&
              ((true && (List.map eStr (scRecs b)).all fun row => decide (row.length = (1 : Nat))) &&
                ((true && (List.map eInt (scOffs b)).all fun row => decide (row.length = (1 : Nat))) &&
                  (decide ((0 : Nat) < (1 : Nat)) && true && (decide ((0 : Nat) < (1 : Nat)) && true && true)))))))) &&
    true &&
  true)
    (.ask (readHeadOk b)
     (.must true
      (.must true
       (.must true
        (.ask (meets (0 : Int) (24 : Int) x y)
         (.must true
          (.ret [C.int IntKind.i64 (0 : Int)]))
         (H [Pt.r, Pt.r, Pt.r, Pt.l, Pt.r, Pt.b] (9223372036854775808 : Nat) (H_iFirstHit (b) (x) (y) ((↑(List.map eStr (scRecs b)).length : Int)) ((0 : Int))))))))
     (.must true
      (.ret [C.int IntKind.i64 (0 : Int)]))))))) := by kernel_rfl
theorem sFirstHit_round0 (H : List Pt → Nat → St → T (List C)) (b : List UInt8) (x : Int) (y : Int) (i : Int) (k : Nat) : vRound E_sFirstHit noInl (sg [pS, pI, pI] [rI]) Try.f44 H [Pt.r, Pt.r, Pt.r, Pt.l, Pt.r, Pt.b] k (H_sFirstHit b x y i) =
 (.ask (decide (i < (↑(List.map eStr (scRecs b)).length : Int)))
 (.must true
  (.must (decide (b.length ≤ (1048576 : Nat)))
   (.must true
    (.ask (frOk b i)
     (.ask (decide (x < frTo b i))
      (.ask (decide (frFrom b i < y))
       (.ask (decide (x < y))
        (.must true
         (.ret [C.int IntKind.i64 i]))
        (H [Pt.r, Pt.r, Pt.r, Pt.l, Pt.r, Pt.b] k (H_sFirstHit (b) (x) (y) (IntKind.i64.wrap (i + (1 : Int))))))
       (H [Pt.r, Pt.r, Pt.r, Pt.l, Pt.r, Pt.b] k (H_sFirstHit (b) (x) (y) (IntKind.i64.wrap (i + (1 : Int))))))
      (H [Pt.r, Pt.r, Pt.r, Pt.l, Pt.r, Pt.b] k (H_sFirstHit (b) (x) (y) (IntKind.i64.wrap (i + (1 : Int))))))
     (.ask (decide (x < frTo b i))
      (.ask (decide (frFrom b i < y))
       (.ask (decide (x < y))
        (.must true
         (.ret [C.int IntKind.i64 i]))
        (H [Pt.r, Pt.r, Pt.r, Pt.l, Pt.r, Pt.b] k (H_sFirstHit (b) (x) (y) (IntKind.i64.wrap (i + (1 : Int))))))
       (H [Pt.r, Pt.r, Pt.r, Pt.l, Pt.r, Pt.b] k (H_sFirstHit (b) (x) (y) (IntKind.i64.wrap (i + (1 : Int))))))
      (H [Pt.r, Pt.r, Pt.r, Pt.l, Pt.r, Pt.b] k (H_sFirstHit (b) (x) (y) (IntKind.i64.wrap (i + (1 : Int))))))))))
 (.must true
  (.ret [C.int IntKind.i64 (↑(List.map eStr (scRecs b)).length : Int)]))) := by kernel_rfl
theorem iFirstHit_round0 (H : List Pt → Nat → St → T (List C)) (b : List UInt8) (x : Int) (y : Int) (e : Int) (i : Int) (k : Nat) : vRound E_iFirstHit noInl (sg [pS, pI, pI] [rI]) Try.f49 H [Pt.r, Pt.r, Pt.r, Pt.l, Pt.r, Pt.b] k (H_iFirstHit b x y e i) =
 (.ask (decide (i < e))
 (.must true
  (.must (rowsOk [K.int IntKind.i64] (List.take (List.map eInt (scOffs b)).length (List.map eInt (scOffs b))) &&
  (decide ((List.take (List.map eInt (scOffs b)).length (List.map eInt (scOffs b))).length ≤ (1048576 : Nat)) &&
    (decide ((0 : Int) ≤ i) &&
      decide (i < (↑(List.take (List.map eInt (scOffs b)).length (List.map eInt (scOffs b))).length : Int)))))
   (.must true
    (.must true
     (.must true
      (.must true
       (.ask (meets (offFrom (ints (List.take (List.map eInt (scOffs b)).length (List.map eInt (scOffs b)))) i)
  (offTo (ints (List.take (List.map eInt (scOffs b)).length (List.map eInt (scOffs b)))) (scEnd b) i) x y)
        (.must true
         (.ret [C.int IntKind.i64 i]))
        (H [Pt.r, Pt.r, Pt.r, Pt.l, Pt.r, Pt.b] k (H_iFirstHit (b) (x) (y) (e) (IntKind.i64.wrap (i + (1 : Int))))))))))))
 (.must true
  (.ret [C.int IntKind.i64 (↑(List.map eStr (scRecs b)).length : Int)]))) := by kernel_rfl
theorem sSizesHit_tree (H : List Pt → Nat → St → T (List C)) (b : List UInt8) (x : Int) (y : Int) : vBodyL E_sSizesHit noInl (sg [pS, pI, pI] [rB]) Try.f53 H [C.str b, C.int IntKind.i64 x, C.int IntKind.i64 y] =
 (.must true
 (.must true
  (.must (decide (b.length ≤ (1048576 : Nat)))
   (.must (decide ((0 : Nat) < (1 : Nat)) && true &&
      (decide ((0 : Nat) < (1 : Nat)) && true &&
        (decide ((0 : Nat) < (1 : Nat)) && true &&
          (decide ((0 : Nat) < (1 : Nat)) && true &&
            (decide ((0 : Nat) < (1 : Nat)) && true &&
              ((true && (List.map eStr (scRecs b)).all fun row => decide (row.length = (1 : Nat))) &&
                ((true && (List.map eInt (scOffs b)).all fun row => decide (row.length = (1 : Nat))) &&
                  (decide ((0 : Nat) < (1 : Nat)) && true && (decide ((0 : Nat) < (1 : Nat)) && true && true)))))))) &&
    true &&
  true)
    (.ask (readHeadOk b)
     (.ask (ifI (readHeadOk b) (rhV b) != (1 : Int))
      (.must true
       (.ret [C.bool false]))
      (H [Pt.r, Pt.r, Pt.r, Pt.l, Pt.r, Pt.b] (9223372036854775808 : Nat) (H_sSizesHit (b) (x) (y) ((0 : Int)))))
     (.must true
      (.ret [C.bool false]))))))) := by kernel_rfl
theorem iSizesHit_tree (H : List Pt → Nat → St → T (List C)) (b : List UInt8) (x : Int) (y : Int) : vBodyL E_iSizesHit noInl (sg [pS, pI, pI] [rB]) Try.f52 H [C.str b, C.int IntKind.i64 x, C.int IntKind.i64 y] =
 (.must true
 (.must true
  (.must (decide (b.length ≤ (1048576 : Nat)))
   (.must (decide ((0 : Nat) < (1 : Nat)) && true &&
      (decide ((0 : Nat) < (1 : Nat)) && true &&
        (decide ((0 : Nat) < (1 : Nat)) && true &&
          (decide ((0 : Nat) < (1 : Nat)) && true &&
            (decide ((0 : Nat) < (1 : Nat)) && true &&
              ((true && (List.map eStr (scRecs b)).all fun row => decide (row.length = (1 : Nat))) &&
                ((true && (List.map eInt (scOffs b)).all fun row => decide (row.length = (1 : Nat))) &&
                  (decide ((0 : Nat) < (1 : Nat)) && true && (decide ((0 : Nat) < (1 : Nat)) && true && true)))))))) &&
    true &&
  true)
    (.ask (readHeadOk b)
     (.ask (ifI (readHeadOk b) (rhV b) != (1 : Int))
      (.must true
       (.ret [C.bool false]))
      (H [Pt.r, Pt.r, Pt.r, Pt.l, Pt.r, Pt.b] (9223372036854775808 : Nat) (H_iSizesHit (b) (x) (y) ((↑(List.map eInt (scOffs b)).length : Int)) ((0 : Int)))))
     (.must true
      (.ret [C.bool false]))))))) := by kernel_rfl
theorem sSizesHit_round0 (H : List Pt → Nat → St → T (List C)) (b : List UInt8) (x : Int) (y : Int) (i : Int) (k : Nat) : vRound E_sSizesHit noInl (sg [pS, pI, pI] [rB]) Try.f53 H [Pt.r, Pt.r, Pt.r, Pt.l, Pt.r, Pt.b] k (H_sSizesHit b x y i) =
 (.ask (decide (i < (↑(List.map eStr (scRecs b)).length : Int)))
 (.must (decide ((0 : Int) ≤ i) && decide (i < (↑(List.map eInt (scOffs b)).length : Int)))
  (.must (decide ((0 : Nat) + i.toNat < (List.map eInt (scOffs b)).length) &&
  (decide ((0 : Nat) < ((List.map eInt (scOffs b)).getD ((0 : Nat) + i.toNat) []).length) &&
      C.is (K.int IntKind.i64)
        (((List.map eInt (scOffs b)).getD ((0 : Nat) + i.toNat) []).getD (0 : Nat) (C.fn (0 : FuncId) [])) &&
    true))
   (.must (decide ((0 : Int) ≤ i) && decide (i < (↑(List.map eStr (scRecs b)).length : Int)))
    (.must (decide ((0 : Nat) + i.toNat < (List.map eStr (scRecs b)).length) &&
  (decide ((0 : Nat) < ((List.map eStr (scRecs b)).getD ((0 : Nat) + i.toNat) []).length) &&
      C.is K.str (((List.map eStr (scRecs b)).getD ((0 : Nat) + i.toNat) []).getD (0 : Nat) (C.fn (0 : FuncId) [])) &&
    true))
     (.must true
      (.must true
       (.must true
        (.ask (decide
  (x <
    IntKind.i64.wrap
      ((((List.map eInt (scOffs b)).getD ((0 : Nat) + i.toNat) []).getD (0 : Nat) (C.fn (0 : FuncId) [])).toInt +
        Int.ofNat
          (varText
              (↑(((List.map eStr (scRecs b)).getD ((0 : Nat) + i.toNat) []).getD (0 : Nat)
                        (C.fn (0 : FuncId) [])).toStr.length :
                Int)).length)))
         (.must (decide ((0 : Int) ≤ i) && decide (i < (↑(List.map eInt (scOffs b)).length : Int)))
          (.must (decide ((0 : Nat) + i.toNat < (List.map eInt (scOffs b)).length) &&
  (decide ((0 : Nat) < ((List.map eInt (scOffs b)).getD ((0 : Nat) + i.toNat) []).length) &&
      C.is (K.int IntKind.i64)
        (((List.map eInt (scOffs b)).getD ((0 : Nat) + i.toNat) []).getD (0 : Nat) (C.fn (0 : FuncId) [])) &&
    true))
           (.ask (decide ((((List.map eInt (scOffs b)).getD ((0 : Nat) + i.toNat) []).getD (0 : Nat) (C.fn (0 : FuncId) [])).toInt < y))
            (.ask (decide (x < y))
             (.must true
              (.ret [C.bool true]))
             (H [Pt.r, Pt.r, Pt.r, Pt.l, Pt.r, Pt.b] k (H_sSizesHit (b) (x) (y) (IntKind.i64.wrap (i + (1 : Int))))))
            (H [Pt.r, Pt.r, Pt.r, Pt.l, Pt.r, Pt.b] k (H_sSizesHit (b) (x) (y) (IntKind.i64.wrap (i + (1 : Int))))))))
         (H [Pt.r, Pt.r, Pt.r, Pt.l, Pt.r, Pt.b] k (H_sSizesHit (b) (x) (y) (IntKind.i64.wrap (i + (1 : Int)))))))))))))
 (.must true
  (.ret [C.bool false]))) := by kernel_rfl
theorem iSizesHit_round0 (H : List Pt → Nat → St → T (List C)) (b : List UInt8) (x : Int) (y : Int) (e : Int) (i : Int) (k : Nat) : vRound E_iSizesHit noInl (sg [pS, pI, pI] [rB]) Try.f52 H [Pt.r, Pt.r, Pt.r, Pt.l, Pt.r, Pt.b] k (H_iSizesHit b x y e i) =
 (.ask (decide (i < e))
 (.must (decide ((0 : Int) ≤ i) && decide (i < (↑(List.map eInt (scOffs b)).length : Int)))
  (.must (decide ((0 : Nat) + i.toNat < (List.map eInt (scOffs b)).length) &&
  (decide ((0 : Nat) < ((List.map eInt (scOffs b)).getD ((0 : Nat) + i.toNat) []).length) &&
      C.is (K.int IntKind.i64)
        (((List.map eInt (scOffs b)).getD ((0 : Nat) + i.toNat) []).getD (0 : Nat) (C.fn (0 : FuncId) [])) &&
    true))
   (.must (decide ((0 : Int) ≤ i) && decide (i < (↑(List.map eStr (scRecs b)).length : Int)))
    (.must (decide ((0 : Nat) + i.toNat < (List.map eStr (scRecs b)).length) &&
  (decide ((0 : Nat) < ((List.map eStr (scRecs b)).getD ((0 : Nat) + i.toNat) []).length) &&
      C.is K.str (((List.map eStr (scRecs b)).getD ((0 : Nat) + i.toNat) []).getD (0 : Nat) (C.fn (0 : FuncId) [])) &&
    true))
     (.must true
      (.must true
       (.must true
        (.must true
         (.must true
          (.must true
           (.ask (meets (((List.map eInt (scOffs b)).getD ((0 : Nat) + i.toNat) []).getD (0 : Nat) (C.fn (0 : FuncId) [])).toInt
  (IntKind.i64.wrap
    ((((List.map eInt (scOffs b)).getD ((0 : Nat) + i.toNat) []).getD (0 : Nat) (C.fn (0 : FuncId) [])).toInt +
      Int.ofNat
        (varText
            (↑(((List.map eStr (scRecs b)).getD ((0 : Nat) + i.toNat) []).getD (0 : Nat)
                      (C.fn (0 : FuncId) [])).toStr.length :
              Int)).length))
  x y)
            (.must true
             (.ret [C.bool true]))
            (H [Pt.r, Pt.r, Pt.r, Pt.l, Pt.r, Pt.b] k (H_iSizesHit (b) (x) (y) (e) (IntKind.i64.wrap (i + (1 : Int))))))))))))))))
 (.must true
  (.ret [C.bool false]))) := by kernel_rfl
end Go.Proofs.Ythpcgbnochcbcaa.V

namespace Go.Proofs.Ythpcgbnochcbcaa.V

theorem iFrameAt_E : EnvSound Try.prog E_iFrameAt := mkE_sound (by simp [])
theorem iFrameAt_sound : Sound Try.prog 89 (sg [pScanT, pI] [rI, rI]) frameAtSpec := vBody_sound iFrameAt_E noInl_ok Try.func89 (by kernel_rfl) fun cs outs hk h => by
  unfold frameAtSpec at h
  split at h
  · simp only [Option.some.injEq, Prod.mk.injEq, Bool.and_eq_true, decide_eq_true_eq] at h
    obtain ⟨⟨h1, h2, h3, h4⟩, rfl⟩ := h
    rename_i k v s q l rr os e m i
    have hr := rows_ints h1
    generalize ints os = o at hr ⊢
    subst hr
    rw [List.length_map] at h2 h4
    rw [vBody_L, iFrameAt_tree]
    obtain ⟨i, rfl⟩ := Int.eq_ofNat_of_zero_le h3
    have w : IntKind.i64.wrap ((i : Int) + 1) = ((i + 1 : Nat) : Int) := by rw [wrap64] <;> omega
    have hi : i < o.length := by omega
    have g := map_getD eInt o 0 i hi
    have z : (0 : Int) ≤ ((i + 1 : Nat) : Int) := by omega
    have t1 : ((i : Int) + 1).toNat = i + 1 := by omega
    simp only [eval_must', eval_ask', eval_ret', if_true, decide_eq_true_eq, Bool.and_eq_true, w, h3, z, Int.toNat_natCast, List.length_map, Int.ofNat_lt, hi, g, offFrom, offTo, and_self]
    by_cases hn : i + 1 < o.length
    · have g2 := map_getD eInt o 0 (i + 1) hn
      have hn' : (i : Int) + 1 < o.length := by omega
      simp only [hn, hn', if_true, g2, t1, and_self]
      rfl
    · have hn' : ¬ ((i : Int) + 1 < o.length) := by omega
      simp only [hn, hn', if_false]
      rfl
  · cases h
structure Good (b : List UInt8) (rs : List (List UInt8)) (os : List Int) (e : Int) : Prop where
  len : rs.length = os.length
  e0 : 0 ≤ e
  e1 : e ≤ b.length
  few : (os.length : Int) ≤ e
  offs : ∀ i : Nat, i < os.length → 0 ≤ offFrom os i ∧ offFrom os i < offTo os e i ∧ offTo os e i ≤ b.length
  recs : ∀ r, r ∈ rs → r.length ≤ 60
theorem rfRec_len (v p : Int) (b : List UInt8) (a : Int) : (rfRec v p b a).length ≤ 60 := by
  unfold rfRec
  split
  · rename_i h
    unfold rfOk at h
    simp only [Bool.and_eq_true, decide_eq_true_eq] at h
    unfold rfText; simp; omega
  · simp
theorem scanGo_good (v p : Int) (b : List UInt8) : ∀ (f : Nat) (k e : Int) (rs : List (List UInt8)) (os : List Int), Good b rs os e → Good b (scanGo v p b f k e rs os).1 (scanGo v p b f k e rs os).2.1 (scanGo v p b f k e rs os).2.2.1
  | 0, k, e, rs, os, h => h
  | f + 1, k, e, rs, os, h => by
    simp only [scanGo]
    split
    · exact h
    · split
      · rename_i ho
        obtain ⟨g1, g2, g3⟩ := rfOk_end _ _ _ _ ho
        refine scanGo_good v p b f (k + 1) _ _ _ ⟨by simp [h.len], by omega, g2, by simp; have := h.few; omega, fun i hi => ?_, fun r hr => ?_⟩
        · have e0 := h.e0
          by_cases hlt : i < os.length
          · have ho := h.offs i hlt
            have c1 : offFrom (os ++ [e]) i = offFrom os i := by
              unfold offFrom; simp [List.getD_eq_getElem?_getD, List.getElem?_append_left hlt]
            have c2 : offTo (os ++ [e]) (rfEnd v (p + k) b e) i = offTo os e i := by
              have t1 : ((i : Int) + 1).toNat = i + 1 := by omega
              unfold offTo
              rw [t1, if_pos (by simp; omega)]
              by_cases hn : i + 1 < os.length
              · rw [if_pos (by omega)]
                simp [List.getD_eq_getElem?_getD, List.getElem?_append_left hn]
              · rw [if_neg (by omega)]
                have : i + 1 = os.length := by omega
                rw [this]
                simp [List.getD_eq_getElem?_getD]
            rw [c1, c2]; exact ho
          · have hil : i = os.length := by simp at hi; omega
            subst hil
            have c1 : offFrom (os ++ [e]) os.length = e := by unfold offFrom; simp [List.getD_eq_getElem?_getD]
            have c2 : offTo (os ++ [e]) (rfEnd v (p + k) b e) os.length = rfEnd v (p + k) b e := by unfold offTo; rw [if_neg (by simp)]
            rw [c1, c2]
            omega
        · rcases List.mem_append.1 hr with hr | hr
          · exact h.recs r hr
          · have : r = rfRec v (p + k) b e := by simpa using hr
            rw [this]; exact rfRec_len _ _ _ _
      · exact h
theorem scan_good (b : List UInt8) : Good b (scRecs b) (scOffs b) (scEnd b) := by
  unfold scRecs scOffs scEnd scanOf
  split
  · rename_i hr
    have h24 : 24 ≤ b.length := by
      unfold readHeadOk at hr
      simp only [Bool.and_eq_true, decide_eq_true_eq] at hr
      exact hr.1.1
    exact scanGo_good _ _ b _ 0 24 [] [] ⟨rfl, by omega, by omega, by simp, fun i hi => by simp at hi, fun r hr => by cases hr⟩
  · exact ⟨rfl, by simp, by simp, by simp, fun i hi => by simp at hi, fun r hr => by cases hr⟩
theorem len1_str (l : List (List UInt8)) : ((l.map eStr).all fun row => decide (row.length = 1)) = true := by simp
theorem len1_int (l : List Int) : ((l.map eInt).all fun row => decide (row.length = 1)) = true := by simp
theorem frOk_iff (b : List UInt8) (i : Int) : frOk b i = true ↔ 0 ≤ i ∧ i < (scOffs b).length := by
  unfold frOk; rw [in_iff]; omega
theorem sFrameRange_E : EnvSound Try.prog E_sFrameRange := mkE_sound (by simp [sIn_sound, sScanText_sound])
theorem sFrameRange_sound : Sound Try.prog 47 (sg [pS, pI] [rI, rI, rB]) frameRangeSpec := vBody_sound sFrameRange_E noInl_ok Try.func47 (by kernel_rfl) fun cs outs hk h => by
  unfold frameRangeSpec at h
  split at h
  · simp only [Option.some.injEq, Prod.mk.injEq, decide_eq_true_eq] at h
    obtain ⟨h1, rfl⟩ := h
    rename_i b i
    rw [vBody_L, sFrameRange_tree]
    have hg := scan_good b
    have hf := hg.few
    have he := hg.e1
    have l1 := len1_str (scRecs b)
    have l2 := len1_int (scOffs b)
    have pre : decide (b.length ≤ 1048576) = true := decide_eq_true h1
    have w : IntKind.i64.wrap (((scOffs b).length : Int) - 1) = ((scOffs b).length : Int) - 1 := by rw [wrap64] <;> omega
    have hfr : inB i 0 (((scOffs b).length : Int) - 1) = frOk b i := rfl
    cases hk : frOk b i with
    | false =>
      simp only [lit_must, pre, eval_must', eval_ask', eval_ret', l1, l2, List.length_map, w, hfr, hk, frFrom, frTo, Bool.false_eq_true, if_false]
      simp
    | true =>
      have hi := (frOk_iff b i).1 hk
      obtain ⟨i, rfl⟩ := Int.eq_ofNat_of_zero_le hi.1
      have hi' : i < (scOffs b).length := by omega
      have g := map_getD eInt (scOffs b) 0 i hi'
      have w1 : IntKind.i64.wrap ((i : Int) + 1) = ((i + 1 : Nat) : Int) := by rw [wrap64] <;> omega
      have t1 : ((i : Int) + 1).toNat = i + 1 := by omega
      simp only [lit_must, pre, eval_must', eval_ask', eval_ret', l1, l2, List.length_map, w, hfr, hk, frFrom, frTo, if_true, Nat.zero_add, Int.toNat_natCast, g, offFrom, offTo, w1, t1]
      by_cases hl : (i : Int) = ((scOffs b).length : Int) - 1
      · have hn : ¬ ((i : Int) + 1 < (scOffs b).length) := by omega
        have hlt := eq_true hl
        simp [hlt, hn, hi', C.is, C.toInt]
      · have hn : (i : Int) + 1 < (scOffs b).length := by omega
        have hn' : i + 1 < (scOffs b).length := by omega
        have g2 := map_getD eInt (scOffs b) 0 (i + 1) hn'
        have z : (0 : Int) ≤ ((i + 1 : Nat) : Int) := by omega
        have z2 : ((i + 1 : Nat) : Int) < (scOffs b).length := by omega
        have hl' : ((i : Int) = ((scOffs b).length : Int) - 1) = False := eq_false hl
        simp only [hl', decide_false, Bool.false_eq_true, if_false, g2, hn, if_true]
        simp [hi', hn', C.is, C.toInt]
        omega
  · cases h

theorem iFrameRange_E : EnvSound Try.prog E_iFrameRange := mkE_sound (by simp [iIn_sound, iScanText_sound, iFrameAt_sound])
theorem iFrameRange_sound : Sound Try.prog 46 (sg [pS, pI] [rI, rI, rB]) frameRangeSpec := vBody_sound iFrameRange_E noInl_ok Try.func46 (by kernel_rfl) fun cs outs hk h => by
  unfold frameRangeSpec at h
  split at h
  · simp only [Option.some.injEq, Prod.mk.injEq, decide_eq_true_eq] at h
    obtain ⟨h1, rfl⟩ := h
    rename_i b i
    rw [vBody_L, iFrameRange_tree]
    have hg := scan_good b
    have hf := hg.few
    have he := hg.e1
    have hlen := hg.len
    have l1 := len1_str (scRecs b)
    have l2 := len1_int (scOffs b)
    have pre : decide (b.length ≤ 1048576) = true := decide_eq_true h1
    have w : IntKind.i64.wrap (((scOffs b).length : Int) - 1) = ((scOffs b).length : Int) - 1 := by rw [wrap64] <;> omega
    have tk : ((scOffs b).map eInt).take (scOffs b).length = (scOffs b).map eInt := List.take_of_length_le (by simp)
    have hfr : inB i 0 (((scOffs b).length : Int) - 1) = frOk b i := rfl
    have ro := rowsOk_ints (scOffs b)
    have im := ints_map (scOffs b)
    cases hk : frOk b i with
    | false =>
      simp only [lit_must, pre, eval_must', eval_ask', eval_ret', l1, l2, List.length_map, hlen, w, hfr, hk, frFrom, frTo, Bool.false_eq_true, if_false]
      simp
    | true =>
      have hi := (frOk_iff b i).1 hk
      have hl2 : (scOffs b).length ≤ 1048576 := by omega
      simp only [lit_must, pre, eval_must', eval_ask', eval_ret', l1, l2, List.length_map, hlen, w, hfr, hk, frFrom, frTo, if_true, tk, ro, im]
      simp [hi, hl2]
  · cases h

theorem meets_iff (a b x y : Int) : meets a b x y = true ↔ a < b ∧ a < y ∧ x < b ∧ x < y := by
  unfold meets imax imin
  rw [decide_eq_true_eq]
  repeat' split
  all_goals omega
theorem frRange (b : List UInt8) (i : Nat) (h : i < (scOffs b).length) : frFrom b i = offFrom (scOffs b) i ∧ frTo b i = offTo (scOffs b) (scEnd b) i ∧ frOk b i = true ∧ frFrom b i < frTo b i := by
  have hk : frOk b i = true := (frOk_iff b i).2 ⟨by omega, by omega⟩
  have := (scan_good b).offs i h
  unfold frFrom frTo
  rw [hk]
  exact ⟨rfl, rfl, rfl, by simpa using this.2.1⟩
theorem sFirstHit_loop (b : List UInt8) (x y : Int) (hb : b.length ≤ 1048576) : ∀ (f n i : Nat), i + f = (scRecs b).length → f < n →
    (vLoop E_sFirstHit noInl (sg [pS, pI, pI] [rI]) Try.f44 [.r, .r, .r, .l, .r, .b] n (H_sFirstHit b x y i)).eval = some [.int .i64 (firstFrom b x y f i : Nat)] := by
  have hg := scan_good b
  have hf := hg.few
  have he := hg.e1
  have hlen := hg.len
  intro f
  induction f with
  | zero =>
    intro n i h1 h2
    obtain ⟨n, rfl⟩ : ∃ m, n = m + 1 := ⟨n - 1, by omega⟩
    rw [vLoop_L _ _ _ _ _ _ _ (by kernel_rfl), sFirstHit_round0]
    have : ¬ ((i : Int) < (scRecs b).length) := by omega
    simp only [eval_must', eval_ask', eval_ret', if_true, decide_eq_true_eq, List.length_map, this, if_false, firstFrom]
    congr 3; omega
  | succ f ih =>
    intro n i h1 h2
    obtain ⟨n, rfl⟩ : ∃ m, n = m + 1 := ⟨n - 1, by omega⟩
    rw [vLoop_L _ _ _ _ _ _ _ (by kernel_rfl), sFirstHit_round0]
    have e := ih n (i + 1) (by omega) (by omega)
    have w1 : IntKind.i64.wrap ((i : Int) + 1) = ((i + 1 : Nat) : Int) := by rw [wrap64] <;> omega
    have hi : (i : Int) < (scRecs b).length := by omega
    obtain ⟨r1, r2, r3, r4⟩ := frRange b i (by omega)
    have pre : decide (b.length ≤ 1048576) = true := decide_eq_true hb
    simp only [lit_must, eval_must', eval_ask', eval_ret', if_true, decide_eq_true_eq, List.length_map, hi, hb, r3, w1, firstFrom]
    cases hh : hitAt b x y i with
    | true =>
      have := (meets_iff _ _ _ _).1 hh
      simp only [this.2.1, this.2.2.1, this.2.2.2, if_true]
    | false =>
      have hne : ¬ (x < frTo b i ∧ frFrom b i < y ∧ x < y) := fun h => by
        have : hitAt b x y i = true := (meets_iff _ _ _ _).2 ⟨r4, h.2.1, h.1, h.2.2⟩
        rw [hh] at this; cases this
      simp only [Bool.false_eq_true, if_false]
      by_cases p1 : x < frTo b i
      · by_cases p2 : frFrom b i < y
        · by_cases p3 : x < y
          · exact absurd ⟨p1, p2, p3⟩ hne
          · simp only [p1, p2, p3, if_true, if_false]; exact e
        · simp only [p1, p2, if_true, if_false]; exact e
      · simp only [p1, if_false]; exact e
theorem sFirstHit_E : EnvSound Try.prog E_sFirstHit := mkE_sound (by simp [sScanText_sound, sFrameRange_sound])
theorem sFirstHit_sound : Sound Try.prog 44 (sg [pS, pI, pI] [rI]) firstHitSpec := vBody_sound sFirstHit_E noInl_ok Try.func44 (by kernel_rfl) fun cs outs hk h => by
  unfold firstHitSpec at h
  split at h
  · simp only [Option.some.injEq, Prod.mk.injEq, decide_eq_true_eq] at h
    obtain ⟨h1, rfl⟩ := h
    rename_i b x y
    rw [vBody_L, sFirstHit_tree]
    have l1 := len1_str (scRecs b)
    have l2 := len1_int (scOffs b)
    have hg := scan_good b
    have hf := hg.few
    have he := hg.e1
    have hlen := hg.len
    have lp := sFirstHit_loop b x y h1 (scRecs b).length 9223372036854775808 0 (by omega) (by omega)
    have pre : decide (b.length ≤ 1048576) = true := decide_eq_true h1
    cases hr : readHeadOk b with
    | false =>
      simp only [lit_must, lit_no, pre, hr, eval_must', eval_ret', l1, l2, firstHit, true_or, if_true]
      simp
    | true =>
      cases hm : meets 0 24 x y with
      | true =>
        have := (meets_iff _ _ _ _).1 hm
        simp only [lit_must, lit_yes, pre, hr, eval_must', eval_ask', eval_ret', l1, l2, firstHit, hm, or_true, if_true, decide_eq_true_eq, this.2.1, this.2.2.1, this.2.2.2]
        simp
      | false =>
        have hne : ¬ (x < 24 ∧ 0 < y ∧ x < y) := fun h => by
          have : meets 0 24 x y = true := (meets_iff _ _ _ _).2 ⟨by omega, h.2.1, h.1, h.2.2⟩
          rw [hm] at this; cases this
        have ef : firstHit b x y = firstFrom b x y (scRecs b).length 0 := by unfold firstHit; rw [if_neg (by simp [hr, hm])]
        rw [ef, ← lp]
        simp only [lit_must, lit_yes, pre, hr, eval_must', eval_ask', l1, l2, decide_eq_true_eq]
        have cl : ((decide (0 < 1) && true && (decide (0 < 1) && true && (decide (0 < 1) && true && (decide (0 < 1) && true && (decide (0 < 1) && true && ((true && true) && ((true && true) && (decide (0 < 1) && true && (decide (0 < 1) && true && true)))))))) && true && true) : Bool) = true := by decide
        rw [if_pos cl]
        by_cases p1 : x < 24
        · by_cases p2 : 0 < y
          · by_cases p3 : x < y
            · exact absurd ⟨p1, p2, p3⟩ hne
            · rw [if_pos p1, if_pos p2, if_neg p3]; rfl
          · rw [if_pos p1, if_neg p2]; rfl
        · rw [if_neg p1]; rfl
  · cases h
theorem closedAll : ((decide (0 < 1) && true && (decide (0 < 1) && true && (decide (0 < 1) && true && (decide (0 < 1) && true && (decide (0 < 1) && true && ((true && true) && ((true && true) && (decide (0 < 1) && true && (decide (0 < 1) && true && true)))))))) && true && true) : Bool) = true := by decide
theorem iFirstHit_loop (b : List UInt8) (x y : Int) (hb : b.length ≤ 1048576) : ∀ (f n i : Nat), i + f = (scRecs b).length → f < n →
    (vLoop E_iFirstHit noInl (sg [pS, pI, pI] [rI]) Try.f49 [.r, .r, .r, .l, .r, .b] n (H_iFirstHit b x y ((scRecs b).length : Nat) i)).eval = some [.int .i64 (firstFrom b x y f i : Nat)] := by
  have hg := scan_good b
  have hf := hg.few
  have he := hg.e1
  have hlen := hg.len
  have tk : ((scOffs b).map eInt).take (scOffs b).length = (scOffs b).map eInt := List.take_of_length_le (by simp)
  have ro := rowsOk_ints (scOffs b)
  have im := ints_map (scOffs b)
  intro f
  induction f with
  | zero =>
    intro n i h1 h2
    obtain ⟨n, rfl⟩ : ∃ m, n = m + 1 := ⟨n - 1, by omega⟩
    rw [vLoop_L _ _ _ _ _ _ _ (by kernel_rfl), iFirstHit_round0]
    have : ¬ ((i : Int) < (scRecs b).length) := by omega
    simp only [eval_must', eval_ask', eval_ret', if_true, decide_eq_true_eq, List.length_map, this, if_false, firstFrom]
    congr 3; omega
  | succ f ih =>
    intro n i h1 h2
    obtain ⟨n, rfl⟩ : ∃ m, n = m + 1 := ⟨n - 1, by omega⟩
    rw [vLoop_L _ _ _ _ _ _ _ (by kernel_rfl), iFirstHit_round0]
    have e := ih n (i + 1) (by omega) (by omega)
    have w1 : IntKind.i64.wrap ((i : Int) + 1) = ((i + 1 : Nat) : Int) := by rw [wrap64] <;> omega
    have hi : (i : Int) < (scRecs b).length := by omega
    have hi2 : (i : Int) < (scOffs b).length := by omega
    have hz : (0 : Int) ≤ i := by omega
    have hl : (scOffs b).length ≤ 1048576 := by omega
    obtain ⟨r1, r2, r3, r4⟩ := frRange b i (by omega)
    have hm : meets (offFrom (scOffs b) i) (offTo (scOffs b) (scEnd b) i) x y = hitAt b x y i := by unfold hitAt; rw [r1, r2]
    simp only [lit_must, eval_must', eval_ask', eval_ret', if_true, decide_eq_true_eq, Bool.and_eq_true, List.length_map, hi, hi2, hz, hl, tk, ro, im, w1, firstFrom, and_self, hm]
    cases hh : hitAt b x y i with
    | true => simp
    | false => simp only [Bool.false_eq_true, if_false]; exact e
theorem iFirstHit_E : EnvSound Try.prog E_iFirstHit := mkE_sound (by simp [iMeets_sound, iScanText_sound, iFrameAt_sound])
theorem iFirstHit_sound : Sound Try.prog 49 (sg [pS, pI, pI] [rI]) firstHitSpec := vBody_sound iFirstHit_E noInl_ok Try.func49 (by kernel_rfl) fun cs outs hk h => by
  unfold firstHitSpec at h
  split at h
  · simp only [Option.some.injEq, Prod.mk.injEq, decide_eq_true_eq] at h
    obtain ⟨h1, rfl⟩ := h
    rename_i b x y
    rw [vBody_L, iFirstHit_tree]
    have l1 := len1_str (scRecs b)
    have l2 := len1_int (scOffs b)
    have hg := scan_good b
    have hf := hg.few
    have he := hg.e1
    have hlen := hg.len
    have lp := iFirstHit_loop b x y h1 (scRecs b).length 9223372036854775808 0 (by omega) (by omega)
    have pre : decide (b.length ≤ 1048576) = true := decide_eq_true h1
    cases hr : readHeadOk b with
    | false =>
      simp only [lit_must, lit_no, pre, hr, eval_must', eval_ret', l1, l2, firstHit, true_or, if_true]
      simp
    | true =>
      cases hm : meets 0 24 x y with
      | true =>
        simp only [lit_must, lit_yes, pre, hr, eval_must', eval_ask', eval_ret', l1, l2, firstHit, hm, or_true, if_true]
        simp
      | false =>
        have ef : firstHit b x y = firstFrom b x y (scRecs b).length 0 := by unfold firstHit; rw [if_neg (by simp [hr, hm])]
        rw [ef, ← lp]
        simp only [lit_must, lit_yes, lit_no, pre, hr, eval_must', hm, l1, l2, List.length_map]
        rw [if_pos closedAll]
        rfl
  · cases h

theorem varText_pos (n : Nat) (h : n ≤ 1000000000) : 1 ≤ (varText (n : Int)).length := by
  unfold varText
  rw [if_pos ((in_iff _ _ _).2 ⟨by omega, by omega⟩), Int.toNat_natCast]
  by_cases hn : n < 128
  · rw [varBytes_one 4 n hn]; simp
  · rw [varBytes_more 4 n hn]; simp
theorem rec_short (b : List UInt8) (i : Nat) (h : i < (scRecs b).length) : ((scRecs b).getD i []).length ≤ 60 := by
  refine (scan_good b).recs _ ?_
  simp [List.getD_eq_getElem?_getD, h]
theorem sSizesHit_loop (b : List UInt8) (x y : Int) (hb : b.length ≤ 1048576) : ∀ (f n i : Nat), i + f = (scRecs b).length → f < n →
    (vLoop E_sSizesHit noInl (sg [pS, pI, pI] [rB]) Try.f53 [.r, .r, .r, .l, .r, .b] n (H_sSizesHit b x y i)).eval = some [.bool (anyHit (scRecs b) (scOffs b) x y f i)] := by
  have hg := scan_good b
  have hf := hg.few
  have he := hg.e1
  have hlen := hg.len
  intro f
  induction f with
  | zero =>
    intro n i h1 h2
    obtain ⟨n, rfl⟩ : ∃ m, n = m + 1 := ⟨n - 1, by omega⟩
    rw [vLoop_L _ _ _ _ _ _ _ (by kernel_rfl), sSizesHit_round0]
    have : ¬ ((i : Int) < (scRecs b).length) := by omega
    simp only [eval_must', eval_ask', eval_ret', if_true, decide_eq_true_eq, List.length_map, this, if_false, anyHit]
  | succ f ih =>
    intro n i h1 h2
    obtain ⟨n, rfl⟩ : ∃ m, n = m + 1 := ⟨n - 1, by omega⟩
    rw [vLoop_L _ _ _ _ _ _ _ (by kernel_rfl), sSizesHit_round0]
    have e := ih n (i + 1) (by omega) (by omega)
    have w1 : IntKind.i64.wrap ((i : Int) + 1) = ((i + 1 : Nat) : Int) := by rw [wrap64] <;> omega
    have hi : (i : Int) < (scRecs b).length := by omega
    have hi2 : (i : Int) < (scOffs b).length := by omega
    have hin : i < (scRecs b).length := by omega
    have hin2 : i < (scOffs b).length := by omega
    have hz : (0 : Int) ≤ i := by omega
    have g1 := map_getD eInt (scOffs b) 0 i hin2
    have g2 := map_getD eStr (scRecs b) [] i hin
    have rs := rec_short b i hin
    have v1 := varText_pos ((scRecs b).getD i []).length (by omega)
    have v2 := varText_len (((scRecs b).getD i []).length : Int)
    have o1 := hg.offs i hin2
    have oe : offFrom (scOffs b) i = (scOffs b).getD i 0 := by unfold offFrom; rw [Int.toNat_natCast]
    rw [oe] at o1
    have w2 : IntKind.i64.wrap ((scOffs b).getD i 0 + ((varText (((scRecs b).getD i []).length : Int)).length : Int)) = (scOffs b).getD i 0 + ((varText (((scRecs b).getD i []).length : Int)).length : Int) := by rw [wrap64] <;> omega
    have hm : sizeHit (scRecs b) (scOffs b) x y i = decide (x < (scOffs b).getD i 0 + ((varText (((scRecs b).getD i []).length : Int)).length : Int) ∧ (scOffs b).getD i 0 < y ∧ x < y) := by
      unfold sizeHit
      rw [Bool.eq_iff_iff, meets_iff, decide_eq_true_eq]
      omega
    simp only [lit_must, eval_must', eval_ask', eval_ret', if_true, decide_eq_true_eq, Bool.and_eq_true, List.length_map, hi, hi2, hin, hin2, hz, Nat.zero_add, Int.toNat_natCast, g1, g2, List.getD_cons_zero, C.toInt, C.toStr, C.is, List.length_cons, List.length_nil, Nat.zero_lt_succ, beq_self_eq_true, and_self, Int.ofNat_eq_natCast, w1, w2, anyHit, hm]
    by_cases p1 : x < (scOffs b).getD i 0 + ((varText (((scRecs b).getD i []).length : Int)).length : Int)
    · by_cases p2 : (scOffs b).getD i 0 < y
      · by_cases p3 : x < y
        · simp only [p1, p2, p3, if_true, and_self]
        · simp only [p1, p2, p3, if_true, if_false, and_false]; exact e
      · simp only [p1, p2, if_true, if_false, and_false, false_and]; exact e
    · simp only [p1, if_false, false_and]; exact e
theorem iSizesHit_loop (b : List UInt8) (x y : Int) (hb : b.length ≤ 1048576) : ∀ (f n i : Nat), i + f = (scRecs b).length → f < n →
    (vLoop E_iSizesHit noInl (sg [pS, pI, pI] [rB]) Try.f52 [.r, .r, .r, .l, .r, .b] n (H_iSizesHit b x y ((scOffs b).length : Nat) i)).eval = some [.bool (anyHit (scRecs b) (scOffs b) x y f i)] := by
  have hg := scan_good b
  have hf := hg.few
  have he := hg.e1
  have hlen := hg.len
  intro f
  induction f with
  | zero =>
    intro n i h1 h2
    obtain ⟨n, rfl⟩ : ∃ m, n = m + 1 := ⟨n - 1, by omega⟩
    rw [vLoop_L _ _ _ _ _ _ _ (by kernel_rfl), iSizesHit_round0]
    have : ¬ ((i : Int) < (scOffs b).length) := by omega
    simp only [eval_must', eval_ask', eval_ret', if_true, decide_eq_true_eq, List.length_map, this, if_false, anyHit]
  | succ f ih =>
    intro n i h1 h2
    obtain ⟨n, rfl⟩ : ∃ m, n = m + 1 := ⟨n - 1, by omega⟩
    rw [vLoop_L _ _ _ _ _ _ _ (by kernel_rfl), iSizesHit_round0]
    have e := ih n (i + 1) (by omega) (by omega)
    have w1 : IntKind.i64.wrap ((i : Int) + 1) = ((i + 1 : Nat) : Int) := by rw [wrap64] <;> omega
    have hi : (i : Int) < (scRecs b).length := by omega
    have hi2 : (i : Int) < (scOffs b).length := by omega
    have hin : i < (scRecs b).length := by omega
    have hin2 : i < (scOffs b).length := by omega
    have hz : (0 : Int) ≤ i := by omega
    have g1 := map_getD eInt (scOffs b) 0 i hin2
    have g2 := map_getD eStr (scRecs b) [] i hin
    have v2 := varText_len (((scRecs b).getD i []).length : Int)
    have o1 := hg.offs i hin2
    have oe : offFrom (scOffs b) i = (scOffs b).getD i 0 := by unfold offFrom; rw [Int.toNat_natCast]
    rw [oe] at o1
    have w2 : IntKind.i64.wrap ((scOffs b).getD i 0 + ((varText (((scRecs b).getD i []).length : Int)).length : Int)) = (scOffs b).getD i 0 + ((varText (((scRecs b).getD i []).length : Int)).length : Int) := by rw [wrap64] <;> omega
    have hm : meets ((scOffs b).getD i 0) ((scOffs b).getD i 0 + ((varText (((scRecs b).getD i []).length : Int)).length : Int)) x y = sizeHit (scRecs b) (scOffs b) x y i := rfl
    simp only [lit_must, eval_must', eval_ask', eval_ret', if_true, decide_eq_true_eq, Bool.and_eq_true, List.length_map, hi, hi2, hin, hin2, hz, Nat.zero_add, Int.toNat_natCast, g1, g2, List.getD_cons_zero, C.toInt, C.toStr, C.is, List.length_cons, List.length_nil, Nat.zero_lt_succ, beq_self_eq_true, and_self, Int.ofNat_eq_natCast, w1, w2, anyHit, hm]
    cases hh : sizeHit (scRecs b) (scOffs b) x y i with
    | true => simp
    | false => simp only [Bool.false_eq_true, if_false]; exact e
theorem sSizesHit_E : EnvSound Try.prog E_sSizesHit := mkE_sound (by simp [sVarSize_sound, sScanText_sound])
theorem sSizesHit_sound : Sound Try.prog 53 (sg [pS, pI, pI] [rB]) sizesHitSpec := vBody_sound sSizesHit_E noInl_ok Try.func53 (by kernel_rfl) fun cs outs hk h => by
  unfold sizesHitSpec at h
  split at h
  · simp only [Option.some.injEq, Prod.mk.injEq, decide_eq_true_eq] at h
    obtain ⟨h1, rfl⟩ := h
    rename_i b x y
    rw [vBody_L, sSizesHit_tree]
    have l1 := len1_str (scRecs b)
    have l2 := len1_int (scOffs b)
    have hg := scan_good b
    have hf := hg.few
    have he := hg.e1
    have hlen := hg.len
    have lp := sSizesHit_loop b x y h1 (scRecs b).length 9223372036854775808 0 (by omega) (by omega)
    have pre : decide (b.length ≤ 1048576) = true := decide_eq_true h1
    cases hr : readHeadOk b with
    | false =>
      simp only [lit_must, lit_no, pre, hr, eval_must', eval_ret', l1, l2, sizesHit, Bool.false_and]
      simp
    | true =>
      by_cases hv : rhV b = 1
      · have ef : sizesHit b x y = anyHit (scRecs b) (scOffs b) x y (scRecs b).length 0 := by unfold sizesHit; rw [hr, decide_eq_true hv]; rfl
        have hb : (rhV b != 1) = false := by simp [hv]
        rw [ef, ← lp]
        simp only [lit_must, lit_yes, lit_no, pre, hr, eval_must', ifI, if_true, hb, l1, l2, List.length_map]
        rw [if_pos closedAll]
        rfl
      · have ef : sizesHit b x y = false := by unfold sizesHit; rw [decide_eq_false hv]; simp
        have hb : (rhV b != 1) = true := by simp [hv]
        simp only [lit_must, lit_yes, lit_no, pre, hr, eval_must', eval_ret', ifI, if_true, hb, l1, l2, ef]
        simp
  · cases h
theorem iSizesHit_E : EnvSound Try.prog E_iSizesHit := mkE_sound (by simp [iMeets_sound, iVarSize_sound, iScanText_sound])
theorem iSizesHit_sound : Sound Try.prog 52 (sg [pS, pI, pI] [rB]) sizesHitSpec := vBody_sound iSizesHit_E noInl_ok Try.func52 (by kernel_rfl) fun cs outs hk h => by
  unfold sizesHitSpec at h
  split at h
  · simp only [Option.some.injEq, Prod.mk.injEq, decide_eq_true_eq] at h
    obtain ⟨h1, rfl⟩ := h
    rename_i b x y
    rw [vBody_L, iSizesHit_tree]
    have l1 := len1_str (scRecs b)
    have l2 := len1_int (scOffs b)
    have hg := scan_good b
    have hf := hg.few
    have he := hg.e1
    have hlen := hg.len
    have lp := iSizesHit_loop b x y h1 (scRecs b).length 9223372036854775808 0 (by omega) (by omega)
    have pre : decide (b.length ≤ 1048576) = true := decide_eq_true h1
    cases hr : readHeadOk b with
    | false =>
      simp only [lit_must, lit_no, pre, hr, eval_must', eval_ret', l1, l2, sizesHit, Bool.false_and]
      simp
    | true =>
      by_cases hv : rhV b = 1
      · have ef : sizesHit b x y = anyHit (scRecs b) (scOffs b) x y (scRecs b).length 0 := by unfold sizesHit; rw [hr, decide_eq_true hv]; rfl
        have hb : (rhV b != 1) = false := by simp [hv]
        rw [ef, ← lp]
        simp only [lit_must, lit_yes, lit_no, pre, hr, eval_must', ifI, if_true, hb, l1, l2, List.length_map]
        rw [if_pos closedAll]
        rfl
      · have ef : sizesHit b x y = false := by unfold sizesHit; rw [decide_eq_false hv]; simp
        have hb : (rhV b != 1) = true := by simp [hv]
        simp only [lit_must, lit_yes, lit_no, pre, hr, eval_must', eval_ret', ifI, if_true, hb, l1, l2, ef]
        simp
  · cases h

end Go.Proofs.Ythpcgbnochcbcaa.V

namespace Go.Proofs.Ythpcgbnochcbcaa.V
noncomputable section

def E_lFnHeadsHit : Env := mkE [] [(10, (sg [pCode] [rB]), bigSpec), (35, (sg [pHead] [rS]), headTextSpec), (43, (sg [pS, pI, pI] [rB]), headHitSpec), (42, (sg [pS, pI, pI] [rB]), headHitSpec), (44, (sg [pS, pI, pI] [rI]), firstHitSpec), (41, (⟨[pCode], [rS, rI, rI], true⟩), drawHitSpec)]

def H_lFnHitsa (b : List UInt8) (i f t : Int) (c : List UInt8) (x y n j : Int) : St := st0 [(3, wstr b), (4, int64 i), (5, int64 f), (6, int64 t), (7, .l (.b true)), (11, wstr c), (12, int64 x), (13, int64 y), (14, int64 n), (15, int64 j)]
def H_lFnHitsb (b : List UInt8) (i f t : Int) (c : List UInt8) (x y n j : Int) : St := st0 [(3, wstr b), (4, int64 i), (5, int64 f), (6, int64 t), (7, .l (.b false)), (11, wstr c), (12, int64 x), (13, int64 y), (14, int64 n), (15, int64 j)]
def E_lFnHits : Env := mkE [(13, [3, 4, 5, 6, 7, 11, 12, 13, 14, 15])] [(10, (sg [pCode] [rB]), bigSpec), (47, (sg [pS, pI] [rI, rI, rB]), frameRangeSpec), (46, (sg [pS, pI] [rI, rI, rB]), frameRangeSpec), (44, (sg [pS, pI, pI] [rI]), firstHitSpec), (49, (sg [pS, pI, pI] [rI]), firstHitSpec), (50, (⟨[pHead, pSlS], [rS], true⟩), sealSpec), (48, (⟨[pCode], [rS, rI, rI], true⟩), drawHitSpec), (45, (⟨[pCode], [rS, rI], true⟩), drawRangeSpec)]

end
end Go.Proofs.Ythpcgbnochcbcaa.V

namespace Go.Proofs.Ythpcgbnochcbcaa.V
set_option maxRecDepth 100000
theorem lFnHeadsHit_tree (H : List Pt → Nat → St → T (List C)) (r : List (List C)) : (vBodyL E_lFnHeadsHit noInl (sg [pCode] [rB]) Try.f7 H [C.sl r]).eval =
 ((.ask (decide ((1048576 : Nat) < r.length))
 (.ret [C.bool true])
 (.must (curOk r (0 : Int))
  (.must (decide ((dhB r).length ≤ (281474976710656 : Nat)))
   (.ask (headHit (dhB r) (dhX r) (dhY r))
    (.must (decide ((dhB r).length ≤ (281474976710656 : Nat)))
     (.ask (headHit (dhB r) (dhX r) (dhY r))
      (.must (decide ((dhB r).length ≤ (1048576 : Nat)))
       (.ask (decide (firstHit (dhB r) (dhX r) (dhY r) = (0 : Int)))
        (.ret [C.bool !false])
        (.ret [C.bool false])))
      (.ret [C.bool false])))
    (.must (decide ((dhB r).length ≤ (281474976710656 : Nat)))
     (.ask (headHit (dhB r) (dhX r) (dhY r))
      (.ret [C.bool false])
      (.ret [C.bool !false]))))))) : T (List C)).eval := evalEq (by kernel_rfl)
theorem lFnHits_tree (H : List Pt → Nat → St → T (List C)) (r : List (List C)) : (vBodyL E_lFnHits noInl (sg [pCode] [rB]) Try.f8 H [C.sl r]).eval =
 ((.ask (decide ((1048576 : Nat) < r.length))
 (.ret [C.bool true])
 (.must (curOk r (0 : Int))
  (.must (decide ((dhB r).length ≤ (1048576 : Nat)))
   (.ask (frOk (dhB r) (drN r))
    (.must (decide ((dhB r).length ≤ (1048576 : Nat)))
     (.ask (frOk (dhB r) (drN r))
      (.ask (frFrom (dhB r) (drN r) != frFrom (dhB r) (drN r))
       (.ret [C.bool false])
       (.ask (frTo (dhB r) (drN r) != frTo (dhB r) (drN r))
        (.ret [C.bool false])
        (.must (curOk r (0 : Int))
         (.must (decide ((dhB r).length ≤ (1048576 : Nat)))
          (.must (decide ((dhB r).length ≤ (1048576 : Nat)))
           (.ask (firstHit (dhB r) (dhX r) (dhY r) != firstHit (dhB r) (dhX r) (dhY r))
            (.ret [C.bool false])
            (H [Pt.r, Pt.r, Pt.r, Pt.r, Pt.r, Pt.r, Pt.r, Pt.r, Pt.r, Pt.l, Pt.r, Pt.b] (9223372036854775808 : Nat) (H_lFnHitsa (dhB r) (drN r) (frFrom (dhB r) (drN r)) (frTo (dhB r) (drN r)) (dhB r) (dhX r) (dhY r) (firstHit (dhB r) (dhX r) (dhY r)) ((0 : Int))))))))))
      (.ask (frFrom (dhB r) (drN r) != frFrom (dhB r) (drN r))
       (.ret [C.bool false])
       (.ask (frTo (dhB r) (drN r) != frTo (dhB r) (drN r))
        (.ret [C.bool false])
        (.ret [C.bool false])))))
    (.must (decide ((dhB r).length ≤ (1048576 : Nat)))
     (.ask (frOk (dhB r) (drN r))
      (.ask (frFrom (dhB r) (drN r) != frFrom (dhB r) (drN r))
       (.ret [C.bool false])
       (.ask (frTo (dhB r) (drN r) != frTo (dhB r) (drN r))
        (.ret [C.bool false])
        (.ret [C.bool false])))
      (.ask (frFrom (dhB r) (drN r) != frFrom (dhB r) (drN r))
       (.ret [C.bool false])
       (.ask (frTo (dhB r) (drN r) != frTo (dhB r) (drN r))
        (.ret [C.bool false])
        (.must (curOk r (0 : Int))
         (.must (decide ((dhB r).length ≤ (1048576 : Nat)))
          (.must (decide ((dhB r).length ≤ (1048576 : Nat)))
           (.ask (firstHit (dhB r) (dhX r) (dhY r) != firstHit (dhB r) (dhX r) (dhY r))
            (.ret [C.bool false])
            (H [Pt.r, Pt.r, Pt.r, Pt.r, Pt.r, Pt.r, Pt.r, Pt.r, Pt.r, Pt.l, Pt.r, Pt.b] (9223372036854775808 : Nat) (H_lFnHitsb (dhB r) (drN r) (frFrom (dhB r) (drN r)) (frTo (dhB r) (drN r)) (dhB r) (dhX r) (dhY r) (firstHit (dhB r) (dhX r) (dhY r)) ((0 : Int)))))))))))))))) : T (List C)).eval := evalEq (by kernel_rfl)
theorem lFnHits_round0a (H : List Pt → Nat → St → T (List C)) (b : List UInt8) (i : Int) (f : Int) (t : Int) (c : List UInt8) (x : Int) (y : Int) (n : Int) (j : Int) (k : Nat) : (vRound E_lFnHits noInl (sg [pCode] [rB]) Try.f8 H
  [Pt.r, Pt.r, Pt.r, Pt.r, Pt.r, Pt.r, Pt.r, Pt.r, Pt.r, Pt.l, Pt.r, Pt.b] k (H_lFnHitsa b i f t c x y n j)).eval =
 ((.ask (decide (j < n))
 (.must (decide (c.length ≤ (1048576 : Nat)))
  (.ask (frOk c j)
   (.ask (decide (x < frTo c j))
    (.ask (decide (frFrom c j < y))
     (.ask (decide (x < y))
      (.ret [C.bool false])
      (H [Pt.r, Pt.r, Pt.r, Pt.r, Pt.r, Pt.r, Pt.r, Pt.r, Pt.r, Pt.l, Pt.r, Pt.b] k (H_lFnHitsa (b) (i) (f) (t) (c) (x) (y) (n) (IntKind.i64.wrap (j + (1 : Int))))))
     (H [Pt.r, Pt.r, Pt.r, Pt.r, Pt.r, Pt.r, Pt.r, Pt.r, Pt.r, Pt.l, Pt.r, Pt.b] k (H_lFnHitsa (b) (i) (f) (t) (c) (x) (y) (n) (IntKind.i64.wrap (j + (1 : Int))))))
    (H [Pt.r, Pt.r, Pt.r, Pt.r, Pt.r, Pt.r, Pt.r, Pt.r, Pt.r, Pt.l, Pt.r, Pt.b] k (H_lFnHitsa (b) (i) (f) (t) (c) (x) (y) (n) (IntKind.i64.wrap (j + (1 : Int))))))
   (.ask (decide (x < frTo c j))
    (.ask (decide (frFrom c j < y))
     (.ask (decide (x < y))
      (.ret [C.bool false])
      (H [Pt.r, Pt.r, Pt.r, Pt.r, Pt.r, Pt.r, Pt.r, Pt.r, Pt.r, Pt.l, Pt.r, Pt.b] k (H_lFnHitsa (b) (i) (f) (t) (c) (x) (y) (n) (IntKind.i64.wrap (j + (1 : Int))))))
     (H [Pt.r, Pt.r, Pt.r, Pt.r, Pt.r, Pt.r, Pt.r, Pt.r, Pt.r, Pt.l, Pt.r, Pt.b] k (H_lFnHitsa (b) (i) (f) (t) (c) (x) (y) (n) (IntKind.i64.wrap (j + (1 : Int))))))
    (H [Pt.r, Pt.r, Pt.r, Pt.r, Pt.r, Pt.r, Pt.r, Pt.r, Pt.r, Pt.l, Pt.r, Pt.b] k (H_lFnHitsa (b) (i) (f) (t) (c) (x) (y) (n) (IntKind.i64.wrap (j + (1 : Int))))))))
 (.must (decide (b.length ≤ (1048576 : Nat)))
  (.ask (decide (firstHit b f t = i))
   (.ret [C.bool true])
   (.ret [C.bool false])))) : T (List C)).eval := evalEq (by kernel_rfl)
theorem lFnHits_round0b (H : List Pt → Nat → St → T (List C)) (b : List UInt8) (i : Int) (f : Int) (t : Int) (c : List UInt8) (x : Int) (y : Int) (n : Int) (j : Int) (k : Nat) : (vRound E_lFnHits noInl (sg [pCode] [rB]) Try.f8 H
  [Pt.r, Pt.r, Pt.r, Pt.r, Pt.r, Pt.r, Pt.r, Pt.r, Pt.r, Pt.l, Pt.r, Pt.b] k (H_lFnHitsb b i f t c x y n j)).eval =
 ((.ask (decide (j < n))
 (.must (decide (c.length ≤ (1048576 : Nat)))
  (.ask (frOk c j)
   (.ask (decide (x < frTo c j))
    (.ask (decide (frFrom c j < y))
     (.ask (decide (x < y))
      (.ret [C.bool false])
      (H [Pt.r, Pt.r, Pt.r, Pt.r, Pt.r, Pt.r, Pt.r, Pt.r, Pt.r, Pt.l, Pt.r, Pt.b] k (H_lFnHitsb (b) (i) (f) (t) (c) (x) (y) (n) (IntKind.i64.wrap (j + (1 : Int))))))
     (H [Pt.r, Pt.r, Pt.r, Pt.r, Pt.r, Pt.r, Pt.r, Pt.r, Pt.r, Pt.l, Pt.r, Pt.b] k (H_lFnHitsb (b) (i) (f) (t) (c) (x) (y) (n) (IntKind.i64.wrap (j + (1 : Int))))))
    (H [Pt.r, Pt.r, Pt.r, Pt.r, Pt.r, Pt.r, Pt.r, Pt.r, Pt.r, Pt.l, Pt.r, Pt.b] k (H_lFnHitsb (b) (i) (f) (t) (c) (x) (y) (n) (IntKind.i64.wrap (j + (1 : Int))))))
   (.ask (decide (x < frTo c j))
    (.ask (decide (frFrom c j < y))
     (.ask (decide (x < y))
      (.ret [C.bool false])
      (H [Pt.r, Pt.r, Pt.r, Pt.r, Pt.r, Pt.r, Pt.r, Pt.r, Pt.r, Pt.l, Pt.r, Pt.b] k (H_lFnHitsb (b) (i) (f) (t) (c) (x) (y) (n) (IntKind.i64.wrap (j + (1 : Int))))))
     (H [Pt.r, Pt.r, Pt.r, Pt.r, Pt.r, Pt.r, Pt.r, Pt.r, Pt.r, Pt.l, Pt.r, Pt.b] k (H_lFnHitsb (b) (i) (f) (t) (c) (x) (y) (n) (IntKind.i64.wrap (j + (1 : Int))))))
    (H [Pt.r, Pt.r, Pt.r, Pt.r, Pt.r, Pt.r, Pt.r, Pt.r, Pt.r, Pt.l, Pt.r, Pt.b] k (H_lFnHitsb (b) (i) (f) (t) (c) (x) (y) (n) (IntKind.i64.wrap (j + (1 : Int))))))))
 (.ret [C.bool true])) : T (List C)).eval := evalEq (by kernel_rfl)
end Go.Proofs.Ythpcgbnochcbcaa.V

namespace Go.Proofs.Ythpcgbnochcbcaa.V

theorem lFnHeadsHit_E : EnvSound Try.prog E_lFnHeadsHit := mkE_sound (by simp [lBig_sound, sHeadText_sound, sHeadHit_sound, iHeadHit_sound, sFirstHit_sound, sDrawHeadHit_sound])
theorem lFnHeadsHit_sound : Sound Try.prog 7 (sg [pCode] [rB]) codeLaw := vBody_sound lFnHeadsHit_E noInl_ok Try.func7 (by kernel_rfl) fun cs outs hk h => by
  unfold codeLaw at h
  split at h
  · simp only [Option.some.injEq, Prod.mk.injEq] at h
    obtain ⟨h1, rfl⟩ := h
    rename_i rows
    rw [vBody_L, lFnHeadsHit_tree]
    by_cases hb : 1048576 < rows.length
    · exact ask_yes (decide_eq_true hb) rfl
    · have hok : curOk rows 0 = true := (curOk_iff rows 0).2 ⟨h1, by omega, by omega, by omega⟩
      have l1 : (dhB rows).length ≤ 120005 := fileT_le rows 0 (newH rows)
      refine ask_no (decide_eq_false hb) (must_go hok (must_go (decide_eq_true (by omega)) ?_))
      cases hh : headHit (dhB rows) (dhX rows) (dhY rows) with
      | true =>
        have hz : firstHit (dhB rows) (dhX rows) (dhY rows) = 0 := by
          unfold headHit at hh
          rw [Bool.and_eq_true] at hh
          unfold firstHit
          rw [if_pos (.inr hh.2)]
        exact ask_yes rfl (must_go (decide_eq_true (by omega)) (ask_yes rfl (must_go (decide_eq_true (by omega)) (ask_yes (decide_eq_true hz) rfl))))
      | false => exact ask_no rfl (must_go (decide_eq_true (by omega)) (ask_no rfl rfl))
  · cases h

theorem firstFrom_spec (b : List UInt8) (x y : Int) : ∀ (f i : Nat), i ≤ firstFrom b x y f i ∧ firstFrom b x y f i ≤ i + f ∧ (∀ k, i ≤ k → k < firstFrom b x y f i → hitAt b x y k = false) ∧ (firstFrom b x y f i < i + f → hitAt b x y (firstFrom b x y f i) = true)
  | 0, i => ⟨Nat.le_refl _, Nat.le_refl _, fun k h1 h2 => by simp [firstFrom] at h2; omega, fun h => by simp [firstFrom] at h⟩
  | f + 1, i => by
    obtain ⟨h1, h2, h3, h4⟩ := firstFrom_spec b x y f (i + 1)
    unfold firstFrom
    cases hi : hitAt b x y i with
    | true => exact ⟨by simp, by simp, fun k k1 k2 => by simp at k2; omega, fun _ => by simpa using hi⟩
    | false =>
      simp only [Bool.false_eq_true, if_false]
      refine ⟨by omega, by omega, fun k k1 k2 => ?_, fun h => h4 (by omega)⟩
      by_cases hk : k = i
      · rw [hk]; exact hi
      · exact h3 k (by omega) k2
theorem fr_mono (b : List UInt8) : ∀ (d i : Nat), i + d < (scOffs b).length → frFrom b i + (if d = 0 then 0 else 1) ≤ frFrom b (i + d : Nat) ∧ (0 < d → frTo b i ≤ frFrom b (i + d : Nat))
  | 0, i, h => ⟨by simp, fun h => by omega⟩
  | d + 1, i, h => by
    obtain ⟨h1, h2⟩ := fr_mono b d i (by omega)
    obtain ⟨a1, a2, a3, a4⟩ := frRange b (i + d) (by omega)
    obtain ⟨c1, c2, c3, c4⟩ := frRange b (i + (d + 1)) h
    have e : frTo b ((i + d : Nat) : Int) = frFrom b ((i + (d + 1) : Nat) : Int) := by
      rw [a2, c1]
      unfold offTo offFrom
      have t1 : (((i + d : Nat) : Int) + 1).toNat = i + (d + 1) := by omega
      rw [if_pos (by omega), t1, Int.toNat_natCast]
    rw [← e]
    refine ⟨?_, fun _ => ?_⟩
    · rw [if_neg (by omega)]
      split at h1 <;> omega
    · by_cases hd : 0 < d
      · have := h2 hd; omega
      · have : d = 0 := by omega
        subst this
        simp only [Nat.add_zero]
        exact Int.le_refl _
theorem scanGo_first (v p : Int) (b : List UInt8) : ∀ (f : Nat) (k e : Int) (rs : List (List UInt8)) (os : List Int), 0 < os.length → (scanGo v p b f k e rs os).2.1.getD 0 0 = os.getD 0 0
  | 0, _, _, _, _, _ => rfl
  | f + 1, k, e, rs, os, h => by
    unfold scanGo
    split
    · rfl
    · split
      · rw [scanGo_first v p b f _ _ _ (os ++ [e]) (by simp), List.getD_eq_getElem?_getD, List.getD_eq_getElem?_getD, List.getElem?_append_left h]
      · rfl
theorem first_off (b : List UInt8) (h : 0 < (scOffs b).length) : (scOffs b).getD 0 0 = 24 := by
  unfold scOffs scanOf at h ⊢
  split at h
  · rename_i hr
    rw [if_pos hr]
    unfold scanGo at h ⊢
    split at h
    · simp at h
    · rename_i hm
      rw [if_neg hm]
      split at h
      · rename_i ho
        rw [if_pos ho, scanGo_first _ _ _ _ _ _ _ _ (by simp)]
        rfl
      · simp at h
  · simp at h
theorem recs_len (b : List UInt8) : (scRecs b).length ≤ b.length := by
  have g := scan_good b
  have h1 := g.len
  have h2 := g.few
  have h3 := g.e1
  omega
theorem fr_head (b : List UInt8) (i : Nat) (h : i < (scOffs b).length) : 24 ≤ frFrom b i ∧ readHeadOk b = true := by
  have hr : readHeadOk b = true := by
    cases hh : readHeadOk b with
    | true => rfl
    | false =>
      have : scOffs b = [] := by unfold scOffs scanOf; rw [hh]; rfl
      rw [this] at h; simp at h
  refine ⟨?_, hr⟩
  have h0 := fr_mono b i 0 (by omega)
  rw [Nat.zero_add] at h0
  obtain ⟨a1, a2, a3, a4⟩ := frRange b 0 (by omega)
  have e0 : frFrom b ((0 : Nat) : Int) = 24 := by
    rw [a1]
    exact first_off b (by omega)
  split at h0 <;> omega
theorem hit_own (b : List UInt8) (i : Int) (h : frOk b i = true) : firstHit b (frFrom b i) (frTo b i) = i := by
  obtain ⟨h0, hl⟩ := (frOk_iff b i).1 h
  obtain ⟨k, rfl⟩ := Int.eq_ofNat_of_zero_le h0
  have hk : k < (scOffs b).length := by omega
  obtain ⟨e1, e2⟩ := fr_head b k hk
  obtain ⟨a1, a2, a3, a4⟩ := frRange b k hk
  have hlen := (scan_good b).len
  have hm : meets 0 24 (frFrom b k) (frTo b k) = false := by
    cases hh : meets 0 24 (frFrom b k) (frTo b k) with
    | false => rfl
    | true => have := (meets_iff _ _ _ _).1 hh; omega
  have hself : hitAt b (frFrom b k) (frTo b k) k = true := by
    unfold hitAt
    exact (meets_iff _ _ _ _).2 ⟨a4, a4, a4, a4⟩
  have hno : ∀ j, j < k → hitAt b (frFrom b k) (frTo b k) j = false := fun j hj => by
    cases hh : hitAt b (frFrom b k) (frTo b k) j with
    | false => rfl
    | true =>
      unfold hitAt at hh
      have := (meets_iff _ _ _ _).1 hh
      have hm2 := (fr_mono b (k - j) j (by omega)).2 (by omega)
      rw [show j + (k - j) = k by omega] at hm2
      omega
  obtain ⟨s1, s2, s3, s4⟩ := firstFrom_spec b (frFrom b k) (frTo b k) (scRecs b).length 0
  have hv : firstFrom b (frFrom b k) (frTo b k) (scRecs b).length 0 = k := by
    by_cases h1 : firstFrom b (frFrom b k) (frTo b k) (scRecs b).length 0 < k
    · have := s4 (by omega)
      rw [hno _ h1] at this; cases this
    · by_cases h2 : k < firstFrom b (frFrom b k) (frTo b k) (scRecs b).length 0
      · have := s3 k (by omega) h2
        rw [hself] at this; cases this
      · omega
  unfold firstHit
  have hn : ¬ (readHeadOk b = false ∨ meets 0 24 (frFrom b k) (frTo b k) = true) := fun hh => by
    rcases hh with hh | hh
    · rw [e2] at hh; cases hh
    · rw [hm] at hh; cases hh
  rw [if_neg hn, hv]
theorem hit_none (c : List UInt8) (x y : Int) : ∃ n : Nat, firstHit c x y = n ∧ n ≤ (scRecs c).length ∧ ∀ k : Nat, k < n → (x < frTo c k ∧ frFrom c k < y ∧ x < y) → False := by
  unfold firstHit
  split
  · exact ⟨0, rfl, by omega, fun k hk => by omega⟩
  · obtain ⟨s1, s2, s3, s4⟩ := firstFrom_spec c x y (scRecs c).length 0
    refine ⟨_, rfl, by omega, fun k hk hh => ?_⟩
    have hl := (scan_good c).len
    obtain ⟨a1, a2, a3, a4⟩ := frRange c k (by omega)
    have := s3 k (by omega) hk
    unfold hitAt at this
    rw [(meets_iff _ _ _ _).2 ⟨a4, hh.2.1, hh.1, hh.2.2⟩] at this
    cases this
theorem lFnHits_loopa (b c : List UInt8) (i f t x y : Int) (hb : b.length ≤ 1048576) (hc : c.length ≤ 1048576) (hi : firstHit b f t = i) (n : Nat) (hn : n ≤ c.length) (hh : ∀ k : Nat, k < n → (x < frTo c k ∧ frFrom c k < y ∧ x < y) → False) : ∀ (g m k : Nat), k + g = n → g < m →
    (vLoop E_lFnHits noInl (sg [pCode] [rB]) Try.f8 [.r, .r, .r, .r, .r, .r, .r, .r, .r, .l, .r, .b] m (H_lFnHitsa b i f t c x y n k)).eval = some [.bool true] := by
  intro g
  induction g with
  | zero =>
    intro m k h1 h2
    obtain ⟨m, rfl⟩ : ∃ q, m = q + 1 := ⟨m - 1, by omega⟩
    rw [vLoop_L _ _ _ _ _ _ _ (by kernel_rfl), lFnHits_round0a]
    have c0 : ¬ ((k : Int) < (n : Int)) := by omega
    exact ask_no (decide_eq_false c0) (must_go (decide_eq_true hb) (ask_yes (decide_eq_true hi) rfl))
  | succ g ih =>
    intro m k h1 h2
    obtain ⟨m, rfl⟩ : ∃ q, m = q + 1 := ⟨m - 1, by omega⟩
    rw [vLoop_L _ _ _ _ _ _ _ (by kernel_rfl), lFnHits_round0a]
    have w : IntKind.i64.wrap ((k : Int) + 1) = ((k + 1 : Nat) : Int) := by rw [wrap64] <;> omega
    have e := ih m (k + 1) (by omega) (by omega)
    have hk := hh k (by omega)
    rw [w]
    refine ask_yes (decide_eq_true (by omega)) (must_go (decide_eq_true hc) ?_)
    have rest : ∀ q : T (List C), q.eval = some [.bool true] → (T.ask (decide (x < frTo c k)) (T.ask (decide (frFrom c k < y)) (T.ask (decide (x < y)) (.ret [C.bool false]) q) q) q).eval = some [.bool true] := fun q hq => by
      by_cases d1 : x < frTo c k
      · by_cases d2 : frFrom c k < y
        · by_cases d3 : x < y
          · exact (hk ⟨d1, d2, d3⟩).elim
          · exact ask_yes (decide_eq_true d1) (ask_yes (decide_eq_true d2) (ask_no (decide_eq_false d3) hq))
        · exact ask_yes (decide_eq_true d1) (ask_no (decide_eq_false d2) hq)
      · exact ask_no (decide_eq_false d1) hq
    cases frOk c k with
    | true => exact ask_yes rfl (rest _ e)
    | false => exact ask_no rfl (rest _ e)
theorem lFnHits_loopb (b c : List UInt8) (i f t x y : Int) (hb : b.length ≤ 1048576) (hc : c.length ≤ 1048576) (n : Nat) (hn : n ≤ c.length) (hh : ∀ k : Nat, k < n → (x < frTo c k ∧ frFrom c k < y ∧ x < y) → False) : ∀ (g m k : Nat), k + g = n → g < m →
    (vLoop E_lFnHits noInl (sg [pCode] [rB]) Try.f8 [.r, .r, .r, .r, .r, .r, .r, .r, .r, .l, .r, .b] m (H_lFnHitsb b i f t c x y n k)).eval = some [.bool true] := by
  intro g
  induction g with
  | zero =>
    intro m k h1 h2
    obtain ⟨m, rfl⟩ : ∃ q, m = q + 1 := ⟨m - 1, by omega⟩
    rw [vLoop_L _ _ _ _ _ _ _ (by kernel_rfl), lFnHits_round0b]
    have c0 : ¬ ((k : Int) < (n : Int)) := by omega
    exact ask_no (decide_eq_false c0) rfl
  | succ g ih =>
    intro m k h1 h2
    obtain ⟨m, rfl⟩ : ∃ q, m = q + 1 := ⟨m - 1, by omega⟩
    rw [vLoop_L _ _ _ _ _ _ _ (by kernel_rfl), lFnHits_round0b]
    have w : IntKind.i64.wrap ((k : Int) + 1) = ((k + 1 : Nat) : Int) := by rw [wrap64] <;> omega
    have e := ih m (k + 1) (by omega) (by omega)
    have hk := hh k (by omega)
    rw [w]
    refine ask_yes (decide_eq_true (by omega)) (must_go (decide_eq_true hc) ?_)
    have rest : ∀ q : T (List C), q.eval = some [.bool true] → (T.ask (decide (x < frTo c k)) (T.ask (decide (frFrom c k < y)) (T.ask (decide (x < y)) (.ret [C.bool false]) q) q) q).eval = some [.bool true] := fun q hq => by
      by_cases d1 : x < frTo c k
      · by_cases d2 : frFrom c k < y
        · by_cases d3 : x < y
          · exact (hk ⟨d1, d2, d3⟩).elim
          · exact ask_yes (decide_eq_true d1) (ask_yes (decide_eq_true d2) (ask_no (decide_eq_false d3) hq))
        · exact ask_yes (decide_eq_true d1) (ask_no (decide_eq_false d2) hq)
      · exact ask_no (decide_eq_false d1) hq
    cases frOk c k with
    | true => exact ask_yes rfl (rest _ e)
    | false => exact ask_no rfl (rest _ e)
theorem lFnHits_E : EnvSound Try.prog E_lFnHits := mkE_sound (by simp [lBig_sound, sFrameRange_sound, iFrameRange_sound, sFirstHit_sound, iFirstHit_sound, sSeal_sound, sDrawFirstHit_sound, sDrawFrameRange_sound])
theorem lFnHits_sound : Sound Try.prog 8 (sg [pCode] [rB]) codeLaw := vBody_sound lFnHits_E noInl_ok Try.func8 (by kernel_rfl) fun cs outs hk h => by
  unfold codeLaw at h
  split at h
  · simp only [Option.some.injEq, Prod.mk.injEq] at h
    obtain ⟨h1, rfl⟩ := h
    rename_i rows
    rw [vBody_L, lFnHits_tree]
    by_cases hb : 1048576 < rows.length
    · exact ask_yes (decide_eq_true hb) rfl
    · have hok : curOk rows 0 = true := (curOk_iff rows 0).2 ⟨h1, by omega, by omega, by omega⟩
      have l0 : (dhB rows).length ≤ 120005 := fileT_le rows 0 (newH rows)
      have l1 : (dhB rows).length ≤ 1048576 := by omega
      obtain ⟨n, hn, hn2, hn3⟩ := hit_none (dhB rows) (dhX rows) (dhY rows)
      have hrl := recs_len (dhB rows)
      refine ask_no (decide_eq_false hb) (must_go hok (must_go (decide_eq_true l1) ?_))
      cases hf : frOk (dhB rows) (drN rows) with
      | true =>
        refine ask_yes rfl (must_go (decide_eq_true l1) (ask_yes rfl (ask_no (bne_self_eq_false _) (ask_no (bne_self_eq_false _) (must_go hok (must_go (decide_eq_true l1) (must_go (decide_eq_true l1) (ask_no (bne_self_eq_false _) ?_))))))))
        rw [hn]
        exact lFnHits_loopa (dhB rows) (dhB rows) (drN rows) _ _ _ _ l1 l1 (hit_own _ _ hf) n (by omega) hn3 n 9223372036854775808 0 (by omega) (by omega)
      | false =>
        refine ask_no rfl (must_go (decide_eq_true l1) (ask_no rfl (ask_no (bne_self_eq_false _) (ask_no (bne_self_eq_false _) (must_go hok (must_go (decide_eq_true l1) (must_go (decide_eq_true l1) (ask_no (bne_self_eq_false _) ?_))))))))
        rw [hn]
        exact lFnHits_loopb (dhB rows) (dhB rows) (drN rows) _ _ _ _ l1 l1 n (by omega) hn3 n 9223372036854775808 0 (by omega) (by omega)
  · cases h

end Go.Proofs.Ythpcgbnochcbcaa.V

namespace Go.Proofs.Ythpcgbnochcbcaa.V
noncomputable section

/-- the sealed file of 'abc', 'de' and twenty letters q -/
def tABC : List UInt8 := [83, 69, 71, 77, 1, 1, 0, 0, 0, 0, 0, 0, 0, 0, 0, 0, 0, 0, 0, 0, 34, 172, 105, 230, 3, 97, 98, 99, 183, 63, 75, 54, 2, 100, 101, 118, 180, 64, 107, 20, 113, 113, 113, 113, 113, 113, 113, 113, 113, 113, 113, 113, 113, 113, 113, 113, 113, 113, 113, 113, 56, 137, 162, 44, 255, 255, 255, 255, 15, 3, 0, 24, 1, 8, 1, 7, 64, 0, 0, 0, 3, 0, 0, 0, 1, 0, 0, 0, 215, 249, 88, 118, 73, 68, 88, 33]

end
end Go.Proofs.Ythpcgbnochcbcaa.V

namespace Go.Proofs.Ythpcgbnochcbcaa.V
set_option maxRecDepth 100000

end Go.Proofs.Ythpcgbnochcbcaa.V

namespace Go.Proofs.Ythpcgbnochcbcaa.V

theorem tABC_eq : sealText 1 1 0 0 [[97, 98, 99], [100, 101], List.replicate (Int.toNat 20) 113] = tABC := by decide +kernel
theorem tABC_len : tABC.length = 96 := by decide +kernel
theorem tABC_ok : readHeadOk tABC = true := by decide +kernel
theorem tABC_v : rhV tABC = 1 := by decide +kernel
theorem tABC_b : rhB tABC = 0 := by decide +kernel
theorem tABC_recs : scRecs tABC = [[97, 98, 99], [100, 101], List.replicate 20 113] := by decide +kernel
theorem tABC_offs : scOffs tABC = [24, 32, 39] := by decide +kernel
theorem tABC_end : scEnd tABC = 64 := by decide +kernel
theorem abc_sizes (x y : Int) : sizesHit tABC x y = (meets 24 25 x y || meets 32 33 x y || meets 39 40 x y) := by
  unfold sizesHit
  rw [tABC_ok, tABC_v, tABC_recs, tABC_offs]
  have v3 : (varText 3).length = 1 := by decide +kernel
  have v2 : (varText 2).length = 1 := by decide +kernel
  have v20 : (varText 20).length = 1 := by decide +kernel
  simp only [anyHit, sizeHit, List.length_cons, List.length_nil, List.getD_cons_zero, List.getD_cons_succ, List.length_replicate, Nat.zero_add, Nat.reduceAdd]
  have e3 : (varText ((3 : Nat) : Int)).length = 1 := v3
  have e2 : (varText ((2 : Nat) : Int)).length = 1 := v2
  have e20 : (varText ((20 : Nat) : Int)).length = 1 := v20
  rw [e3, e2, e20]
  show (true && true && (if meets 24 25 x y = true then true else if meets 32 33 x y = true then true else if meets 39 40 x y = true then true else false)) = _
  cases meets 24 25 x y <;> cases meets 32 33 x y <;> cases meets 39 40 x y <;> rfl
theorem abc_first (x y : Int) (h : meets 0 24 x y = false) : firstHit tABC x y = if meets 24 32 x y then 0 else if meets 32 39 x y then 1 else if meets 39 64 x y then 2 else 3 := by
  have f0 : frFrom tABC ((0 : Nat) : Int) = 24 ∧ frTo tABC ((0 : Nat) : Int) = 32 := by decide +kernel
  have f1 : frFrom tABC ((1 : Nat) : Int) = 32 ∧ frTo tABC ((1 : Nat) : Int) = 39 := by decide +kernel
  have f2 : frFrom tABC ((2 : Nat) : Int) = 39 ∧ frTo tABC ((2 : Nat) : Int) = 64 := by decide +kernel
  unfold firstHit
  rw [tABC_ok, h, if_neg (by decide), tABC_recs]
  simp only [firstFrom, hitAt, List.length_cons, List.length_nil, Nat.zero_add, Nat.reduceAdd, f0, f1, f2]
  cases meets 24 32 x y <;> cases meets 32 39 x y <;> cases meets 39 64 x y <;> rfl
theorem pre_getD (b c : List UInt8) (n i : Nat) (h : b.take n = c.take n) (hi : i < n) : b.getD i 0 = c.getD i 0 := by
  have e : ∀ l : List UInt8, l.getD i 0 = (l.take n).getD i 0 := fun l => by
    rw [List.getD_eq_getElem?_getD, List.getD_eq_getElem?_getD, List.getElem?_take, if_pos hi]
  rw [e b, e c, h]
theorem pre_mid (b c : List UInt8) (n i k : Nat) (h : b.take n = c.take n) (hi : i + k ≤ n) : (b.drop i).take k = (c.drop i).take k := by
  have e : ∀ l : List UInt8, (l.drop i).take k = ((l.take n).drop i).take k := fun l => by
    rw [List.drop_take, List.take_take, show min k (n - i) = k by omega]
  rw [e b, e c, h]
theorem head_pre (b c : List UInt8) (h : b.take 24 = c.take 24) (hb : 24 ≤ b.length) (hc : 24 ≤ c.length) : readHeadOk b = readHeadOk c ∧ rhV b = rhV c ∧ rhB b = rhB c := by
  have f : ∀ a w : Nat, a + w ≤ 24 → fixRead b a w = fixRead c a w ∧ fixOk b a w = fixOk c a w := fun a w haw => by
    have e1 : fixVal b a w = fixVal c a w := by
      unfold fixVal
      rw [Int.toNat_natCast, Int.toNat_natCast, pre_mid b c 24 a w h haw]
    have e2 : fixOk b a w = fixOk c a w := by
      unfold fixOk
      rw [e1, decide_eq_decide]
      constructor
      · rintro ⟨p, q, r, s, t⟩; exact ⟨p, q, r, by omega, t⟩
      · rintro ⟨p, q, r, s, t⟩; exact ⟨p, q, r, by omega, t⟩
    exact ⟨by unfold fixRead; rw [e1, e2], e2⟩
  have v : rhV b = rhV c := by unfold rhV; rw [pre_getD b c 24 4 h (by omega)]
  have s : rhS b = rhS c := by unfold rhS; rw [pre_getD b c 24 5 h (by omega)]
  have q : rhB b = rhB c := (f 8 8 (by omega)).1
  have l : rhL b = rhL c := (f 16 4 (by omega)).1
  have o : fixOk b 8 8 = fixOk c 8 8 := (f 8 8 (by omega)).2
  refine ⟨?_, v, q⟩
  unfold readHeadOk
  rw [v, s, q, l, h, o, decide_eq_true hb, decide_eq_true hc]
theorem rv_one (b : List UInt8) (e n : Nat) (he : e < b.length) (hn : (b.getD e 0).toNat = n) (h60 : n < 128) : readVar b (e : Int) = some (n, e + 1) := by
  unfold readVar
  rw [if_pos (by omega), Int.toNat_natCast]
  unfold rvGo
  rw [if_pos (by omega), Nat.add_zero, hn, if_pos h60, if_neg (by omega)]
  simp
theorem var_small (n : Nat) (h : n < 128) : varText (n : Int) = [UInt8.ofNat n] := by
  unfold varText
  rw [(in_iff _ _ _).2 ⟨by omega, by omega⟩, if_pos rfl, Int.toNat_natCast]
  exact varBytes_one 4 n h
theorem frame1 (p : Int) (r : List UInt8) (hp : inB p 0 1000000000 = true) (hl : r.length ≤ 60) : frameText 1 p r = UInt8.ofNat r.length :: (r ++ fixOf (crcMore 0 r : Nat) 4) := by
  unfold frameText
  rw [hp, decide_eq_true hl, show inB 1 1 2 = true from rfl, var_small r.length (by omega)]
  simp
/-- a whole frame of the older form is read -/
theorem rf1_ok (p : Int) (hp : inB p 0 1000000000 = true) (b : List UInt8) (e : Nat) (r : List UInt8) (hl : r.length ≤ 60) (he : e + (5 + r.length) ≤ b.length) (h : (b.drop e).take (5 + r.length) = UInt8.ofNat r.length :: (r ++ fixOf (crcMore 0 r : Nat) 4)) :
    rfOk 1 p b e = true ∧ rfRec 1 p b e = r ∧ rfEnd 1 p b e = ((e + (5 + r.length) : Nat) : Int) := by
  have hc := crcMore_lt 0 r (by omega)
  have h0 : (b.getD e 0).toNat = r.length := by
    have := congrArg (fun l : List UInt8 => (l.getD 0 0).toNat) h
    simp only [List.getD_cons_zero] at this
    rw [List.getD_eq_getElem?_getD, List.getElem?_take, if_pos (by omega), List.getElem?_drop, Nat.add_zero, ← List.getD_eq_getElem?_getD] at this
    rw [this]
    show r.length % 256 = _
    omega
  have rv := rv_one b e r.length (by omega) h0 (by omega)
  have n1 : rfN 1 b e = r.length := by unfold rfN rvN; rw [if_neg (by decide), rv]
  have n2 : rfFrom 1 b e = ((e + 1 : Nat) : Int) := by unfold rfFrom rvEnd; rw [if_neg (by decide), rv]
  have n3 : rfHas 1 b e = true := by unfold rfHas rvOk; rw [if_neg (by decide), rv]; rfl
  have tx : rfText 1 b e = r := by
    unfold rfText
    rw [n1, n2, Int.toNat_natCast, Int.toNat_natCast]
    have h2 := congrArg (fun l : List UInt8 => (l.drop 1).take r.length) h
    simp only [List.drop_succ_cons, List.drop_zero] at h2
    rw [List.take_left' rfl, List.drop_take, List.drop_drop, List.take_take, show min r.length (5 + r.length - 1) = r.length by omega] at h2
    exact h2
  have fl : (frameText 1 p r).length = 5 + r.length := by
    rw [frame1 p r hp hl, List.length_cons, List.length_append, fix4_len _ hc]; omega
  have ok : rfOk 1 p b e = true := by
    unfold rfOk
    rw [n1, n2, n3, tx, hp, show inB 1 1 2 = true from rfl, decide_eq_true (show ((r.length : Nat) : Int) ≤ 60 ∧ ((e + 1 : Nat) : Int) + (r.length : Int) ≤ (b.length : Int) by omega)]
    simp only [Bool.and_self, Bool.true_and]
    rw [hasAt_iff, fl, Int.toNat_natCast, frame1 p r hp hl]
    exact ⟨by omega, by omega, h⟩
  refine ⟨ok, ?_, ?_⟩
  · unfold rfRec; rw [if_pos ok]; exact tx
  · unfold rfEnd; rw [if_pos ok, tx, fl]; omega
/-- what is read of a frame of the older form -/
theorem rf1_at (p : Int) (hp : inB p 0 1000000000 = true) (b : List UInt8) (e n : Nat) (he : e < b.length) (h0 : (b.getD e 0).toNat = n) (hn : n ≤ 60) (h : rfOk 1 p b e = true) : ∃ r : List UInt8, r.length = n ∧ (b.drop (e + 1)).take (n + 4) = r ++ fixOf (crcMore 0 r : Nat) 4 := by
  have rv := rv_one b e n he h0 (by omega)
  have n1 : rfN 1 b e = n := by unfold rfN rvN; rw [if_neg (by decide), rv]
  have n2 : rfFrom 1 b e = ((e + 1 : Nat) : Int) := by unfold rfFrom rvEnd; rw [if_neg (by decide), rv]
  unfold rfOk at h
  simp only [Bool.and_eq_true, decide_eq_true_eq] at h
  obtain ⟨⟨⟨⟨hv, hp'⟩, hh⟩, hn1, hn2⟩, ha⟩ := h
  rw [n1, n2] at hn2
  have hl : (rfText 1 b e).length = n := by
    unfold rfText
    rw [n1, n2, Int.toNat_natCast, Int.toNat_natCast, List.length_take, List.length_drop]; omega
  obtain ⟨_, _, h3⟩ := (hasAt_iff _ _ _).1 ha
  have hc := crcMore_lt 0 (rfText 1 b e) (by omega)
  rw [frame1 p _ hp (by omega), List.length_cons, List.length_append, fix4_len _ hc, hl, Int.toNat_natCast] at h3
  refine ⟨rfText 1 b e, hl, ?_⟩
  have h4 := congrArg (fun l : List UInt8 => l.drop 1) h3
  simp only [List.drop_succ_cons, List.drop_zero] at h4
  rw [List.drop_take, List.drop_drop, show n + 4 + 1 - 1 = n + 4 by omega] at h4
  exact h4
theorem mark1_no (p : Int) (hp : inB p 0 1000000000 = true) (b : List UInt8) (e : Nat) (h : b.getD e 0 ≠ 255) : markAt 1 p b e = false := by
  cases hh : markAt 1 p b e with
  | false => rfl
  | true =>
    unfold markAt at hh
    have em : endMark 1 p = [255, 255, 255, 255, 15] := by
      unfold endMark
      rw [hp, show inB 1 1 2 = true from rfl]; rfl
    rw [Bool.and_eq_true, hasAt_iff, em] at hh
    have h3 := hh.2.2.2
    rw [Int.toNat_natCast] at h3
    have := congrArg (fun l : List UInt8 => l.getD 0 0) h3
    simp only [List.getD_cons_zero, List.length_cons, List.length_nil] at this
    rw [List.getD_eq_getElem?_getD, List.getElem?_take, if_pos (by omega), List.getElem?_drop, Nat.add_zero, ← List.getD_eq_getElem?_getD] at this
    exact absurd this h
theorem scanGo_next (v p : Int) (b : List UInt8) (f : Nat) (k e : Int) (rs : List (List UInt8)) (os : List Int) (h1 : markAt v (p + k) b e = false) (h2 : rfOk v (p + k) b e = true) : scanGo v p b (f + 1) k e rs os = scanGo v p b f (k + 1) (rfEnd v (p + k) b e) (rs ++ [rfRec v (p + k) b e]) (os ++ [e]) := by
  rw [scanGo, h1, if_neg (by decide), if_pos h2]
theorem scanGo_stop (v p : Int) (b : List UInt8) (f : Nat) (k e : Int) (rs : List (List UInt8)) (os : List Int) (h1 : markAt v (p + k) b e = false) (h2 : rfOk v (p + k) b e = false) : scanGo v p b (f + 1) k e rs os = (rs, os, e, false) := by
  rw [scanGo, h1, h2]; rfl
/-- bits turned within a frame's record and sum: it is none any more -/
theorem rf1_bent (p : Int) (hp : inB p 0 1000000000 = true) (t : List UInt8) (e n : Nat) (r : List UInt8) (hr : r.length = n) (hn : n ≤ 60) (he : e + (5 + n) ≤ t.length) (h0 : (t.getD e 0).toNat = n) (ht : (t.drop (e + 1)).take (n + 4) = r ++ fixOf (crcMore 0 r : Nat) 4)
    (a m : Int) (ha : 8 * ((e + 1 : Nat) : Int) ≤ a) (ha2 : a < 8 * ((e + (5 + n) : Nat) : Int)) (hm : m % 2 = 1) : rfOk 1 p (turnOf t a m) e = false := by
  cases hh : rfOk 1 p (turnOf t a m) e with
  | false => rfl
  | true =>
    have el : (t.take (e + 1)).length = e + 1 := by rw [List.length_take]; omega
    have eu : turnOf t a m = t.take (e + 1) ++ turnOf (t.drop (e + 1)) (a - 8 * ((e + 1 : Nat) : Int)) m := by
      conv => lhs; rw [← List.take_append_drop (e + 1) t]
      rw [turn_app _ _ a m (by rw [el]; exact ha), el]
    have h0' : ((turnOf t a m).getD e 0).toNat = n := by
      rw [eu, List.getD_eq_getElem?_getD, List.getElem?_append_left (by rw [el]; omega), List.getElem?_take, if_pos (by omega), ← List.getD_eq_getElem?_getD]
      exact h0
    obtain ⟨q, hq, h2⟩ := rf1_at p hp _ e n (by rw [turnOf_len]; omega) h0' hn hh
    rw [eu, List.drop_left' el, turn_take, ht] at h2
    have hc := crcMore_lt 0 r (by omega)
    have c := crc_turn_ne (r ++ fixOf (crcMore 0 r : Nat) 4) (a - 8 * ((e + 1 : Nat) : Int)) m 4294967295 ⟨odd_bit m hm, by omega, by rw [List.length_append, fix4_len _ hc]; omega⟩
    rw [h2, crc_code, crc_code] at c
    exact absurd rfl c
theorem turn_pre (t : List UInt8) (a m : Int) (n : Nat) (hn : n ≤ t.length) (ha : 8 * (n : Int) ≤ a) : (turnOf t a m).take n = t.take n := by
  have el : (t.take n).length = n := by rw [List.length_take]; omega
  conv => lhs; rw [← List.take_append_drop n t]
  rw [turn_app _ _ a m (by rw [el]; exact ha), List.take_left' el]
/-- the first byte that is turned -/
theorem first_turn (t : List UInt8) (a m : Int) (ha : 0 ≤ a) (ha2 : a < 8 * t.length) (hm : m % 2 = 1) : firstOf t (turnOf t a m) = a / 8 ∧ a / 8 < endOf t (turnOf t a m) := by
  have hq : (a / 8).toNat < t.length := by omega
  generalize hk : (a / 8).toNat = q at hq
  have hl := turnOf_len t a m
  have hp := turn_pre t a m q (by omega) (by omega)
  have hd : t.getD q 0 ≠ (turnOf t a m).getD q 0 := fun he => by
    have e1 : (turnOf t a m).take (q + 1) = t.take (q + 1) := by
      rw [List.take_add_one, List.take_add_one, hp]
      congr 1
      have g1 : t[q]? = some (t.getD q 0) := by rw [List.getD_eq_getElem?_getD, List.getElem?_eq_getElem hq]; rfl
      have g2 : (turnOf t a m)[q]? = some ((turnOf t a m).getD q 0) := by rw [List.getD_eq_getElem?_getD, List.getElem?_eq_getElem (by omega)]; rfl
      rw [g1, g2, he]
    rw [turn_take] at e1
    have c := crc_turn_ne (t.take (q + 1)) a m 0 ⟨odd_bit m hm, ha, by rw [List.length_take]; omega⟩
    rw [e1] at c
    exact c rfl
  have hne : t ≠ turnOf t a m := fun h => hd (by rw [← h])
  have hc : common t (turnOf t a m) = q := by
    have l1 := common_le t (turnOf t a m)
    by_cases c1 : common t (turnOf t a m) < q
    · have := common_ne t (turnOf t a m) (by omega) (by omega)
      exact absurd (pre_getD _ _ q _ hp c1).symm this
    · by_cases c2 : q < common t (turnOf t a m)
      · exact absurd (common_lt _ _ q c2) hd
      · omega
  have hlast : ∀ n, q < n → q < lastDiff t (turnOf t a m) n := by
    intro n
    induction n with
    | zero => intro h; omega
    | succ n ih =>
      intro h
      simp only [lastDiff]
      split
      · rename_i he
        by_cases hqn : q = n
        · rw [← hqn] at he; exact absurd he hd
        · exact ih (by omega)
      · omega
  constructor
  · unfold firstOf
    rw [if_neg hne, hc]; omega
  · unfold endOf
    rw [if_pos hl.symm]
    have := hlast t.length hq
    omega
theorem old_bent (a m : Int) (ha : 0 ≤ a) (ha2 : a < 768) (hm : m % 2 = 1) (x y : Int) (hx : x = a / 8) (hy : a / 8 < y) (hs : sizesHit tABC x y = false) (h24 : ¬ x < 24) (h64 : ¬ 64 < y) : ((scRecs (turnOf tABC a m)).length : Int) = firstHit tABC x y := by
  rw [abc_sizes, Bool.or_eq_false_iff, Bool.or_eq_false_iff] at hs
  obtain ⟨⟨s1, s2⟩, s3⟩ := hs
  have no : ∀ p q : Int, meets p q x y = false → p < q → q ≤ x ∨ y ≤ p := fun p q h hpq => by
    have : ¬ (p < q ∧ p < y ∧ x < q ∧ x < y) := fun hh => by rw [(meets_iff _ _ _ _).2 hh] at h; cases h
    omega
  have d1 := no 24 25 s1 (by omega)
  have d2 := no 32 33 s2 (by omega)
  have d3 := no 39 40 s3 (by omega)
  have m0 : meets 0 24 x y = false := by
    cases hh : meets 0 24 x y with
    | false => rfl
    | true => have := (meets_iff _ _ _ _).1 hh; omega
  rw [abc_first x y m0]
  have hl : (turnOf tABC a m).length = 96 := by rw [turnOf_len]; exact tABC_len
  have tl := tABC_len
  have hp24 := turn_pre tABC a m 25 (by omega) (by omega)
  have hp24' : (turnOf tABC a m).take 24 = tABC.take 24 := by
    have := congrArg (List.take 24) hp24
    rw [List.take_take, List.take_take] at this
    exact this
  obtain ⟨k1, k2, k3⟩ := head_pre _ tABC hp24' (by omega) (by omega)
  rw [tABC_ok] at k1
  rw [tABC_v] at k2
  rw [tABC_b] at k3
  have sc : scRecs (turnOf tABC a m) = (scanGo 1 0 (turnOf tABC a m) (96 + 1) 0 24 [] []).1 := by
    unfold scRecs scanOf
    rw [if_pos k1, k2, k3, hl]
  rw [sc]
  have p0 : inB (0 + 0) 0 1000000000 = true := rfl
  have p1 : inB (0 + (0 + 1)) 0 1000000000 = true := rfl
  have p2 : inB (0 + (0 + 1 + 1)) 0 1000000000 = true := rfl
  have mk0 : markAt 1 (0 + 0) (turnOf tABC a m) ((24 : Nat) : Int) = false := mark1_no _ p0 _ 24 (by rw [pre_getD _ tABC 25 24 hp24 (by omega)]; decide +kernel)
  by_cases c0 : y ≤ 32
  · have hit : meets 24 32 x y = true := (meets_iff _ _ _ _).2 ⟨by omega, by omega, by omega, by omega⟩
    rw [hit, if_pos rfl]
    have b0 := rf1_bent (0 + 0) p0 tABC 24 3 [97, 98, 99] rfl (by omega) (by omega) (by decide +kernel) (by decide +kernel) a m (by omega) (by omega) hm
    have st := scanGo_stop 1 0 (turnOf tABC a m) 96 0 ((24 : Nat) : Int) [] [] mk0 b0
    have e24 : ((24 : Nat) : Int) = 24 := rfl
    rw [e24] at st
    rw [st]; rfl
  · have hp32 := turn_pre tABC a m 33 (by omega) (by omega)
    have mk1 : markAt 1 (0 + (0 + 1)) (turnOf tABC a m) ((32 : Nat) : Int) = false := mark1_no _ p1 _ 32 (by rw [pre_getD _ tABC 33 32 hp32 (by omega)]; decide +kernel)
    obtain ⟨o1, o2, o3⟩ := rf1_ok (0 + 0) p0 (turnOf tABC a m) 24 [97, 98, 99] (by decide) (by rw [hl]; decide) (by
      rw [pre_mid _ tABC 33 24 _ hp32 (by decide)]; decide +kernel)
    have nx := scanGo_next 1 0 (turnOf tABC a m) 96 0 ((24 : Nat) : Int) [] [] mk0 o1
    rw [o2, o3] at nx
    have e24 : ((24 : Nat) : Int) = 24 := rfl
    rw [e24] at nx
    rw [nx]
    have nh0 : meets 24 32 x y = false := by
      cases hh : meets 24 32 x y with
      | false => rfl
      | true => have := (meets_iff _ _ _ _).1 hh; omega
    rw [nh0, if_neg (by decide)]
    by_cases c1 : y ≤ 39
    · have hit : meets 32 39 x y = true := (meets_iff _ _ _ _).2 ⟨by omega, by omega, by omega, by omega⟩
      rw [hit, if_pos rfl]
      have b1 := rf1_bent (0 + (0 + 1)) p1 tABC 32 2 [100, 101] rfl (by omega) (by omega) (by decide +kernel) (by decide +kernel) a m (by omega) (by omega) hm
      have st := scanGo_stop 1 0 (turnOf tABC a m) 95 (0 + 1) ((32 : Nat) : Int) ([] ++ [[97, 98, 99]]) ([] ++ [24]) mk1 b1
      have es : scanGo 1 0 (turnOf tABC a m) 96 (0 + 1) ((24 + (5 + ([97, 98, 99] : List UInt8).length) : Nat) : Int) ([] ++ [[97, 98, 99]]) ([] ++ [24]) = _ := st
      rw [es]; rfl
    · have hp39 := turn_pre tABC a m 40 (by omega) (by omega)
      have mk2 : markAt 1 (0 + (0 + 1 + 1)) (turnOf tABC a m) ((39 : Nat) : Int) = false := mark1_no _ p2 _ 39 (by rw [pre_getD _ tABC 40 39 hp39 (by omega)]; decide +kernel)
      obtain ⟨o1, o2, o3⟩ := rf1_ok (0 + (0 + 1)) p1 (turnOf tABC a m) 32 [100, 101] (by decide) (by rw [hl]; decide) (by
        rw [pre_mid _ tABC 40 32 _ hp39 (by decide)]; decide +kernel)
      have nx := scanGo_next 1 0 (turnOf tABC a m) 95 (0 + 1) ((32 : Nat) : Int) ([] ++ [[97, 98, 99]]) ([] ++ [24]) mk1 o1
      rw [o2, o3] at nx
      have es : scanGo 1 0 (turnOf tABC a m) 96 (0 + 1) ((24 + (5 + ([97, 98, 99] : List UInt8).length) : Nat) : Int) ([] ++ [[97, 98, 99]]) ([] ++ [24]) = _ := nx
      rw [es]
      have nh1 : meets 32 39 x y = false := by
        cases hh : meets 32 39 x y with
        | false => rfl
        | true => have := (meets_iff _ _ _ _).1 hh; omega
      have hit : meets 39 64 x y = true := (meets_iff _ _ _ _).2 ⟨by omega, by omega, by omega, by omega⟩
      rw [nh1, if_neg (by decide), hit, if_pos rfl]
      have b2 := rf1_bent (0 + (0 + 1 + 1)) p2 tABC 39 20 (List.replicate 20 113) rfl (by omega) (by omega) (by decide +kernel) (by decide +kernel) a m (by omega) (by omega) hm
      have st := scanGo_stop 1 0 (turnOf tABC a m) 94 (0 + 1 + 1) ((39 : Nat) : Int) ([] ++ [[97, 98, 99]] ++ [[100, 101]]) ([] ++ [24] ++ [((32 : Nat) : Int)]) mk2 b2
      have es2 : scanGo 1 0 (turnOf tABC a m) 95 (0 + 1 + 1) ((32 + (5 + ([100, 101] : List UInt8).length) : Nat) : Int) ([] ++ [[97, 98, 99]] ++ [[100, 101]]) ([] ++ [24] ++ [((32 : Nat) : Int)]) = _ := st
      rw [es2]; rfl

end Go.Proofs.Ythpcgbnochcbcaa.V

namespace Go.Proofs.Ythpcgbnochcbcaa.V
noncomputable section

def recsInSpec : Spec := fun cs => match cs with
  | [.str b] => some (decide (b.length ≤ 1048576), [.sl ((scRecs b).map eStr)])
  | _ => none
def E_sRecsIn : Env := mkE [] [(86, (sg [pS] [rScan]), scanSpec)]

def E_lFnBurstsOld : Env := mkE [] [(30, (sg [pS, pI, pI] [rS]), turnSpec), (55, (sg [pS, pS] [rI]), (ss_spec endOf)), (54, (sg [pS, pS] [rI]), (ss_spec firstOf)), (10, (sg [pCode] [rB]), bigSpec), (49, (sg [pS, pI, pI] [rI]), firstHitSpec), (53, (sg [pS, pI, pI] [rB]), sizesHitSpec), (52, (sg [pS, pI, pI] [rB]), sizesHitSpec), (50, (⟨[pHead, pSlS], [rS], true⟩), sealSpec), (29, (⟨[pCode], [rSl 3], true⟩), drawPlacesSpec), (32, (sg [pI] [rS]), manySpec), (51, (⟨[pCode], [rS, rI, rI], true⟩), drawHitSpec), (56, (sg [pS] [rSl 9]), recsInSpec)]

end
end Go.Proofs.Ythpcgbnochcbcaa.V

namespace Go.Proofs.Ythpcgbnochcbcaa.V
set_option maxRecDepth 100000
theorem sRecsIn_tree (H : List Pt → Nat → St → T (List C)) (b : List UInt8) : (vBodyL E_sRecsIn noInl (sg [pS] [rSl (9 : TypeId)]) Try.f56 H [C.str b]).eval =
 ((.must (decide (b.length ≤ (1048576 : Nat)))
 (.must (decide ((0 : Nat) < (1 : Nat)) && true &&
      (decide ((0 : Nat) < (1 : Nat)) && true &&
        (decide ((0 : Nat) < (1 : Nat)) && true &&
          (decide ((0 : Nat) < (1 : Nat)) && true &&
            (decide ((0 : Nat) < (1 : Nat)) && true &&
              ((true && (List.map eStr (scRecs b)).all fun row => decide (row.length = (1 : Nat))) &&
                ((true && (List.map eInt (scOffs b)).all fun row => decide (row.length = (1 : Nat))) &&
                  (decide ((0 : Nat) < (1 : Nat)) && true && (decide ((0 : Nat) < (1 : Nat)) && true && true)))))))) &&
    true &&
  true)
  (.must (decide ((List.map eStr (scRecs b)).length = (List.map eStr (scRecs b)).length) &&
        (false || (List.map eStr (scRecs b)).all fun r => r.all C.flat) &&
      true &&
    true &&
  true)
   (.ret [C.sl (List.map eStr (scRecs b))])))) : T (List C)).eval := evalEq (by kernel_rfl)
theorem lFnBurstsOld_tree (H : List Pt → Nat → St → T (List C)) (r : List (List C)) : (vBodyL E_lFnBurstsOld noInl (sg [pCode] [rB]) Try.f9 H [C.sl r]).eval =
 ((.ask (decide ((1048576 : Nat) < r.length))
 (.ret [C.bool true])
 (.must (curOk r (0 : Int))
  (.must (decide ((0 : Nat) < (1 : Nat)) && true && true &&
    (decide ((0 : Nat) < (1 : Nat)) && true && true && (decide ((0 : Nat) < (1 : Nat)) && true && true && true)) &&
  true)
   (.must (decide ((dhB r).length ≤ (1048576 : Nat)))
    (.must (decide ((0 : Nat) < (1 : Nat)) && true && true && true && true)
     (.ask (sizesHit (dhB r) (dhX r) (dhY r))
      (.must (decide ((dhB r).length ≤ (1048576 : Nat)))
       (.must (decide ((0 : Nat) < (1 : Nat)) && true && true && true && true)
        (.ask (sizesHit (dhB r) (dhX r) (dhY r))
         (.must (curOk r (0 : Int))
          (.must (true &&
        (decide ((0 : Nat) + (1 : Nat) = (1 : Nat)) &&
          (decide ((0 : Nat) + (1 : Nat) = (1 : Nat)) &&
            (decide ((0 : Nat) + (1 : Nat) = (1 : Nat)) &&
              (decide ((0 : Nat) + (1 : Nat) = (1 : Nat)) &&
                (decide ((0 : Nat) + (1 : Nat) = (1 : Nat)) &&
                  (decide ((0 : Nat) + (1 : Nat) = (1 : Nat)) &&
                    (decide ((0 : Nat) + (1 : Nat) = (1 : Nat)) &&
                      (decide ((0 : Nat) + (1 : Nat) = (1 : Nat)) &&
                        (decide ((0 : Nat) + (1 : Nat) = (1 : Nat)) &&
                          (decide ((0 : Nat) + (1 : Nat) = (1 : Nat)) &&
                            (decide ((0 : Nat) + (1 : Nat) = (1 : Nat)) &&
                              (decide ((0 : Nat) + (1 : Nat) = (1 : Nat)) && true)))))))))))) &&
      true &&
    true &&
  true)
           (.must (decide ((0 : Int) ≤ (0 : Int)) &&
  decide
    ((0 : Int) <
      (↑(((((((((((Nat.add (1 : Nat) (0 : Nat)).succ.add (0 : Nat)).succ.add (0 : Nat)).succ.add
                                                        (0 : Nat)).succ.add
                                                  (0 : Nat)).succ.add
                                            (0 : Nat)).succ.add
                                      (0 : Nat)).succ.add
                                (0 : Nat)).succ.add
                          (0 : Nat)).succ.add
                    (0 : Nat)).succ.add
              (0 : Nat)).succ :
        Int)))
            (.must (decide
    ((0 : Nat) + Int.toNat (0 : Int) <
      (((((((((((Nat.add (1 : Nat) (0 : Nat)).succ.add (0 : Nat)).succ.add (0 : Nat)).succ.add
                                                    (0 : Nat)).succ.add
                                              (0 : Nat)).succ.add
                                        (0 : Nat)).succ.add
                                  (0 : Nat)).succ.add
                            (0 : Nat)).succ.add
                      (0 : Nat)).succ.add
                (0 : Nat)).succ.add
          (0 : Nat)).succ) &&
  (decide ((0 : Nat) < (0 : Nat) + (1 : Nat)) && true && true))
             (.must (decide ((0 : Int) ≤ (1 : Int)) &&
  decide
    ((1 : Int) <
      (↑(((((((((((Nat.add (1 : Nat) (0 : Nat)).succ.add (0 : Nat)).succ.add (0 : Nat)).succ.add
                                                        (0 : Nat)).succ.add
                                                  (0 : Nat)).succ.add
                                            (0 : Nat)).succ.add
                                      (0 : Nat)).succ.add
                                (0 : Nat)).succ.add
                          (0 : Nat)).succ.add
                    (0 : Nat)).succ.add
              (0 : Nat)).succ :
        Int)))
              (.must (decide
    ((0 : Nat) + Int.toNat (1 : Int) <
      (((((((((((Nat.add (1 : Nat) (0 : Nat)).succ.add (0 : Nat)).succ.add (0 : Nat)).succ.add
                                                    (0 : Nat)).succ.add
                                              (0 : Nat)).succ.add
                                        (0 : Nat)).succ.add
                                  (0 : Nat)).succ.add
                            (0 : Nat)).succ.add
                      (0 : Nat)).succ.add
                (0 : Nat)).succ.add
          (0 : Nat)).succ) &&
  (decide ((0 : Nat) < (0 : Nat) + (1 : Nat)) && true && true))
               (.must (decide ((0 : Int) ≤ (2 : Int)) &&
  decide
    ((2 : Int) <
      (↑(((((((((((Nat.add (1 : Nat) (0 : Nat)).succ.add (0 : Nat)).succ.add (0 : Nat)).succ.add
                                                        (0 : Nat)).succ.add
                                                  (0 : Nat)).succ.add
                                            (0 : Nat)).succ.add
                                      (0 : Nat)).succ.add
                                (0 : Nat)).succ.add
                          (0 : Nat)).succ.add
                    (0 : Nat)).succ.add
              (0 : Nat)).succ :
        Int)))
                (.must (decide
    ((0 : Nat) + Int.toNat (2 : Int) <
      (((((((((((Nat.add (1 : Nat) (0 : Nat)).succ.add (0 : Nat)).succ.add (0 : Nat)).succ.add
                                                    (0 : Nat)).succ.add
                                              (0 : Nat)).succ.add
                                        (0 : Nat)).succ.add
                                  (0 : Nat)).succ.add
                            (0 : Nat)).succ.add
                      (0 : Nat)).succ.add
                (0 : Nat)).succ.add
          (0 : Nat)).succ) &&
  (decide ((0 : Nat) < (0 : Nat) + (1 : Nat)) && true && true))
                 (.must (decide ((0 : Int) ≤ (3 : Int)) &&
  decide
    ((3 : Int) <
      (↑(((((((((((Nat.add (1 : Nat) (0 : Nat)).succ.add (0 : Nat)).succ.add (0 : Nat)).succ.add
                                                        (0 : Nat)).succ.add
                                                  (0 : Nat)).succ.add
                                            (0 : Nat)).succ.add
                                      (0 : Nat)).succ.add
                                (0 : Nat)).succ.add
                          (0 : Nat)).succ.add
                    (0 : Nat)).succ.add
              (0 : Nat)).succ :
        Int)))
                  (.must (decide
    ((0 : Nat) + Int.toNat (3 : Int) <
      (((((((((((Nat.add (1 : Nat) (0 : Nat)).succ.add (0 : Nat)).succ.add (0 : Nat)).succ.add
                                                    (0 : Nat)).succ.add
                                              (0 : Nat)).succ.add
                                        (0 : Nat)).succ.add
                                  (0 : Nat)).succ.add
                            (0 : Nat)).succ.add
                      (0 : Nat)).succ.add
                (0 : Nat)).succ.add
          (0 : Nat)).succ) &&
  (decide ((0 : Nat) < (0 : Nat) + (1 : Nat)) && true && true))
                   (.must (decide ((0 : Int) ≤ (4 : Int)) &&
  decide
    ((4 : Int) <
      (↑(((((((((((Nat.add (1 : Nat) (0 : Nat)).succ.add (0 : Nat)).succ.add (0 : Nat)).succ.add
                                                        (0 : Nat)).succ.add
                                                  (0 : Nat)).succ.add
                                            (0 : Nat)).succ.add
                                      (0 : Nat)).succ.add
                                (0 : Nat)).succ.add
                          (0 : Nat)).succ.add
                    (0 : Nat)).succ.add
              (0 : Nat)).succ :
        Int)))
                    (.must (decide
    ((0 : Nat) + Int.toNat (4 : Int) <
      (((((((((((Nat.add (1 : Nat) (0 : Nat)).succ.add (0 : Nat)).succ.add (0 : Nat)).succ.add
                                                    (0 : Nat)).succ.add
                                              (0 : Nat)).succ.add
                                        (0 : Nat)).succ.add
                                  (0 : Nat)).succ.add
                            (0 : Nat)).succ.add
                      (0 : Nat)).succ.add
                (0 : Nat)).succ.add
          (0 : Nat)).succ) &&
  (decide ((0 : Nat) < (0 : Nat) + (1 : Nat)) && true && true))
                     (.must (decide
      ((sealText (1 : Int) (1 : Int) (0 : Int) (0 : Int)
            (strs
              [[C.str [(97 : UInt8), (98 : UInt8), (99 : UInt8)]], [C.str [(100 : UInt8), (101 : UInt8)]],
                [C.str (List.replicate (Int.toNat (20 : Int)) (113 : UInt8))]])).length ≤
        (1048576 : Nat)) &&
    decide
      ((-9223372036854775808 : Int) ≤
        (IntKind.i64.wrap (IntKind.i64.wrap (dpAt r (0 : Nat) * (10000 : Int)) + dpAt r (1 : Nat))).tmod
          (IntKind.i64.wrap
            ((8 : Int) *
              (↑(sealText (1 : Int) (1 : Int) (0 : Int) (0 : Int)
                      (strs
                        [[C.str [(97 : UInt8), (98 : UInt8), (99 : UInt8)]], [C.str [(100 : UInt8), (101 : UInt8)]],
                          [C.str (List.replicate (Int.toNat (20 : Int)) (113 : UInt8))]])).length :
                Int)))) &&
  decide
    ((IntKind.i64.wrap (IntKind.i64.wrap (dpAt r (0 : Nat) * (10000 : Int)) + dpAt r (1 : Nat))).tmod
        (IntKind.i64.wrap
          ((8 : Int) *
            (↑(sealText (1 : Int) (1 : Int) (0 : Int) (0 : Int)
                    (strs
                      [[C.str [(97 : UInt8), (98 : UInt8), (99 : UInt8)]], [C.str [(100 : UInt8), (101 : UInt8)]],
                        [C.str (List.replicate (Int.toNat (20 : Int)) (113 : UInt8))]])).length :
              Int))) ≤
      (9223372036854775807 : Int)))
                      (.must (decide ((0 : Nat) < (1 : Nat)) && true && true && true && true)
                       (.must (decide
    ((sealText (1 : Int) (1 : Int) (0 : Int) (0 : Int)
          (strs
            [[C.str [(97 : UInt8), (98 : UInt8), (99 : UInt8)]], [C.str [(100 : UInt8), (101 : UInt8)]],
              [C.str (List.replicate (Int.toNat (20 : Int)) (113 : UInt8))]])).length ≤
      (1048576 : Nat)) &&
  decide
    ((turnOf
          (sealText (1 : Int) (1 : Int) (0 : Int) (0 : Int)
            (strs
              [[C.str [(97 : UInt8), (98 : UInt8), (99 : UInt8)]], [C.str [(100 : UInt8), (101 : UInt8)]],
                [C.str (List.replicate (Int.toNat (20 : Int)) (113 : UInt8))]]))
          ((IntKind.i64.wrap (IntKind.i64.wrap (dpAt r (0 : Nat) * (10000 : Int)) + dpAt r (1 : Nat))).tmod
            (IntKind.i64.wrap
              ((8 : Int) *
                (↑(sealText (1 : Int) (1 : Int) (0 : Int) (0 : Int)
                        (strs
                          [[C.str [(97 : UInt8), (98 : UInt8), (99 : UInt8)]], [C.str [(100 : UInt8), (101 : UInt8)]],
                            [C.str (List.replicate (Int.toNat (20 : Int)) (113 : UInt8))]])).length :
                  Int))))
          (IntKind.i64.wrap
            ((1 : Int) +
              IntKind.i64.wrap
                ((2 : Int) *
                  IntKind.i64.wrap
                    (IntKind.i64.wrap
                        (IntKind.i64.wrap (IntKind.i64.wrap (dpAt r (2 : Nat) * (10000 : Int)) + dpAt r (3 : Nat)) *
                          (20 : Int)) +
                      (dpAt r (4 : Nat)).tmod (20 : Int)))))).length ≤
      (1048576 : Nat)))
                        (.must (decide ((0 : Nat) < (1 : Nat)) && true && true && true && true)
                         (.must (decide
    ((sealText (1 : Int) (1 : Int) (0 : Int) (0 : Int)
          (strs
            [[C.str [(97 : UInt8), (98 : UInt8), (99 : UInt8)]], [C.str [(100 : UInt8), (101 : UInt8)]],
              [C.str (List.replicate (Int.toNat (20 : Int)) (113 : UInt8))]])).length ≤
      (1048576 : Nat)) &&
  decide
    ((turnOf
          (sealText (1 : Int) (1 : Int) (0 : Int) (0 : Int)
            (strs
              [[C.str [(97 : UInt8), (98 : UInt8), (99 : UInt8)]], [C.str [(100 : UInt8), (101 : UInt8)]],
                [C.str (List.replicate (Int.toNat (20 : Int)) (113 : UInt8))]]))
          ((IntKind.i64.wrap (IntKind.i64.wrap (dpAt r (0 : Nat) * (10000 : Int)) + dpAt r (1 : Nat))).tmod
            (IntKind.i64.wrap
              ((8 : Int) *
                (↑(sealText (1 : Int) (1 : Int) (0 : Int) (0 : Int)
                        (strs
                          [[C.str [(97 : UInt8), (98 : UInt8), (99 : UInt8)]], [C.str [(100 : UInt8), (101 : UInt8)]],
                            [C.str (List.replicate (Int.toNat (20 : Int)) (113 : UInt8))]])).length :
                  Int))))
          (IntKind.i64.wrap
            ((1 : Int) +
              IntKind.i64.wrap
                ((2 : Int) *
                  IntKind.i64.wrap
                    (IntKind.i64.wrap
                        (IntKind.i64.wrap (IntKind.i64.wrap (dpAt r (2 : Nat) * (10000 : Int)) + dpAt r (3 : Nat)) *
                          (20 : Int)) +
                      (dpAt r (4 : Nat)).tmod (20 : Int)))))).length ≤
      (1048576 : Nat)))
                          (.must (decide ((0 : Nat) < (1 : Nat)) && true && true && true && true)
                           (.must (decide ((0 : Nat) < (1 : Nat)) && true && true && true && true)
                            (.ask (sizesHit
  (sealText (1 : Int) (1 : Int) (0 : Int) (0 : Int)
    (strs
      [[C.str [(97 : UInt8), (98 : UInt8), (99 : UInt8)]], [C.str [(100 : UInt8), (101 : UInt8)]],
        [C.str (List.replicate (Int.toNat (20 : Int)) (113 : UInt8))]]))
  (firstOf
    (sealText (1 : Int) (1 : Int) (0 : Int) (0 : Int)
      (strs
        [[C.str [(97 : UInt8), (98 : UInt8), (99 : UInt8)]], [C.str [(100 : UInt8), (101 : UInt8)]],
          [C.str (List.replicate (Int.toNat (20 : Int)) (113 : UInt8))]]))
    (turnOf
      (sealText (1 : Int) (1 : Int) (0 : Int) (0 : Int)
        (strs
          [[C.str [(97 : UInt8), (98 : UInt8), (99 : UInt8)]], [C.str [(100 : UInt8), (101 : UInt8)]],
            [C.str (List.replicate (Int.toNat (20 : Int)) (113 : UInt8))]]))
      ((IntKind.i64.wrap (IntKind.i64.wrap (dpAt r (0 : Nat) * (10000 : Int)) + dpAt r (1 : Nat))).tmod
        (IntKind.i64.wrap
          ((8 : Int) *
            (↑(sealText (1 : Int) (1 : Int) (0 : Int) (0 : Int)
                    (strs
                      [[C.str [(97 : UInt8), (98 : UInt8), (99 : UInt8)]], [C.str [(100 : UInt8), (101 : UInt8)]],
                        [C.str (List.replicate (Int.toNat (20 : Int)) (113 : UInt8))]])).length :
              Int))))
      (IntKind.i64.wrap
        ((1 : Int) +
          IntKind.i64.wrap
            ((2 : Int) *
              IntKind.i64.wrap
                (IntKind.i64.wrap
                    (IntKind.i64.wrap (IntKind.i64.wrap (dpAt r (2 : Nat) * (10000 : Int)) + dpAt r (3 : Nat)) *
                      (20 : Int)) +
                  (dpAt r (4 : Nat)).tmod (20 : Int)))))))
  (endOf
    (sealText (1 : Int) (1 : Int) (0 : Int) (0 : Int)
      (strs
        [[C.str [(97 : UInt8), (98 : UInt8), (99 : UInt8)]], [C.str [(100 : UInt8), (101 : UInt8)]],
          [C.str (List.replicate (Int.toNat (20 : Int)) (113 : UInt8))]]))
    (turnOf
      (sealText (1 : Int) (1 : Int) (0 : Int) (0 : Int)
        (strs
          [[C.str [(97 : UInt8), (98 : UInt8), (99 : UInt8)]], [C.str [(100 : UInt8), (101 : UInt8)]],
            [C.str (List.replicate (Int.toNat (20 : Int)) (113 : UInt8))]]))
      ((IntKind.i64.wrap (IntKind.i64.wrap (dpAt r (0 : Nat) * (10000 : Int)) + dpAt r (1 : Nat))).tmod
        (IntKind.i64.wrap
          ((8 : Int) *
            (↑(sealText (1 : Int) (1 : Int) (0 : Int) (0 : Int)
                    (strs
                      [[C.str [(97 : UInt8), (98 : UInt8), (99 : UInt8)]], [C.str [(100 : UInt8), (101 : UInt8)]],
                        [C.str (List.replicate (Int.toNat (20 : Int)) (113 : UInt8))]])).length :
              Int))))
      (IntKind.i64.wrap
        ((1 : Int) +
          IntKind.i64.wrap
            ((2 : Int) *
              IntKind.i64.wrap
                (IntKind.i64.wrap
                    (IntKind.i64.wrap (IntKind.i64.wrap (dpAt r (2 : Nat) * (10000 : Int)) + dpAt r (3 : Nat)) *
                      (20 : Int)) +
                  (dpAt r (4 : Nat)).tmod (20 : Int))))))))
                             (.ask (decide
  (firstOf
      (sealText (1 : Int) (1 : Int) (0 : Int) (0 : Int)
        (strs
          [[C.str [(97 : UInt8), (98 : UInt8), (99 : UInt8)]], [C.str [(100 : UInt8), (101 : UInt8)]],
            [C.str (List.replicate (Int.toNat (20 : Int)) (113 : UInt8))]]))
      (turnOf
        (sealText (1 : Int) (1 : Int) (0 : Int) (0 : Int)
          (strs
            [[C.str [(97 : UInt8), (98 : UInt8), (99 : UInt8)]], [C.str [(100 : UInt8), (101 : UInt8)]],
              [C.str (List.replicate (Int.toNat (20 : Int)) (113 : UInt8))]]))
        ((IntKind.i64.wrap (IntKind.i64.wrap (dpAt r (0 : Nat) * (10000 : Int)) + dpAt r (1 : Nat))).tmod
          (IntKind.i64.wrap
            ((8 : Int) *
              (↑(sealText (1 : Int) (1 : Int) (0 : Int) (0 : Int)
                      (strs
                        [[C.str [(97 : UInt8), (98 : UInt8), (99 : UInt8)]], [C.str [(100 : UInt8), (101 : UInt8)]],
                          [C.str (List.replicate (Int.toNat (20 : Int)) (113 : UInt8))]])).length :
                Int))))
        (IntKind.i64.wrap
          ((1 : Int) +
            IntKind.i64.wrap
              ((2 : Int) *
                IntKind.i64.wrap
                  (IntKind.i64.wrap
                      (IntKind.i64.wrap (IntKind.i64.wrap (dpAt r (2 : Nat) * (10000 : Int)) + dpAt r (3 : Nat)) *
                        (20 : Int)) +
                    (dpAt r (4 : Nat)).tmod (20 : Int)))))) <
    (100 : Int)))
                              (.ret [C.bool true])
                              (.ret [C.bool false]))
                             (.ask (decide
  (firstOf
      (sealText (1 : Int) (1 : Int) (0 : Int) (0 : Int)
        (strs
          [[C.str [(97 : UInt8), (98 : UInt8), (99 : UInt8)]], [C.str [(100 : UInt8), (101 : UInt8)]],
            [C.str (List.replicate (Int.toNat (20 : Int)) (113 : UInt8))]]))
      (turnOf
        (sealText (1 : Int) (1 : Int) (0 : Int) (0 : Int)
          (strs
            [[C.str [(97 : UInt8), (98 : UInt8), (99 : UInt8)]], [C.str [(100 : UInt8), (101 : UInt8)]],
              [C.str (List.replicate (Int.toNat (20 : Int)) (113 : UInt8))]]))
        ((IntKind.i64.wrap (IntKind.i64.wrap (dpAt r (0 : Nat) * (10000 : Int)) + dpAt r (1 : Nat))).tmod
          (IntKind.i64.wrap
            ((8 : Int) *
              (↑(sealText (1 : Int) (1 : Int) (0 : Int) (0 : Int)
                      (strs
                        [[C.str [(97 : UInt8), (98 : UInt8), (99 : UInt8)]], [C.str [(100 : UInt8), (101 : UInt8)]],
                          [C.str (List.replicate (Int.toNat (20 : Int)) (113 : UInt8))]])).length :
                Int))))
        (IntKind.i64.wrap
          ((1 : Int) +
            IntKind.i64.wrap
              ((2 : Int) *
                IntKind.i64.wrap
                  (IntKind.i64.wrap
                      (IntKind.i64.wrap (IntKind.i64.wrap (dpAt r (2 : Nat) * (10000 : Int)) + dpAt r (3 : Nat)) *
                        (20 : Int)) +
                    (dpAt r (4 : Nat)).tmod (20 : Int)))))) <
    (24 : Int)))
                              (.ret [C.bool true])
                              (.ask (decide
  ((64 : Int) <
    endOf
      (sealText (1 : Int) (1 : Int) (0 : Int) (0 : Int)
        (strs
          [[C.str [(97 : UInt8), (98 : UInt8), (99 : UInt8)]], [C.str [(100 : UInt8), (101 : UInt8)]],
            [C.str (List.replicate (Int.toNat (20 : Int)) (113 : UInt8))]]))
      (turnOf
        (sealText (1 : Int) (1 : Int) (0 : Int) (0 : Int)
          (strs
            [[C.str [(97 : UInt8), (98 : UInt8), (99 : UInt8)]], [C.str [(100 : UInt8), (101 : UInt8)]],
              [C.str (List.replicate (Int.toNat (20 : Int)) (113 : UInt8))]]))
        ((IntKind.i64.wrap (IntKind.i64.wrap (dpAt r (0 : Nat) * (10000 : Int)) + dpAt r (1 : Nat))).tmod
          (IntKind.i64.wrap
            ((8 : Int) *
              (↑(sealText (1 : Int) (1 : Int) (0 : Int) (0 : Int)
                      (strs
                        [[C.str [(97 : UInt8), (98 : UInt8), (99 : UInt8)]], [C.str [(100 : UInt8), (101 : UInt8)]],
                          [C.str (List.replicate (Int.toNat (20 : Int)) (113 : UInt8))]])).length :
                Int))))
        (IntKind.i64.wrap
          ((1 : Int) +
            IntKind.i64.wrap
              ((2 : Int) *
                IntKind.i64.wrap
                  (IntKind.i64.wrap
                      (IntKind.i64.wrap (IntKind.i64.wrap (dpAt r (2 : Nat) * (10000 : Int)) + dpAt r (3 : Nat)) *
                        (20 : Int)) +
                    (dpAt r (4 : Nat)).tmod (20 : Int))))))))
                               (.ret [C.bool true])
                               (.must (decide
  ((turnOf
        (sealText (1 : Int) (1 : Int) (0 : Int) (0 : Int)
          (strs
            [[C.str [(97 : UInt8), (98 : UInt8), (99 : UInt8)]], [C.str [(100 : UInt8), (101 : UInt8)]],
              [C.str (List.replicate (Int.toNat (20 : Int)) (113 : UInt8))]]))
        ((IntKind.i64.wrap (IntKind.i64.wrap (dpAt r (0 : Nat) * (10000 : Int)) + dpAt r (1 : Nat))).tmod
          (IntKind.i64.wrap
            ((8 : Int) *
              (↑(sealText (1 : Int) (1 : Int) (0 : Int) (0 : Int)
                      (strs
                        [[C.str [(97 : UInt8), (98 : UInt8), (99 : UInt8)]], [C.str [(100 : UInt8), (101 : UInt8)]],
                          [C.str (List.replicate (Int.toNat (20 : Int)) (113 : UInt8))]])).length :
                Int))))
        (IntKind.i64.wrap
          ((1 : Int) +
            IntKind.i64.wrap
              ((2 : Int) *
                IntKind.i64.wrap
                  (IntKind.i64.wrap
                      (IntKind.i64.wrap (IntKind.i64.wrap (dpAt r (2 : Nat) * (10000 : Int)) + dpAt r (3 : Nat)) *
                        (20 : Int)) +
                    (dpAt r (4 : Nat)).tmod (20 : Int)))))).length ≤
    (1048576 : Nat)))
                                (.must ((true &&
        (List.map eStr
              (scRecs
                (turnOf
                  (sealText (1 : Int) (1 : Int) (0 : Int) (0 : Int)
                    (strs
                      [[C.str [(97 : UInt8), (98 : UInt8), (99 : UInt8)]], [C.str [(100 : UInt8), (101 : UInt8)]],
                        [C.str (List.replicate (Int.toNat (20 : Int)) (113 : UInt8))]]))
                  ((IntKind.i64.wrap (IntKind.i64.wrap (dpAt r (0 : Nat) * (10000 : Int)) + dpAt r (1 : Nat))).tmod
                    (IntKind.i64.wrap
                      ((8 : Int) *
                        (↑(sealText (1 : Int) (1 : Int) (0 : Int) (0 : Int)
                                (strs
                                  [[C.str [(97 : UInt8), (98 : UInt8), (99 : UInt8)]],
                                    [C.str [(100 : UInt8), (101 : UInt8)]],
                                    [C.str (List.replicate (Int.toNat (20 : Int)) (113 : UInt8))]])).length :
                          Int))))
                  (IntKind.i64.wrap
                    ((1 : Int) +
                      IntKind.i64.wrap
                        ((2 : Int) *
                          IntKind.i64.wrap
                            (IntKind.i64.wrap
                                (IntKind.i64.wrap
                                    (IntKind.i64.wrap (dpAt r (2 : Nat) * (10000 : Int)) + dpAt r (3 : Nat)) *
                                  (20 : Int)) +
                              (dpAt r (4 : Nat)).tmod (20 : Int)))))))).all
          fun row => decide (row.length = (1 : Nat))) &&
      true &&
    true &&
  true)
                                 (.must (decide ((0 : Nat) < (1 : Nat)) && true && true && true && true)
                                  (.ask (decide
  ((↑(List.map eStr
            (scRecs
              (turnOf
                (sealText (1 : Int) (1 : Int) (0 : Int) (0 : Int)
                  (strs
                    [[C.str [(97 : UInt8), (98 : UInt8), (99 : UInt8)]], [C.str [(100 : UInt8), (101 : UInt8)]],
                      [C.str (List.replicate (Int.toNat (20 : Int)) (113 : UInt8))]]))
                ((IntKind.i64.wrap (IntKind.i64.wrap (dpAt r (0 : Nat) * (10000 : Int)) + dpAt r (1 : Nat))).tmod
                  (IntKind.i64.wrap
                    ((8 : Int) *
                      (↑(sealText (1 : Int) (1 : Int) (0 : Int) (0 : Int)
                              (strs
                                [[C.str [(97 : UInt8), (98 : UInt8), (99 : UInt8)]],
                                  [C.str [(100 : UInt8), (101 : UInt8)]],
                                  [C.str (List.replicate (Int.toNat (20 : Int)) (113 : UInt8))]])).length :
                        Int))))
                (IntKind.i64.wrap
                  ((1 : Int) +
                    IntKind.i64.wrap
                      ((2 : Int) *
                        IntKind.i64.wrap
                          (IntKind.i64.wrap
                              (IntKind.i64.wrap
                                  (IntKind.i64.wrap (dpAt r (2 : Nat) * (10000 : Int)) + dpAt r (3 : Nat)) *
                                (20 : Int)) +
                            (dpAt r (4 : Nat)).tmod (20 : Int)))))))).length :
      Int) =
    firstHit
      (sealText (1 : Int) (1 : Int) (0 : Int) (0 : Int)
        (strs
          [[C.str [(97 : UInt8), (98 : UInt8), (99 : UInt8)]], [C.str [(100 : UInt8), (101 : UInt8)]],
            [C.str (List.replicate (Int.toNat (20 : Int)) (113 : UInt8))]]))
      (firstOf
        (sealText (1 : Int) (1 : Int) (0 : Int) (0 : Int)
          (strs
            [[C.str [(97 : UInt8), (98 : UInt8), (99 : UInt8)]], [C.str [(100 : UInt8), (101 : UInt8)]],
              [C.str (List.replicate (Int.toNat (20 : Int)) (113 : UInt8))]]))
        (turnOf
          (sealText (1 : Int) (1 : Int) (0 : Int) (0 : Int)
            (strs
              [[C.str [(97 : UInt8), (98 : UInt8), (99 : UInt8)]], [C.str [(100 : UInt8), (101 : UInt8)]],
                [C.str (List.replicate (Int.toNat (20 : Int)) (113 : UInt8))]]))
          ((IntKind.i64.wrap (IntKind.i64.wrap (dpAt r (0 : Nat) * (10000 : Int)) + dpAt r (1 : Nat))).tmod
            (IntKind.i64.wrap
              ((8 : Int) *
                (↑(sealText (1 : Int) (1 : Int) (0 : Int) (0 : Int)
                        (strs
                          [[C.str [(97 : UInt8), (98 : UInt8), (99 : UInt8)]], [C.str [(100 : UInt8), (101 : UInt8)]],
                            [C.str (List.replicate (Int.toNat (20 : Int)) (113 : UInt8))]])).length :
                  Int))))
          (IntKind.i64.wrap
            ((1 : Int) +
              IntKind.i64.wrap
                ((2 : Int) *
                  IntKind.i64.wrap
                    (IntKind.i64.wrap
                        (IntKind.i64.wrap (IntKind.i64.wrap (dpAt r (2 : Nat) * (10000 : Int)) + dpAt r (3 : Nat)) *
                          (20 : Int)) +
                      (dpAt r (4 : Nat)).tmod (20 : Int)))))))
      (endOf
        (sealText (1 : Int) (1 : Int) (0 : Int) (0 : Int)
          (strs
            [[C.str [(97 : UInt8), (98 : UInt8), (99 : UInt8)]], [C.str [(100 : UInt8), (101 : UInt8)]],
              [C.str (List.replicate (Int.toNat (20 : Int)) (113 : UInt8))]]))
        (turnOf
          (sealText (1 : Int) (1 : Int) (0 : Int) (0 : Int)
            (strs
              [[C.str [(97 : UInt8), (98 : UInt8), (99 : UInt8)]], [C.str [(100 : UInt8), (101 : UInt8)]],
                [C.str (List.replicate (Int.toNat (20 : Int)) (113 : UInt8))]]))
          ((IntKind.i64.wrap (IntKind.i64.wrap (dpAt r (0 : Nat) * (10000 : Int)) + dpAt r (1 : Nat))).tmod
            (IntKind.i64.wrap
              ((8 : Int) *
                (↑(sealText (1 : Int) (1 : Int) (0 : Int) (0 : Int)
                        (strs
                          [[C.str [(97 : UInt8), (98 : UInt8), (99 : UInt8)]], [C.str [(100 : UInt8), (101 : UInt8)]],
                            [C.str (List.replicate (Int.toNat (20 : Int)) (113 : UInt8))]])).length :
                  Int))))
          (IntKind.i64.wrap
            ((1 : Int) +
              IntKind.i64.wrap
                ((2 : Int) *
                  IntKind.i64.wrap
                    (IntKind.i64.wrap
                        (IntKind.i64.wrap (IntKind.i64.wrap (dpAt r (2 : Nat) * (10000 : Int)) + dpAt r (3 : Nat)) *
                          (20 : Int)) +
                      (dpAt r (4 : Nat)).tmod (20 : Int)))))))))
                                   (.ret [C.bool true])
                                   (.ret [C.bool false])))))))))))))))))))))))))))
         (.ret [C.bool false]))))
      (.must (decide ((dhB r).length ≤ (1048576 : Nat)))
       (.must (decide ((0 : Nat) < (1 : Nat)) && true && true && true && true)
        (.ask (sizesHit (dhB r) (dhX r) (dhY r))
         (.ret [C.bool false])
         (.must (curOk r (0 : Int))
          (.must (true &&
        (decide ((0 : Nat) + (1 : Nat) = (1 : Nat)) &&
          (decide ((0 : Nat) + (1 : Nat) = (1 : Nat)) &&
            (decide ((0 : Nat) + (1 : Nat) = (1 : Nat)) &&
              (decide ((0 : Nat) + (1 : Nat) = (1 : Nat)) &&
                (decide ((0 : Nat) + (1 : Nat) = (1 : Nat)) &&
                  (decide ((0 : Nat) + (1 : Nat) = (1 : Nat)) &&
                    (decide ((0 : Nat) + (1 : Nat) = (1 : Nat)) &&
                      (decide ((0 : Nat) + (1 : Nat) = (1 : Nat)) &&
                        (decide ((0 : Nat) + (1 : Nat) = (1 : Nat)) &&
                          (decide ((0 : Nat) + (1 : Nat) = (1 : Nat)) &&
                            (decide ((0 : Nat) + (1 : Nat) = (1 : Nat)) &&
                              (decide ((0 : Nat) + (1 : Nat) = (1 : Nat)) && true)))))))))))) &&
      true &&
    true &&
  true)
           (.must (decide ((0 : Int) ≤ (0 : Int)) &&
  decide
    ((0 : Int) <
      (↑(((((((((((Nat.add (1 : Nat) (0 : Nat)).succ.add (0 : Nat)).succ.add (0 : Nat)).succ.add
                                                        (0 : Nat)).succ.add
                                                  (0 : Nat)).succ.add
                                            (0 : Nat)).succ.add
                                      (0 : Nat)).succ.add
                                (0 : Nat)).succ.add
                          (0 : Nat)).succ.add
                    (0 : Nat)).succ.add
              (0 : Nat)).succ :
        Int)))
            (.must (decide
    ((0 : Nat) + Int.toNat (0 : Int) <
      (((((((((((Nat.add (1 : Nat) (0 : Nat)).succ.add (0 : Nat)).succ.add (0 : Nat)).succ.add
                                                    (0 : Nat)).succ.add
                                              (0 : Nat)).succ.add
                                        (0 : Nat)).succ.add
                                  (0 : Nat)).succ.add
                            (0 : Nat)).succ.add
                      (0 : Nat)).succ.add
                (0 : Nat)).succ.add
          (0 : Nat)).succ) &&
  (decide ((0 : Nat) < (0 : Nat) + (1 : Nat)) && true && true))
             (.must (decide ((0 : Int) ≤ (1 : Int)) &&
  decide
    ((1 : Int) <
      (↑(((((((((((Nat.add (1 : Nat) (0 : Nat)).succ.add (0 : Nat)).succ.add (0 : Nat)).succ.add
                                                        (0 : Nat)).succ.add
                                                  (0 : Nat)).succ.add
                                            (0 : Nat)).succ.add
                                      (0 : Nat)).succ.add
                                (0 : Nat)).succ.add
                          (0 : Nat)).succ.add
                    (0 : Nat)).succ.add
              (0 : Nat)).succ :
        Int)))
              (.must (decide
    ((0 : Nat) + Int.toNat (1 : Int) <
      (((((((((((Nat.add (1 : Nat) (0 : Nat)).succ.add (0 : Nat)).succ.add (0 : Nat)).succ.add
                                                    (0 : Nat)).succ.add
                                              (0 : Nat)).succ.add
                                        (0 : Nat)).succ.add
                                  (0 : Nat)).succ.add
                            (0 : Nat)).succ.add
                      (0 : Nat)).succ.add
                (0 : Nat)).succ.add
          (0 : Nat)).succ) &&
  (decide ((0 : Nat) < (0 : Nat) + (1 : Nat)) && true && true))
               (.must (decide ((0 : Int) ≤ (2 : Int)) &&
  decide
    ((2 : Int) <
      (↑(((((((((((Nat.add (1 : Nat) (0 : Nat)).succ.add (0 : Nat)).succ.add (0 : Nat)).succ.add
                                                        (0 : Nat)).succ.add
                                                  (0 : Nat)).succ.add
                                            (0 : Nat)).succ.add
                                      (0 : Nat)).succ.add
                                (0 : Nat)).succ.add
                          (0 : Nat)).succ.add
                    (0 : Nat)).succ.add
              (0 : Nat)).succ :
        Int)))
                (.must (decide
    ((0 : Nat) + Int.toNat (2 : Int) <
      (((((((((((Nat.add (1 : Nat) (0 : Nat)).succ.add (0 : Nat)).succ.add (0 : Nat)).succ.add
                                                    (0 : Nat)).succ.add
                                              (0 : Nat)).succ.add
                                        (0 : Nat)).succ.add
                                  (0 : Nat)).succ.add
                            (0 : Nat)).succ.add
                      (0 : Nat)).succ.add
                (0 : Nat)).succ.add
          (0 : Nat)).succ) &&
  (decide ((0 : Nat) < (0 : Nat) + (1 : Nat)) && true && true))
                 (.must (decide ((0 : Int) ≤ (3 : Int)) &&
  decide
    ((3 : Int) <
      (↑(((((((((((Nat.add (1 : Nat) (0 : Nat)).succ.add (0 : Nat)).succ.add (0 : Nat)).succ.add
                                                        (0 : Nat)).succ.add
                                                  (0 : Nat)).succ.add
                                            (0 : Nat)).succ.add
                                      (0 : Nat)).succ.add
                                (0 : Nat)).succ.add
                          (0 : Nat)).succ.add
                    (0 : Nat)).succ.add
              (0 : Nat)).succ :
        Int)))
                  (.must (decide
    ((0 : Nat) + Int.toNat (3 : Int) <
      (((((((((((Nat.add (1 : Nat) (0 : Nat)).succ.add (0 : Nat)).succ.add (0 : Nat)).succ.add
                                                    (0 : Nat)).succ.add
                                              (0 : Nat)).succ.add
                                        (0 : Nat)).succ.add
                                  (0 : Nat)).succ.add
                            (0 : Nat)).succ.add
                      (0 : Nat)).succ.add
                (0 : Nat)).succ.add
          (0 : Nat)).succ) &&
  (decide ((0 : Nat) < (0 : Nat) + (1 : Nat)) && true && true))
                   (.must (decide ((0 : Int) ≤ (4 : Int)) &&
  decide
    ((4 : Int) <
      (↑(((((((((((Nat.add (1 : Nat) (0 : Nat)).succ.add (0 : Nat)).succ.add (0 : Nat)).succ.add
                                                        (0 : Nat)).succ.add
                                                  (0 : Nat)).succ.add
                                            (0 : Nat)).succ.add
                                      (0 : Nat)).succ.add
                                (0 : Nat)).succ.add
                          (0 : Nat)).succ.add
                    (0 : Nat)).succ.add
              (0 : Nat)).succ :
        Int)))
                    (.must (decide
    ((0 : Nat) + Int.toNat (4 : Int) <
      (((((((((((Nat.add (1 : Nat) (0 : Nat)).succ.add (0 : Nat)).succ.add (0 : Nat)).succ.add
                                                    (0 : Nat)).succ.add
                                              (0 : Nat)).succ.add
                                        (0 : Nat)).succ.add
                                  (0 : Nat)).succ.add
                            (0 : Nat)).succ.add
                      (0 : Nat)).succ.add
                (0 : Nat)).succ.add
          (0 : Nat)).succ) &&
  (decide ((0 : Nat) < (0 : Nat) + (1 : Nat)) && true && true))
                     (.must (decide
      ((sealText (1 : Int) (1 : Int) (0 : Int) (0 : Int)
            (strs
              [[C.str [(97 : UInt8), (98 : UInt8), (99 : UInt8)]], [C.str [(100 : UInt8), (101 : UInt8)]],
                [C.str (List.replicate (Int.toNat (20 : Int)) (113 : UInt8))]])).length ≤
        (1048576 : Nat)) &&
    decide
      ((-9223372036854775808 : Int) ≤
        (IntKind.i64.wrap (IntKind.i64.wrap (dpAt r (0 : Nat) * (10000 : Int)) + dpAt r (1 : Nat))).tmod
          (IntKind.i64.wrap
            ((8 : Int) *
              (↑(sealText (1 : Int) (1 : Int) (0 : Int) (0 : Int)
                      (strs
                        [[C.str [(97 : UInt8), (98 : UInt8), (99 : UInt8)]], [C.str [(100 : UInt8), (101 : UInt8)]],
                          [C.str (List.replicate (Int.toNat (20 : Int)) (113 : UInt8))]])).length :
                Int)))) &&
  decide
    ((IntKind.i64.wrap (IntKind.i64.wrap (dpAt r (0 : Nat) * (10000 : Int)) + dpAt r (1 : Nat))).tmod
        (IntKind.i64.wrap
          ((8 : Int) *
            (↑(sealText (1 : Int) (1 : Int) (0 : Int) (0 : Int)
                    (strs
                      [[C.str [(97 : UInt8), (98 : UInt8), (99 : UInt8)]], [C.str [(100 : UInt8), (101 : UInt8)]],
                        [C.str (List.replicate (Int.toNat (20 : Int)) (113 : UInt8))]])).length :
              Int))) ≤
      (9223372036854775807 : Int)))
                      (.must (decide ((0 : Nat) < (1 : Nat)) && true && true && true && true)
                       (.must (decide
    ((sealText (1 : Int) (1 : Int) (0 : Int) (0 : Int)
          (strs
            [[C.str [(97 : UInt8), (98 : UInt8), (99 : UInt8)]], [C.str [(100 : UInt8), (101 : UInt8)]],
              [C.str (List.replicate (Int.toNat (20 : Int)) (113 : UInt8))]])).length ≤
      (1048576 : Nat)) &&
  decide
    ((turnOf
          (sealText (1 : Int) (1 : Int) (0 : Int) (0 : Int)
            (strs
              [[C.str [(97 : UInt8), (98 : UInt8), (99 : UInt8)]], [C.str [(100 : UInt8), (101 : UInt8)]],
                [C.str (List.replicate (Int.toNat (20 : Int)) (113 : UInt8))]]))
          ((IntKind.i64.wrap (IntKind.i64.wrap (dpAt r (0 : Nat) * (10000 : Int)) + dpAt r (1 : Nat))).tmod
            (IntKind.i64.wrap
              ((8 : Int) *
                (↑(sealText (1 : Int) (1 : Int) (0 : Int) (0 : Int)
                        (strs
                          [[C.str [(97 : UInt8), (98 : UInt8), (99 : UInt8)]], [C.str [(100 : UInt8), (101 : UInt8)]],
                            [C.str (List.replicate (Int.toNat (20 : Int)) (113 : UInt8))]])).length :
                  Int))))
          (IntKind.i64.wrap
            ((1 : Int) +
              IntKind.i64.wrap
                ((2 : Int) *
                  IntKind.i64.wrap
                    (IntKind.i64.wrap
                        (IntKind.i64.wrap (IntKind.i64.wrap (dpAt r (2 : Nat) * (10000 : Int)) + dpAt r (3 : Nat)) *
                          (20 : Int)) +
                      (dpAt r (4 : Nat)).tmod (20 : Int)))))).length ≤
      (1048576 : Nat)))
                        (.must (decide ((0 : Nat) < (1 : Nat)) && true && true && true && true)
                         (.must (decide
    ((sealText (1 : Int) (1 : Int) (0 : Int) (0 : Int)
          (strs
            [[C.str [(97 : UInt8), (98 : UInt8), (99 : UInt8)]], [C.str [(100 : UInt8), (101 : UInt8)]],
              [C.str (List.replicate (Int.toNat (20 : Int)) (113 : UInt8))]])).length ≤
      (1048576 : Nat)) &&
  decide
    ((turnOf
          (sealText (1 : Int) (1 : Int) (0 : Int) (0 : Int)
            (strs
              [[C.str [(97 : UInt8), (98 : UInt8), (99 : UInt8)]], [C.str [(100 : UInt8), (101 : UInt8)]],
                [C.str (List.replicate (Int.toNat (20 : Int)) (113 : UInt8))]]))
          ((IntKind.i64.wrap (IntKind.i64.wrap (dpAt r (0 : Nat) * (10000 : Int)) + dpAt r (1 : Nat))).tmod
            (IntKind.i64.wrap
              ((8 : Int) *
                (↑(sealText (1 : Int) (1 : Int) (0 : Int) (0 : Int)
                        (strs
                          [[C.str [(97 : UInt8), (98 : UInt8), (99 : UInt8)]], [C.str [(100 : UInt8), (101 : UInt8)]],
                            [C.str (List.replicate (Int.toNat (20 : Int)) (113 : UInt8))]])).length :
                  Int))))
          (IntKind.i64.wrap
            ((1 : Int) +
              IntKind.i64.wrap
                ((2 : Int) *
                  IntKind.i64.wrap
                    (IntKind.i64.wrap
                        (IntKind.i64.wrap (IntKind.i64.wrap (dpAt r (2 : Nat) * (10000 : Int)) + dpAt r (3 : Nat)) *
                          (20 : Int)) +
                      (dpAt r (4 : Nat)).tmod (20 : Int)))))).length ≤
      (1048576 : Nat)))
                          (.must (decide ((0 : Nat) < (1 : Nat)) && true && true && true && true)
                           (.must (decide ((0 : Nat) < (1 : Nat)) && true && true && true && true)
                            (.ask (sizesHit
  (sealText (1 : Int) (1 : Int) (0 : Int) (0 : Int)
    (strs
      [[C.str [(97 : UInt8), (98 : UInt8), (99 : UInt8)]], [C.str [(100 : UInt8), (101 : UInt8)]],
        [C.str (List.replicate (Int.toNat (20 : Int)) (113 : UInt8))]]))
  (firstOf
    (sealText (1 : Int) (1 : Int) (0 : Int) (0 : Int)
      (strs
        [[C.str [(97 : UInt8), (98 : UInt8), (99 : UInt8)]], [C.str [(100 : UInt8), (101 : UInt8)]],
          [C.str (List.replicate (Int.toNat (20 : Int)) (113 : UInt8))]]))
    (turnOf
      (sealText (1 : Int) (1 : Int) (0 : Int) (0 : Int)
        (strs
          [[C.str [(97 : UInt8), (98 : UInt8), (99 : UInt8)]], [C.str [(100 : UInt8), (101 : UInt8)]],
            [C.str (List.replicate (Int.toNat (20 : Int)) (113 : UInt8))]]))
      ((IntKind.i64.wrap (IntKind.i64.wrap (dpAt r (0 : Nat) * (10000 : Int)) + dpAt r (1 : Nat))).tmod
        (IntKind.i64.wrap
          ((8 : Int) *
            (↑(sealText (1 : Int) (1 : Int) (0 : Int) (0 : Int)
                    (strs
                      [[C.str [(97 : UInt8), (98 : UInt8), (99 : UInt8)]], [C.str [(100 : UInt8), (101 : UInt8)]],
                        [C.str (List.replicate (Int.toNat (20 : Int)) (113 : UInt8))]])).length :
              Int))))
      (IntKind.i64.wrap
        ((1 : Int) +
          IntKind.i64.wrap
            ((2 : Int) *
              IntKind.i64.wrap
                (IntKind.i64.wrap
                    (IntKind.i64.wrap (IntKind.i64.wrap (dpAt r (2 : Nat) * (10000 : Int)) + dpAt r (3 : Nat)) *
                      (20 : Int)) +
                  (dpAt r (4 : Nat)).tmod (20 : Int)))))))
  (endOf
    (sealText (1 : Int) (1 : Int) (0 : Int) (0 : Int)
      (strs
        [[C.str [(97 : UInt8), (98 : UInt8), (99 : UInt8)]], [C.str [(100 : UInt8), (101 : UInt8)]],
          [C.str (List.replicate (Int.toNat (20 : Int)) (113 : UInt8))]]))
    (turnOf
      (sealText (1 : Int) (1 : Int) (0 : Int) (0 : Int)
        (strs
          [[C.str [(97 : UInt8), (98 : UInt8), (99 : UInt8)]], [C.str [(100 : UInt8), (101 : UInt8)]],
            [C.str (List.replicate (Int.toNat (20 : Int)) (113 : UInt8))]]))
      ((IntKind.i64.wrap (IntKind.i64.wrap (dpAt r (0 : Nat) * (10000 : Int)) + dpAt r (1 : Nat))).tmod
        (IntKind.i64.wrap
          ((8 : Int) *
            (↑(sealText (1 : Int) (1 : Int) (0 : Int) (0 : Int)
                    (strs
                      [[C.str [(97 : UInt8), (98 : UInt8), (99 : UInt8)]], [C.str [(100 : UInt8), (101 : UInt8)]],
                        [C.str (List.replicate (Int.toNat (20 : Int)) (113 : UInt8))]])).length :
              Int))))
      (IntKind.i64.wrap
        ((1 : Int) +
          IntKind.i64.wrap
            ((2 : Int) *
              IntKind.i64.wrap
                (IntKind.i64.wrap
                    (IntKind.i64.wrap (IntKind.i64.wrap (dpAt r (2 : Nat) * (10000 : Int)) + dpAt r (3 : Nat)) *
                      (20 : Int)) +
                  (dpAt r (4 : Nat)).tmod (20 : Int))))))))
                             (.ask (decide
  (firstOf
      (sealText (1 : Int) (1 : Int) (0 : Int) (0 : Int)
        (strs
          [[C.str [(97 : UInt8), (98 : UInt8), (99 : UInt8)]], [C.str [(100 : UInt8), (101 : UInt8)]],
            [C.str (List.replicate (Int.toNat (20 : Int)) (113 : UInt8))]]))
      (turnOf
        (sealText (1 : Int) (1 : Int) (0 : Int) (0 : Int)
          (strs
            [[C.str [(97 : UInt8), (98 : UInt8), (99 : UInt8)]], [C.str [(100 : UInt8), (101 : UInt8)]],
              [C.str (List.replicate (Int.toNat (20 : Int)) (113 : UInt8))]]))
        ((IntKind.i64.wrap (IntKind.i64.wrap (dpAt r (0 : Nat) * (10000 : Int)) + dpAt r (1 : Nat))).tmod
          (IntKind.i64.wrap
            ((8 : Int) *
              (↑(sealText (1 : Int) (1 : Int) (0 : Int) (0 : Int)
                      (strs
                        [[C.str [(97 : UInt8), (98 : UInt8), (99 : UInt8)]], [C.str [(100 : UInt8), (101 : UInt8)]],
                          [C.str (List.replicate (Int.toNat (20 : Int)) (113 : UInt8))]])).length :
                Int))))
        (IntKind.i64.wrap
          ((1 : Int) +
            IntKind.i64.wrap
              ((2 : Int) *
                IntKind.i64.wrap
                  (IntKind.i64.wrap
                      (IntKind.i64.wrap (IntKind.i64.wrap (dpAt r (2 : Nat) * (10000 : Int)) + dpAt r (3 : Nat)) *
                        (20 : Int)) +
                    (dpAt r (4 : Nat)).tmod (20 : Int)))))) <
    (100 : Int)))
                              (.ret [C.bool true])
                              (.ret [C.bool false]))
                             (.ask (decide
  (firstOf
      (sealText (1 : Int) (1 : Int) (0 : Int) (0 : Int)
        (strs
          [[C.str [(97 : UInt8), (98 : UInt8), (99 : UInt8)]], [C.str [(100 : UInt8), (101 : UInt8)]],
            [C.str (List.replicate (Int.toNat (20 : Int)) (113 : UInt8))]]))
      (turnOf
        (sealText (1 : Int) (1 : Int) (0 : Int) (0 : Int)
          (strs
            [[C.str [(97 : UInt8), (98 : UInt8), (99 : UInt8)]], [C.str [(100 : UInt8), (101 : UInt8)]],
              [C.str (List.replicate (Int.toNat (20 : Int)) (113 : UInt8))]]))
        ((IntKind.i64.wrap (IntKind.i64.wrap (dpAt r (0 : Nat) * (10000 : Int)) + dpAt r (1 : Nat))).tmod
          (IntKind.i64.wrap
            ((8 : Int) *
              (↑(sealText (1 : Int) (1 : Int) (0 : Int) (0 : Int)
                      (strs
                        [[C.str [(97 : UInt8), (98 : UInt8), (99 : UInt8)]], [C.str [(100 : UInt8), (101 : UInt8)]],
                          [C.str (List.replicate (Int.toNat (20 : Int)) (113 : UInt8))]])).length :
                Int))))
        (IntKind.i64.wrap
          ((1 : Int) +
            IntKind.i64.wrap
              ((2 : Int) *
                IntKind.i64.wrap
                  (IntKind.i64.wrap
                      (IntKind.i64.wrap (IntKind.i64.wrap (dpAt r (2 : Nat) * (10000 : Int)) + dpAt r (3 : Nat)) *
                        (20 : Int)) +
                    (dpAt r (4 : Nat)).tmod (20 : Int)))))) <
    (24 : Int)))
                              (.ret [C.bool true])
                              (.ask (decide
  ((64 : Int) <
    endOf
      (sealText (1 : Int) (1 : Int) (0 : Int) (0 : Int)
        (strs
          [[C.str [(97 : UInt8), (98 : UInt8), (99 : UInt8)]], [C.str [(100 : UInt8), (101 : UInt8)]],
            [C.str (List.replicate (Int.toNat (20 : Int)) (113 : UInt8))]]))
      (turnOf
        (sealText (1 : Int) (1 : Int) (0 : Int) (0 : Int)
          (strs
            [[C.str [(97 : UInt8), (98 : UInt8), (99 : UInt8)]], [C.str [(100 : UInt8), (101 : UInt8)]],
              [C.str (List.replicate (Int.toNat (20 : Int)) (113 : UInt8))]]))
        ((IntKind.i64.wrap (IntKind.i64.wrap (dpAt r (0 : Nat) * (10000 : Int)) + dpAt r (1 : Nat))).tmod
          (IntKind.i64.wrap
            ((8 : Int) *
              (↑(sealText (1 : Int) (1 : Int) (0 : Int) (0 : Int)
                      (strs
                        [[C.str [(97 : UInt8), (98 : UInt8), (99 : UInt8)]], [C.str [(100 : UInt8), (101 : UInt8)]],
                          [C.str (List.replicate (Int.toNat (20 : Int)) (113 : UInt8))]])).length :
                Int))))
        (IntKind.i64.wrap
          ((1 : Int) +
            IntKind.i64.wrap
              ((2 : Int) *
                IntKind.i64.wrap
                  (IntKind.i64.wrap
                      (IntKind.i64.wrap (IntKind.i64.wrap (dpAt r (2 : Nat) * (10000 : Int)) + dpAt r (3 : Nat)) *
                        (20 : Int)) +
                    (dpAt r (4 : Nat)).tmod (20 : Int))))))))
                               (.ret [C.bool true])
                               (.must (decide
  ((turnOf
        (sealText (1 : Int) (1 : Int) (0 : Int) (0 : Int)
          (strs
            [[C.str [(97 : UInt8), (98 : UInt8), (99 : UInt8)]], [C.str [(100 : UInt8), (101 : UInt8)]],
              [C.str (List.replicate (Int.toNat (20 : Int)) (113 : UInt8))]]))
        ((IntKind.i64.wrap (IntKind.i64.wrap (dpAt r (0 : Nat) * (10000 : Int)) + dpAt r (1 : Nat))).tmod
          (IntKind.i64.wrap
            ((8 : Int) *
              (↑(sealText (1 : Int) (1 : Int) (0 : Int) (0 : Int)
                      (strs
                        [[C.str [(97 : UInt8), (98 : UInt8), (99 : UInt8)]], [C.str [(100 : UInt8), (101 : UInt8)]],
                          [C.str (List.replicate (Int.toNat (20 : Int)) (113 : UInt8))]])).length :
                Int))))
        (IntKind.i64.wrap
          ((1 : Int) +
            IntKind.i64.wrap
              ((2 : Int) *
                IntKind.i64.wrap
                  (IntKind.i64.wrap
                      (IntKind.i64.wrap (IntKind.i64.wrap (dpAt r (2 : Nat) * (10000 : Int)) + dpAt r (3 : Nat)) *
                        (20 : Int)) +
                    (dpAt r (4 : Nat)).tmod (20 : Int)))))).length ≤
    (1048576 : Nat)))
                                (.must ((true &&
        (List.map eStr
              (scRecs
                (turnOf
                  (sealText (1 : Int) (1 : Int) (0 : Int) (0 : Int)
                    (strs
                      [[C.str [(97 : UInt8), (98 : UInt8), (99 : UInt8)]], [C.str [(100 : UInt8), (101 : UInt8)]],
                        [C.str (List.replicate (Int.toNat (20 : Int)) (113 : UInt8))]]))
                  ((IntKind.i64.wrap (IntKind.i64.wrap (dpAt r (0 : Nat) * (10000 : Int)) + dpAt r (1 : Nat))).tmod
                    (IntKind.i64.wrap
                      ((8 : Int) *
                        (↑(sealText (1 : Int) (1 : Int) (0 : Int) (0 : Int)
                                (strs
                                  [[C.str [(97 : UInt8), (98 : UInt8), (99 : UInt8)]],
                                    [C.str [(100 : UInt8), (101 : UInt8)]],
                                    [C.str (List.replicate (Int.toNat (20 : Int)) (113 : UInt8))]])).length :
                          Int))))
                  (IntKind.i64.wrap
                    ((1 : Int) +
                      IntKind.i64.wrap
                        ((2 : Int) *
                          IntKind.i64.wrap
                            (IntKind.i64.wrap
                                (IntKind.i64.wrap
                                    (IntKind.i64.wrap (dpAt r (2 : Nat) * (10000 : Int)) + dpAt r (3 : Nat)) *
                                  (20 : Int)) +
                              (dpAt r (4 : Nat)).tmod (20 : Int)))))))).all
          fun row => decide (row.length = (1 : Nat))) &&
      true &&
    true &&
  true)
                                 (.must (decide ((0 : Nat) < (1 : Nat)) && true && true && true && true)
                                  (.ask (decide
  ((↑(List.map eStr
            (scRecs
              (turnOf
                (sealText (1 : Int) (1 : Int) (0 : Int) (0 : Int)
                  (strs
                    [[C.str [(97 : UInt8), (98 : UInt8), (99 : UInt8)]], [C.str [(100 : UInt8), (101 : UInt8)]],
                      [C.str (List.replicate (Int.toNat (20 : Int)) (113 : UInt8))]]))
                ((IntKind.i64.wrap (IntKind.i64.wrap (dpAt r (0 : Nat) * (10000 : Int)) + dpAt r (1 : Nat))).tmod
                  (IntKind.i64.wrap
                    ((8 : Int) *
                      (↑(sealText (1 : Int) (1 : Int) (0 : Int) (0 : Int)
                              (strs
                                [[C.str [(97 : UInt8), (98 : UInt8), (99 : UInt8)]],
                                  [C.str [(100 : UInt8), (101 : UInt8)]],
                                  [C.str (List.replicate (Int.toNat (20 : Int)) (113 : UInt8))]])).length :
                        Int))))
                (IntKind.i64.wrap
                  ((1 : Int) +
                    IntKind.i64.wrap
                      ((2 : Int) *
                        IntKind.i64.wrap
                          (IntKind.i64.wrap
                              (IntKind.i64.wrap
                                  (IntKind.i64.wrap (dpAt r (2 : Nat) * (10000 : Int)) + dpAt r (3 : Nat)) *
                                (20 : Int)) +
                            (dpAt r (4 : Nat)).tmod (20 : Int)))))))).length :
      Int) =
    firstHit
      (sealText (1 : Int) (1 : Int) (0 : Int) (0 : Int)
        (strs
          [[C.str [(97 : UInt8), (98 : UInt8), (99 : UInt8)]], [C.str [(100 : UInt8), (101 : UInt8)]],
            [C.str (List.replicate (Int.toNat (20 : Int)) (113 : UInt8))]]))
      (firstOf
        (sealText (1 : Int) (1 : Int) (0 : Int) (0 : Int)
          (strs
            [[C.str [(97 : UInt8), (98 : UInt8), (99 : UInt8)]], [C.str [(100 : UInt8), (101 : UInt8)]],
              [C.str (List.replicate (Int.toNat (20 : Int)) (113 : UInt8))]]))
        (turnOf
          (sealText (1 : Int) (1 : Int) (0 : Int) (0 : Int)
            (strs
              [[C.str [(97 : UInt8), (98 : UInt8), (99 : UInt8)]], [C.str [(100 : UInt8), (101 : UInt8)]],
                [C.str (List.replicate (Int.toNat (20 : Int)) (113 : UInt8))]]))
          ((IntKind.i64.wrap (IntKind.i64.wrap (dpAt r (0 : Nat) * (10000 : Int)) + dpAt r (1 : Nat))).tmod
            (IntKind.i64.wrap
              ((8 : Int) *
                (↑(sealText (1 : Int) (1 : Int) (0 : Int) (0 : Int)
                        (strs
                          [[C.str [(97 : UInt8), (98 : UInt8), (99 : UInt8)]], [C.str [(100 : UInt8), (101 : UInt8)]],
                            [C.str (List.replicate (Int.toNat (20 : Int)) (113 : UInt8))]])).length :
                  Int))))
          (IntKind.i64.wrap
            ((1 : Int) +
              IntKind.i64.wrap
                ((2 : Int) *
                  IntKind.i64.wrap
                    (IntKind.i64.wrap
                        (IntKind.i64.wrap (IntKind.i64.wrap (dpAt r (2 : Nat) * (10000 : Int)) + dpAt r (3 : Nat)) *
                          (20 : Int)) +
                      (dpAt r (4 : Nat)).tmod (20 : Int)))))))
      (endOf
        (sealText (1 : Int) (1 : Int) (0 : Int) (0 : Int)
          (strs
            [[C.str [(97 : UInt8), (98 : UInt8), (99 : UInt8)]], [C.str [(100 : UInt8), (101 : UInt8)]],
              [C.str (List.replicate (Int.toNat (20 : Int)) (113 : UInt8))]]))
        (turnOf
          (sealText (1 : Int) (1 : Int) (0 : Int) (0 : Int)
            (strs
              [[C.str [(97 : UInt8), (98 : UInt8), (99 : UInt8)]], [C.str [(100 : UInt8), (101 : UInt8)]],
                [C.str (List.replicate (Int.toNat (20 : Int)) (113 : UInt8))]]))
          ((IntKind.i64.wrap (IntKind.i64.wrap (dpAt r (0 : Nat) * (10000 : Int)) + dpAt r (1 : Nat))).tmod
            (IntKind.i64.wrap
              ((8 : Int) *
                (↑(sealText (1 : Int) (1 : Int) (0 : Int) (0 : Int)
                        (strs
                          [[C.str [(97 : UInt8), (98 : UInt8), (99 : UInt8)]], [C.str [(100 : UInt8), (101 : UInt8)]],
                            [C.str (List.replicate (Int.toNat (20 : Int)) (113 : UInt8))]])).length :
                  Int))))
          (IntKind.i64.wrap
            ((1 : Int) +
              IntKind.i64.wrap
                ((2 : Int) *
                  IntKind.i64.wrap
                    (IntKind.i64.wrap
                        (IntKind.i64.wrap (IntKind.i64.wrap (dpAt r (2 : Nat) * (10000 : Int)) + dpAt r (3 : Nat)) *
                          (20 : Int)) +
                      (dpAt r (4 : Nat)).tmod (20 : Int)))))))))
                                   (.ret [C.bool true])
                                   (.ret [C.bool false])))))))))))))))))))))))))))))))))))) : T (List C)).eval := evalEq (by kernel_rfl)
end Go.Proofs.Ythpcgbnochcbcaa.V

namespace Go.Proofs.Ythpcgbnochcbcaa.V

theorem sRecsIn_E : EnvSound Try.prog E_sRecsIn := mkE_sound (by simp [sScanText_sound])
theorem sRecsIn_sound : Sound Try.prog 56 (sg [pS] [rSl 9]) recsInSpec := vBody_sound sRecsIn_E noInl_ok Try.func56 (by kernel_rfl) fun cs outs hk h => by
  unfold recsInSpec at h
  split at h
  · simp only [Option.some.injEq, Prod.mk.injEq, decide_eq_true_eq] at h
    obtain ⟨h1, rfl⟩ := h
    rename_i b
    rw [vBody_L, sRecsIn_tree]
    have d1 : decide (0 < 1) = true := by decide
    simp only [eval_must', eval_ret', h1, d1, len1_str, len1_int, flat_strs, decide_true, Bool.and_self, Bool.or_true, if_true]
  · cases h

theorem lFnBurstsOld_E : EnvSound Try.prog E_lFnBurstsOld := mkE_sound (by simp [sTurnBits_sound, sChangeEnd_sound, sFirstChange_sound, lBig_sound, iFirstHit_sound, sSizesHit_sound, iSizesHit_sound, sSeal_sound, sDrawPlaces_sound, lMany_sound, sDrawSizesHit_sound, sRecsIn_sound])
theorem lFnBurstsOld_sound : Sound Try.prog 9 (sg [pCode] [rB]) codeLaw := vBody_sound lFnBurstsOld_E noInl_ok Try.func9 (by kernel_rfl) fun cs outs hk h => by
  unfold codeLaw at h
  split at h
  · simp only [Option.some.injEq, Prod.mk.injEq] at h
    obtain ⟨h1, rfl⟩ := h
    rename_i rows
    rw [vBody_L, lFnBurstsOld_tree]
    by_cases hb : 1048576 < rows.length
    · exact ask_yes (decide_eq_true hb) rfl
    · have hok : curOk rows 0 = true := (curOk_iff rows 0).2 ⟨h1, by omega, by omega, by omega⟩
      have l0 : (dhB rows).length ≤ 120005 := fileT_le rows 0 (newH rows)
      have l1 : decide ((dhB rows).length ≤ 1048576) = true := decide_eq_true (by omega)
      refine ask_no (decide_eq_false hb) (must_go hok (must_go rfl (must_go l1 (must_go rfl ?_))))
      have es : sealText 1 1 0 0 (strs [[C.str [97, 98, 99]], [C.str [100, 101]], [C.str (List.replicate (Int.toNat 20) 113)]]) = tABC := tABC_eq
      have r0 := dp_range rows 0
      have r1 := dp_range rows 1
      have w0 : IntKind.i64.wrap (dpAt rows 0 * 10000) = dpAt rows 0 * 10000 := by rw [wrap64] <;> omega
      have w1 : IntKind.i64.wrap (dpAt rows 0 * 10000 + dpAt rows 1) = dpAt rows 0 * 10000 + dpAt rows 1 := by rw [wrap64] <;> omega
      have w8 : IntKind.i64.wrap (8 * (tABC.length : Int)) = 768 := by rw [tABC_len]; rfl
      have t0 : (dpAt rows 0 * 10000 + dpAt rows 1).tmod 768 = (dpAt rows 0 * 10000 + dpAt rows 1) % 768 := Int.tmod_eq_emod_of_nonneg (by omega)
      simp only [es, w0, w1, w8, t0, dp_bits]
      have m1 : 0 ≤ (dpAt rows 0 * 10000 + dpAt rows 1) % 768 := by omega
      have m2 : (dpAt rows 0 * 10000 + dpAt rows 1) % 768 < 768 := by omega
      generalize (dpAt rows 0 * 10000 + dpAt rows 1) % 768 = a at m1 m2 ⊢
      have hm : (1 + 2 * ((dpAt rows 2 * 10000 + dpAt rows 3) * 20 + dpAt rows 4 % 20)) % 2 = 1 := by omega
      generalize 1 + 2 * ((dpAt rows 2 * 10000 + dpAt rows 3) * 20 + dpAt rows 4 % 20) = m at hm ⊢
      have ul : (turnOf tABC a m).length = 96 := by rw [turnOf_len]; exact tABC_len
      obtain ⟨f1, f2⟩ := first_turn tABC a m m1 (by rw [tABC_len]; omega) hm
      have ob := old_bent a m m1 m2 hm (firstOf tABC (turnOf tABC a m)) (endOf tABC (turnOf tABC a m)) f1 f2
      have rl := recs_len (turnOf tABC a m)
      generalize turnOf tABC a m = u at ul f1 f2 ob rl ⊢
      have q1 : (decide (tABC.length ≤ 1048576) && decide (-9223372036854775808 ≤ a) && decide (a ≤ 9223372036854775807)) = true := by
        rw [tABC_len, decide_eq_true (show -9223372036854775808 ≤ a by omega), decide_eq_true (show a ≤ 9223372036854775807 by omega)]; rfl
      have q2 : (decide (tABC.length ≤ 1048576) && decide (u.length ≤ 1048576)) = true := by rw [tABC_len, ul]; rfl
      have q3 : decide (u.length ≤ 1048576) = true := by rw [ul]; rfl
      have q4 : ((true && (List.map eStr (scRecs u)).all fun row => decide (row.length = 1)) && true && true && true) = true := by rw [len1_str]; rfl
      have htail : (T.ask (sizesHit tABC (firstOf tABC u) (endOf tABC u)) (T.ask (decide (firstOf tABC u < 100)) (.ret [C.bool true]) (.ret [C.bool false])) (T.ask (decide (firstOf tABC u < 24)) (.ret [C.bool true]) (T.ask (decide (64 < endOf tABC u)) (.ret [C.bool true]) (T.must (decide (u.length ≤ 1048576)) (T.must ((true && (List.map eStr (scRecs u)).all fun row => decide (row.length = 1)) && true && true && true) (T.must (decide (0 < 1) && true && true && true && true) (T.ask (decide (((List.map eStr (scRecs u)).length : Int) = firstHit tABC (firstOf tABC u) (endOf tABC u))) (.ret [C.bool true]) (.ret [C.bool false])))))))).eval = some [C.bool true] := by
        cases hs : sizesHit tABC (firstOf tABC u) (endOf tABC u) with
        | true => exact ask_yes rfl (ask_yes (decide_eq_true (by omega)) rfl)
        | false =>
          refine ask_no rfl ?_
          by_cases c1 : firstOf tABC u < 24
          · exact ask_yes (decide_eq_true c1) rfl
          · by_cases c2 : 64 < endOf tABC u
            · exact ask_no (decide_eq_false c1) (ask_yes (decide_eq_true c2) rfl)
            · refine ask_no (decide_eq_false c1) (ask_no (decide_eq_false c2) (must_go q3 (must_go q4 (must_go rfl (ask_yes (decide_eq_true ?_) rfl)))))
              rw [List.length_map]
              exact ob hs c1 c2
      cases sizesHit (dhB rows) (dhX rows) (dhY rows) with
      | true =>
        refine ask_yes rfl (must_go l1 (must_go rfl (ask_yes rfl ?_)))
        refine must_go hok (must_go rfl (must_go rfl (must_go rfl (must_go rfl (must_go rfl (must_go rfl (must_go rfl (must_go rfl (must_go rfl (must_go rfl (must_go rfl (must_go q1 (must_go rfl (must_go q2 (must_go rfl (must_go q2 (must_go rfl (must_go rfl htail))))))))))))))))))
      | false =>
        refine ask_no rfl (must_go l1 (must_go rfl (ask_no rfl ?_)))
        refine must_go hok (must_go rfl (must_go rfl (must_go rfl (must_go rfl (must_go rfl (must_go rfl (must_go rfl (must_go rfl (must_go rfl (must_go rfl (must_go rfl (must_go q1 (must_go rfl (must_go q2 (must_go rfl (must_go q2 (must_go rfl (must_go rfl htail))))))))))))))))))
  · cases h

end Go.Proofs.Ythpcgbnochcbcaa.V
