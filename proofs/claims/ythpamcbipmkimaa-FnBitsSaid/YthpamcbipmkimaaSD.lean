/- Functions of the given program and of its reference: what each returns, as an equation over data; by the interpreter. -/
import Derived.Test.YthpamcbipmkimaaS
import Derived.Test.YthpamcbipmkimaaProg
import Derived.KernelRfl
set_option linter.unusedVariables false
set_option linter.unusedSimpArgs false
set_option linter.unusedSectionVars false
set_option linter.deprecated false
namespace Go.Proofs.Ythpamcbipmkimaa.V
noncomputable section

/-- the drawing cursor: bytes, place, state -/
def curH (h : Int) : Int := IntKind.i64.wrap (IntKind.i64.wrap (h * 6364136223846793005) + 1442695040888963407)
def curX (h : Int) : Int := iand .i64 (ixor .i64 (ishr .i64 (curH h) 33) (ishr .i64 (curH h) 45)) 255
def rowByte (r : List C) : Int := (r.getD 0 (.fn 0 [])).toInt
def curByte (rows : List (List C)) (i h : Int) : Int := if i < rows.length then iand .i64 (IntKind.i64.wrap (curX h + IntKind.i64.wrap (rowByte (rows.getD i.toNat [])))) 255 else curX h
def curI (rows : List (List C)) (i : Int) : Int := if i < rows.length then i + 1 else i
def curOk (rows : List (List C)) (i : Int) : Bool := rowsOk [.int .u8] rows && (decide (rows.length ≤ 1048576) && (decide (0 ≤ i) && decide (i ≤ rows.length)))
def pCur : PTy := .box [.slice 5, .int .i64, .int .i64]
def byteSpec : Spec := fun cs => match cs with
  | [.sl rows, .int .i64 i, .int .i64 h] => some (curOk rows i, [.int .i64 (curByte rows i h), .sl rows, .int .i64 (curI rows i), .int .i64 (curH h)])
  | _ => none
def E_sByte : Env := mkE [] []

def below (rows : List (List C)) (i h n : Int) : Int :=
  if n ≤ 0 then 0 else if n ≤ 256 then (curByte rows i h).tmod n
  else (curByte rows i h * 16777216 + curByte rows (curI rows i) (curH h) * 65536 + curByte rows (curI rows (curI rows i)) (curH (curH h)) * 256 + curByte rows (curI rows (curI rows (curI rows i))) (curH (curH (curH h)))).tmod n
def belowI (rows : List (List C)) (i n : Int) : Int := if n ≤ 0 then i else if n ≤ 256 then curI rows i else curI rows (curI rows (curI rows (curI rows i)))
def belowH (h n : Int) : Int := if n ≤ 0 then h else if n ≤ 256 then curH h else curH (curH (curH (curH h)))
def belowSpec : Spec := fun cs => match cs with
  | [.sl rows, .int .i64 i, .int .i64 h, .int .i64 n] => some (curOk rows i, [.int .i64 (below rows i h n), .sl rows, .int .i64 (belowI rows i n), .int .i64 (belowH h n)])
  | _ => none
def onceSpec : Spec := fun cs => match cs with
  | [.sl rows, .int .i64 i, .int .i64 h, .int .i64 n] => some (curOk rows i, [.bool (decide (below rows i h n = 0)), .sl rows, .int .i64 (belowI rows i n), .int .i64 (belowH h n)])
  | _ => none
def E_sBelow : Env := mkE [] [(149, (⟨[pCur], [rI], true⟩), byteSpec)]
def E_sOnce : Env := mkE [] [(101, (⟨[pCur, pI], [rI], true⟩), belowSpec)]

def pickSpec : Spec := fun cs => match cs with
  | [.sl rows, .int .i64 i, .int .i64 h, .sl l] => some (curOk rows i && (rowsOk [.int .i64] l && (decide (0 < l.length) && decide (l.length ≤ 1048576))), [.int .i64 ((ints l).getD (below rows i h l.length).toNat 0), .sl rows, .int .i64 (belowI rows i l.length), .int .i64 (belowH h l.length)])
  | _ => none
def E_sPickInt : Env := mkE [] [(101, (⟨[pCur, pI], [rI], true⟩), belowSpec)]

def hashOf : Nat → Int → List (List C) → Int
  | 0, h, _ => h
  | _ + 1, h, [] => h
  | f + 1, h, r :: rows => hashOf f (iand .i64 (IntKind.i64.wrap (IntKind.i64.wrap (IntKind.i64.wrap (h * 131) + IntKind.i64.wrap (rowByte r)) + 7)) 1073741823) rows
def newH (rows : List (List C)) : Int := hashOf 4000 (94701 + rows.length) rows
def E_sNew : Env := mkE [(3, [0, 3, 4])] []
def H_sNew (r : List (List C)) (h i : Int) (hp : List (Nat × Blk)) (nx : Nat) (pn : List Nat) : St := { slots := [(0, .l (.sl r)), (3, int64 h), (4, int64 i)], heap := hp, next := nx, pins := pn }
def drawS : FuncId → List W → St → Option (Bool × W × St) := fun g ws σ => match ws with
  | [.l (.sl rows)] => if g = 99 then some (curOk rows 0, .l (.ptr σ.next 0), { σ with heap := (σ.next, .box [.sl rows, .i .i64 0, .i .i64 (newH rows)]) :: σ.heap, next := σ.next + 1 }) else none
  | _ => none
def drawInl : FuncId → Option Func := fun g => if g = 99 then some Try.f99 else none
def mkD (lv : List (Nat × List Nat)) (gs : Laws) : Env := { mkE lv gs with inl := drawInl }

def curText (rows : List (List C)) : Nat → Int → Int → List UInt8
  | 0, _, _ => []
  | m + 1, i, h => UInt8.ofNat (curByte rows i h).toNat :: curText rows m (curI rows i) (curH h)
def textI (rows : List (List C)) : Nat → Int → Int
  | 0, i => i
  | m + 1, i => textI rows m (curI rows i)
def textH : Nat → Int → Int
  | 0, h => h
  | m + 1, h => textH m (curH h)
def textN (n : Int) : Nat := (if n > 5000 then 5000 else n).toNat
def textSpec : Spec := fun cs => match cs with
  | [.sl rows, .int .i64 i, .int .i64 h, .int .i64 n] => some (curOk rows i, [.str (curText rows (textN n) i h), .sl rows, .int .i64 (textI rows (textN n) i), .int .i64 (textH (textN n) h)])
  | _ => none
def H_sText (r : List (List C)) (i h n : Int) (m : Nat) (o : List (List C)) (k : Int) : St := { slots := [(0, .l (.ptr 0 0)), (1, int64 n), (5, .l (.ref 1 0 m)), (6, int64 k)], heap := [(0, .box [.sl r, .i .i64 i, .i .i64 h]), (1, .arr 1 o)], next := 2, pins := [0] }
def E_sText : Env := mkE [(5, [0, 1, 5, 6])] [(149, (⟨[pCur], [rI], true⟩), byteSpec)]

end
end Go.Proofs.Ythpamcbipmkimaa.V

namespace Go.Proofs.Ythpamcbipmkimaa.V
set_option maxRecDepth 100000
theorem sByte_tree (H : List Pt → Nat → St → T (List C)) (r : List (List C)) (i : Int) (h : Int) : vBodyL E_sByte noInl { params := [pCur], results := [rI], nested := true } Try.f149 H
  [C.sl r, C.int IntKind.i64 i, C.int IntKind.i64 h] =
 (.must true
 (.must true
  (.must true
   (.ask (decide (i < (↑r.length : Int)))
    (.must (decide ((0 : Int) ≤ i) && decide (i < (↑r.length : Int)) && decide ((r.getD i.toNat []).length = (1 : Nat)))
     (.must (decide ((0 : Nat) < (r.getD i.toNat []).length) &&
    C.is (K.int IntKind.u8) ((r.getD i.toNat []).getD (0 : Nat) (C.fn (0 : FuncId) [])) &&
  true)
      (.must true
       (.ret [C.int IntKind.i64
    (iand IntKind.i64
      (IntKind.i64.wrap
        (iand IntKind.i64
            (ixor IntKind.i64
              (ishr IntKind.i64
                (IntKind.i64.wrap (IntKind.i64.wrap (h * (6364136223846793005 : Int)) + (1442695040888963407 : Int)))
                (33 : Int))
              (ishr IntKind.i64
                (IntKind.i64.wrap (IntKind.i64.wrap (h * (6364136223846793005 : Int)) + (1442695040888963407 : Int)))
                (45 : Int)))
            (255 : Int) +
          IntKind.i64.wrap ((r.getD i.toNat []).getD (0 : Nat) (C.fn (0 : FuncId) [])).toInt))
      (255 : Int)),
  C.sl r, C.int IntKind.i64 (IntKind.i64.wrap (i + (1 : Int))),
  C.int IntKind.i64
    (IntKind.i64.wrap (IntKind.i64.wrap (h * (6364136223846793005 : Int)) + (1442695040888963407 : Int)))]))))
    (.must true
     (.ret [C.int IntKind.i64
    (iand IntKind.i64
      (ixor IntKind.i64
        (ishr IntKind.i64
          (IntKind.i64.wrap (IntKind.i64.wrap (h * (6364136223846793005 : Int)) + (1442695040888963407 : Int)))
          (33 : Int))
        (ishr IntKind.i64
          (IntKind.i64.wrap (IntKind.i64.wrap (h * (6364136223846793005 : Int)) + (1442695040888963407 : Int)))
          (45 : Int)))
      (255 : Int)),
  C.sl r, C.int IntKind.i64 i,
  C.int IntKind.i64
    (IntKind.i64.wrap (IntKind.i64.wrap (h * (6364136223846793005 : Int)) + (1442695040888963407 : Int)))])))))) := by kernel_rfl
theorem sBelow_tree (H : List Pt → Nat → St → T (List C)) (r : List (List C)) (i : Int) (h : Int) (n : Int) : vBodyL E_sBelow noInl { params := [pCur, pI], results := [rI], nested := true } Try.f101 H
  [C.sl r, C.int IntKind.i64 i, C.int IntKind.i64 h, C.int IntKind.i64 n] =
 (.must true
 (.ask (decide (n ≤ (0 : Int)))
  (.must true
   (.ret [C.int IntKind.i64 (0 : Int), C.sl r, C.int IntKind.i64 i, C.int IntKind.i64 h]))
  (.ask (decide (n ≤ (256 : Int)))
   (.must true
    (.must (curOk r i)
     (.must true
      (.must (decide ¬n = (0 : Int))
       (.must true
        (.ret [C.int IntKind.i64 ((curByte r i h).tmod n), C.sl r, C.int IntKind.i64 (curI r i), C.int IntKind.i64 (curH h)]))))))
   (.must true
    (.must (curOk r i)
     (.must true
      (.must true
       (.must (curOk r (curI r i))
        (.must true
         (.must true
          (.must (curOk r (curI r (curI r i)))
           (.must true
            (.must true
             (.must (curOk r (curI r (curI r (curI r i))))
              (.must true
               (.must (decide ¬n = (0 : Int))
                (.must true
                 (.ret [C.int IntKind.i64
    ((IntKind.i64.wrap
          (IntKind.i64.wrap
              (IntKind.i64.wrap
                  (IntKind.i64.wrap (curByte r i h * (16777216 : Int)) +
                    IntKind.i64.wrap (curByte r (curI r i) (curH h) * (65536 : Int))) +
                IntKind.i64.wrap (curByte r (curI r (curI r i)) (curH (curH h)) * (256 : Int))) +
            curByte r (curI r (curI r (curI r i))) (curH (curH (curH h))))).tmod
      n),
  C.sl r, C.int IntKind.i64 (curI r (curI r (curI r (curI r i)))), C.int IntKind.i64 (curH (curH (curH (curH h))))])))))))))))))))))) := by kernel_rfl
theorem sOnce_tree (H : List Pt → Nat → St → T (List C)) (r : List (List C)) (i : Int) (h : Int) (n : Int) : vBodyL E_sOnce noInl { params := [pCur, pI], results := [rB], nested := true } Try.f152 H
  [C.sl r, C.int IntKind.i64 i, C.int IntKind.i64 h, C.int IntKind.i64 n] =
 (.must true
 (.must true
  (.must (curOk r i)
   (.must true
    (.ask (decide (below r i h n = (0 : Int)))
     (.must true
      (.ret [C.bool true, C.sl r, C.int IntKind.i64 (belowI r i n), C.int IntKind.i64 (belowH h n)]))
     (.must true
      (.ret [C.bool false, C.sl r, C.int IntKind.i64 (belowI r i n), C.int IntKind.i64 (belowH h n)]))))))) := by kernel_rfl
theorem sPickInt_tree (H : List Pt → Nat → St → T (List C)) (r : List (List C)) (i : Int) (h : Int) (l : List (List C)) : vBodyL E_sPickInt noInl { params := [pCur, pSl (3 : TypeId)], results := [rI], nested := true } Try.f102 H
  [C.sl r, C.int IntKind.i64 i, C.int IntKind.i64 h, C.sl l] =
 (.must true
 (.must true
  (.must (curOk r i)
   (.must true
    (.must (decide ((0 : Int) ≤ below r i h (↑l.length : Int)) && decide (below r i h (↑l.length : Int) < (↑l.length : Int)) &&
  decide ((l.getD (below r i h (↑l.length : Int)).toNat []).length = (1 : Nat)))
     (.must (decide ((0 : Nat) < (l.getD (below r i h (↑l.length : Int)).toNat []).length) &&
    C.is (K.int IntKind.i64)
      ((l.getD (below r i h (↑l.length : Int)).toNat []).getD (0 : Nat) (C.fn (0 : FuncId) [])) &&
  true)
      (.must true
       (.ret [C.int IntKind.i64 ((l.getD (below r i h (↑l.length : Int)).toNat []).getD (0 : Nat) (C.fn (0 : FuncId) [])).toInt,
  C.sl r, C.int IntKind.i64 (belowI r i (↑l.length : Int)), C.int IntKind.i64 (belowH h (↑l.length : Int))])))))))) := by kernel_rfl
theorem sNew_tree (H : List Pt → Nat → St → T (W × St)) (r : List (List C)) (hp : List (Nat × Blk)) (nx : Nat) (pn : List Nat) (sl : List (Nat × W)) : vInL E_sNew noInl Try.f99 H [W.l (L.sl r)] { slots := sl, heap := hp, next := nx, pins := pn } =
 (H [Pt.r, Pt.r, Pt.l, Pt.r, Pt.b] (9223372036854775808 : Nat) (H_sNew (r) (IntKind.i64.wrap ((94701 : Int) + (↑r.length : Int))) ((0 : Int)) (hp) (nx) (pn))) := by kernel_rfl
theorem sNew_round0 (H : List Pt → Nat → St → T (W × St)) (r : List (List C)) (h : Int) (i : Int) (hp : List (Nat × Blk)) (nx : Nat) (pn : List Nat) (sl : List (Nat × W)) (k : Nat) : vInRound E_sNew noInl Try.f99 { slots := sl, heap := hp, next := nx, pins := pn } H [Pt.r, Pt.r, Pt.l, Pt.r, Pt.b] k
  (H_sNew r h i hp nx pn) =
 (.ask (decide (i < (↑r.length : Int)))
 (.ask (decide (i < (4000 : Int)))
  (.must (decide ((0 : Int) ≤ i) && decide (i < (↑r.length : Int)) && decide ((r.getD i.toNat []).length = (1 : Nat)))
   (.must (decide ((0 : Nat) < (r.getD i.toNat []).length) &&
    C.is (K.int IntKind.u8) ((r.getD i.toNat []).getD (0 : Nat) (C.fn (0 : FuncId) [])) &&
  true)
    (H [Pt.r, Pt.r, Pt.l, Pt.r, Pt.b] k (H_sNew (r) (iand IntKind.i64
  (IntKind.i64.wrap
    (IntKind.i64.wrap
        (IntKind.i64.wrap (h * (131 : Int)) +
          IntKind.i64.wrap ((r.getD i.toNat []).getD (0 : Nat) (C.fn (0 : FuncId) [])).toInt) +
      (7 : Int)))
  (1073741823 : Int)) (IntKind.i64.wrap (i + (1 : Int))) (hp) (nx) (pn)))))
  (.ret (W.l (L.ptr nx (0 : Nat)),
  {
    slots :=
      [((2 : Nat), W.l (L.ptr nx (0 : Nat))), ((31 : Nat), W.l (L.ptr nx (0 : Nat))),
        ((30 : Nat), W.agg [L.sl r, L.i IntKind.i64 (0 : Int), L.i IntKind.i64 h]),
        ((29 : Nat), W.l (L.i IntKind.i64 h)), ((28 : Nat), W.l (L.sl r)), ((15 : Nat), W.l (L.b false)),
        ((14 : Nat), W.l (L.b false)), ((13 : Nat), W.l (L.i IntKind.i64 i)), ((12 : Nat), W.l (L.b true)),
        ((11 : Nat), W.l (L.b true)), ((10 : Nat), W.l (L.i IntKind.i64 (↑r.length : Int))), ((9 : Nat), W.l (L.sl r)),
        ((8 : Nat), W.l (L.i IntKind.i64 i)), ((0 : Nat), W.l (L.sl r)), ((3 : Nat), W.l (L.i IntKind.i64 h)),
        ((4 : Nat), W.l (L.i IntKind.i64 i))],
    heap := (nx, Blk.box [L.sl r, L.i IntKind.i64 (0 : Int), L.i IntKind.i64 h]) :: hp, next := nx + (1 : Nat),
    pins := pn })))
 (.ret (W.l (L.ptr nx (0 : Nat)),
  {
    slots :=
      [((2 : Nat), W.l (L.ptr nx (0 : Nat))), ((31 : Nat), W.l (L.ptr nx (0 : Nat))),
        ((30 : Nat), W.agg [L.sl r, L.i IntKind.i64 (0 : Int), L.i IntKind.i64 h]),
        ((29 : Nat), W.l (L.i IntKind.i64 h)), ((28 : Nat), W.l (L.sl r)), ((15 : Nat), W.l (L.b false)),
        ((14 : Nat), W.l L.und), ((13 : Nat), W.l L.und), ((12 : Nat), W.l (L.b false)), ((11 : Nat), W.l (L.b false)),
        ((10 : Nat), W.l (L.i IntKind.i64 (↑r.length : Int))), ((9 : Nat), W.l (L.sl r)),
        ((8 : Nat), W.l (L.i IntKind.i64 i)), ((0 : Nat), W.l (L.sl r)), ((3 : Nat), W.l (L.i IntKind.i64 h)),
        ((4 : Nat), W.l (L.i IntKind.i64 i))],
    heap := (nx, Blk.box [L.sl r, L.i IntKind.i64 (0 : Int), L.i IntKind.i64 h]) :: hp, next := nx + (1 : Nat),
    pins := pn }))) := by kernel_rfl
theorem sText_tree (H : List Pt → Nat → St → T (List C)) (r : List (List C)) (i : Int) (h : Int) (n : Int) : vBodyL E_sText noInl { params := [pCur, pI], results := [rS], nested := true } Try.f100 H
  [C.sl r, C.int IntKind.i64 i, C.int IntKind.i64 h, C.int IntKind.i64 n] =
 (.must true
 (.ask (decide ((5000 : Int) < n))
  (H [Pt.r, Pt.r, Pt.r, Pt.l, Pt.r, Pt.b] (9223372036854775808 : Nat) (H_sText (r) (i) (h) ((5000 : Int)) ((0 : Nat)) ([]) ((0 : Int))))
  (H [Pt.r, Pt.r, Pt.r, Pt.l, Pt.r, Pt.b] (9223372036854775808 : Nat) (H_sText (r) (i) (h) (n) ((0 : Nat)) ([]) ((0 : Int)))))) := by kernel_rfl
theorem sText_round0 (H : List Pt → Nat → St → T (List C)) (r : List (List C)) (i : Int) (h : Int) (n : Int) (q : Nat) (o : List (List C)) (j : Int) (k : Nat) : vRound E_sText noInl { params := [pCur, pI], results := [rS], nested := true } Try.f100 H
  [Pt.r, Pt.r, Pt.r, Pt.l, Pt.r, Pt.b] k (H_sText r i h n q o j) =
 (.ask (decide (j < n))
 (.must true
  (.must (curOk r i)
   (.must true
    (.must (decide (q = o.length) && roomy (o.length + (1 : Nat)) (1 : Nat) && (decide ((1 : Nat) = (1 : Nat)) && true))
     (H [Pt.r, Pt.r, Pt.r, Pt.l, Pt.r, Pt.b] k (H_sText (r) (curI r i) (curH h) (n) (o.length + (1 : Nat)) (o.append [[C.int IntKind.u8 (IntKind.u8.wrap (curByte r i h))]]) (IntKind.i64.wrap (j + (1 : Int)))))))))
 (.must ((List.take q o).all byteRow)
  (.must true
   (.ret [C.str (strOfRows (List.take q o)), C.sl r, C.int IntKind.i64 i, C.int IntKind.i64 h])))) := by kernel_rfl
end Go.Proofs.Ythpamcbipmkimaa.V

namespace Go.Proofs.Ythpamcbipmkimaa.V

theorem row_u8 {r : List C} (h : kindsOk r [.int .u8] = true) : r = [C.int .u8 (rowByte r)] := by
  cases r with
  | nil => simp [kindsOk] at h
  | cons c r =>
    cases r with
    | cons d r => simp [kindsOk] at h
    | nil =>
      cases c with
      | int k n => simp [kindsOk, C.is] at h; subst h; rfl
      | _ => simp [kindsOk, C.is] at h
theorem rowsOk_at {ks : List K} {rows : List (List C)} (h : rowsOk ks rows = true) (i : Nat) (hi : i < rows.length) : kindsOk (rows.getD i []) ks = true := by
  simp only [rowsOk, List.all_eq_true] at h
  exact h _ (by simp [List.getD_eq_getElem?_getD, hi])
theorem curOk_iff (rows : List (List C)) (i : Int) : curOk rows i = true ↔ rowsOk [.int .u8] rows = true ∧ rows.length ≤ 1048576 ∧ 0 ≤ i ∧ i ≤ rows.length := by simp [curOk]
theorem curI_ok (rows : List (List C)) (i : Int) (h : curOk rows i = true) : curOk rows (curI rows i) = true := by
  have := (curOk_iff rows i).1 h
  rw [curOk_iff]
  unfold curI
  refine ⟨this.1, this.2.1, ?_⟩
  split <;> omega
theorem iand255_range (x : Int) : 0 ≤ iand .i64 x 255 ∧ iand .i64 x 255 ≤ 255 := by rw [iand255]; omega
theorem curByte_range (rows : List (List C)) (i h : Int) : 0 ≤ curByte rows i h ∧ curByte rows i h ≤ 255 := by
  unfold curByte curX; split <;> exact iand255_range _
theorem sByte_E : EnvSound Try.prog E_sByte := mkE_sound (by simp [])
theorem sByte_sound : Sound Try.prog 149 (⟨[pCur], [rI], true⟩) byteSpec := vBody_sound sByte_E noInl_ok Try.func149 (by kernel_rfl) fun cs outs hk h => by
  unfold byteSpec at h
  split at h
  · simp only [Option.some.injEq, Prod.mk.injEq] at h
    obtain ⟨h1, rfl⟩ := h
    rename_i rows i hh
    obtain ⟨a1, a2, a3, a4⟩ := (curOk_iff rows i).1 h1
    rw [vBody_L, sByte_tree]
    by_cases hi : i < rows.length
    · have hr := row_u8 (rowsOk_at a1 i.toNat (by omega))
      have w : IntKind.i64.wrap (i + 1) = i + 1 := by rw [wrap64] <;> omega
      have e1 : ((rows.getD i.toNat []).length) = 1 := by rw [hr]; rfl
      have e2 : C.is (K.int .u8) ((rows.getD i.toNat []).getD 0 (C.fn 0 [])) = true := by rw [hr]; rfl
      simp only [eval_must', eval_ask', eval_ret', if_true, decide_eq_true_eq, Bool.and_eq_true, hi, a3, e1, e2, w, curByte, curI, and_self, Nat.zero_lt_one]
      rfl
    · simp only [eval_must', eval_ask', eval_ret', if_true, decide_eq_true_eq, hi, if_false, curByte, curI]
      rfl
  · cases h

theorem below_range (rows : List (List C)) (i h n : Int) (hn : 0 < n) : 0 ≤ below rows i h n ∧ below rows i h n < n := by
  have r1 := curByte_range rows i h
  have r2 := curByte_range rows (curI rows i) (curH h)
  have r3 := curByte_range rows (curI rows (curI rows i)) (curH (curH h))
  have r4 := curByte_range rows (curI rows (curI rows (curI rows i))) (curH (curH (curH h)))
  unfold below
  rw [if_neg (by omega)]
  split
  · rw [Int.tmod_eq_emod_of_nonneg (by omega)]
    exact ⟨Int.emod_nonneg _ (by omega), Int.emod_lt_of_pos _ hn⟩
  · rw [Int.tmod_eq_emod_of_nonneg (by omega)]
    exact ⟨Int.emod_nonneg _ (by omega), Int.emod_lt_of_pos _ hn⟩
theorem sBelow_E : EnvSound Try.prog E_sBelow := mkE_sound (by simp [sByte_sound])
theorem sBelow_sound : Sound Try.prog 101 (⟨[pCur, pI], [rI], true⟩) belowSpec := vBody_sound sBelow_E noInl_ok Try.func101 (by kernel_rfl) fun cs outs hk h => by
  unfold belowSpec at h
  split at h
  · simp only [Option.some.injEq, Prod.mk.injEq] at h
    obtain ⟨h1, rfl⟩ := h
    rename_i rows i hh n
    have o1 := curI_ok rows i h1
    have o2 := curI_ok rows _ o1
    have o3 := curI_ok rows _ o2
    have r1 := curByte_range rows i hh
    have r2 := curByte_range rows (curI rows i) (curH hh)
    have r3 := curByte_range rows (curI rows (curI rows i)) (curH (curH hh))
    have r4 := curByte_range rows (curI rows (curI rows (curI rows i))) (curH (curH (curH hh)))
    rw [vBody_L, sBelow_tree]
    by_cases p1 : n ≤ 0
    · simp [eval_must', eval_ask', eval_ret', p1, below, belowI, belowH]
    · by_cases p2 : n ≤ 256
      · have hn : n ≠ 0 := by omega
        simp [eval_must', eval_ask', eval_ret', p1, p2, below, belowI, belowH, h1, hn]
      · have hn : n ≠ 0 := by omega
        have w1 : IntKind.i64.wrap (curByte rows i hh * 16777216) = curByte rows i hh * 16777216 := by rw [wrap64] <;> omega
        have w2 : IntKind.i64.wrap (curByte rows (curI rows i) (curH hh) * 65536) = curByte rows (curI rows i) (curH hh) * 65536 := by rw [wrap64] <;> omega
        have w3 : IntKind.i64.wrap (curByte rows (curI rows (curI rows i)) (curH (curH hh)) * 256) = curByte rows (curI rows (curI rows i)) (curH (curH hh)) * 256 := by rw [wrap64] <;> omega
        have w4 : IntKind.i64.wrap (curByte rows i hh * 16777216 + curByte rows (curI rows i) (curH hh) * 65536) = curByte rows i hh * 16777216 + curByte rows (curI rows i) (curH hh) * 65536 := by rw [wrap64] <;> omega
        have w5 : IntKind.i64.wrap (curByte rows i hh * 16777216 + curByte rows (curI rows i) (curH hh) * 65536 + curByte rows (curI rows (curI rows i)) (curH (curH hh)) * 256) = curByte rows i hh * 16777216 + curByte rows (curI rows i) (curH hh) * 65536 + curByte rows (curI rows (curI rows i)) (curH (curH hh)) * 256 := by rw [wrap64] <;> omega
        have w6 : IntKind.i64.wrap (curByte rows i hh * 16777216 + curByte rows (curI rows i) (curH hh) * 65536 + curByte rows (curI rows (curI rows i)) (curH (curH hh)) * 256 + curByte rows (curI rows (curI rows (curI rows i))) (curH (curH (curH hh)))) = curByte rows i hh * 16777216 + curByte rows (curI rows i) (curH hh) * 65536 + curByte rows (curI rows (curI rows i)) (curH (curH hh)) * 256 + curByte rows (curI rows (curI rows (curI rows i))) (curH (curH (curH hh))) := by rw [wrap64] <;> omega
        simp [eval_must', eval_ask', eval_ret', p1, p2, below, belowI, belowH, h1, o1, o2, o3, hn, w1, w2, w3, w4, w5, w6]
  · cases h
theorem sOnce_E : EnvSound Try.prog E_sOnce := mkE_sound (by simp [sBelow_sound])
theorem sOnce_sound : Sound Try.prog 152 (⟨[pCur, pI], [rB], true⟩) onceSpec := vBody_sound sOnce_E noInl_ok Try.func152 (by kernel_rfl) fun cs outs hk h => by
  unfold onceSpec at h
  split at h
  · simp only [Option.some.injEq, Prod.mk.injEq] at h
    obtain ⟨h1, rfl⟩ := h
    rename_i rows i hh n
    rw [vBody_L, sOnce_tree]
    by_cases p : below rows i hh n = 0 <;> simp [eval_must', eval_ask', eval_ret', h1, p]
  · cases h

theorem sPickInt_E : EnvSound Try.prog E_sPickInt := mkE_sound (by simp [sBelow_sound])
theorem sPickInt_sound : Sound Try.prog 102 (⟨[pCur, pSl 3], [rI], true⟩) pickSpec := vBody_sound sPickInt_E noInl_ok Try.func102 (by kernel_rfl) fun cs outs hk h => by
  unfold pickSpec at h
  split at h
  · simp only [Option.some.injEq, Prod.mk.injEq, Bool.and_eq_true, decide_eq_true_eq] at h
    obtain ⟨⟨h1, h2, h3, h4⟩, rfl⟩ := h
    rename_i rows i hh l
    have hr := rows_ints h2
    generalize ints l = m at hr ⊢
    subst hr
    rw [List.length_map] at h3 h4
    rw [vBody_L, sPickInt_tree]
    simp only [List.length_map]
    obtain ⟨b1, b2⟩ := below_range rows i hh m.length (by omega)
    have hlt : (below rows i hh m.length).toNat < m.length := by omega
    have g := map_getD eInt m 0 _ hlt
    simp only [eval_must', eval_ask', eval_ret', if_true, decide_eq_true_eq, Bool.and_eq_true, h1, b1, b2, g, List.length_map, and_self]
    simp [C.is, C.toInt]
  · cases h

theorem hash_step (f : Nat) (h : Int) (rows : List (List C)) (i : Nat) (hi : i < rows.length) : hashOf (f + 1) h (rows.drop i) = hashOf f (iand .i64 (IntKind.i64.wrap (IntKind.i64.wrap (IntKind.i64.wrap (h * 131) + IntKind.i64.wrap (rowByte (rows.getD i []))) + 7)) 1073741823) (rows.drop (i + 1)) := by
  rw [List.drop_eq_getElem_cons hi]
  simp [hashOf, List.getD_eq_getElem?_getD, hi]
theorem hash_nil (f : Nat) (h : Int) : hashOf f h [] = h := by cases f <;> rfl
theorem sNew_loop (rows : List (List C)) (hok : curOk rows 0 = true) (hp : List (Nat × Blk)) (nx : Nat) (pn : List Nat) (sl : List (Nat × W)) : ∀ (n i : Nat) (h : Int), i ≤ rows.length → i ≤ 4000 → 4000 < i + n →
    ∃ s, (vInLoop E_sNew noInl Try.f99 { slots := sl, heap := hp, next := nx, pins := pn } [.r, .r, .l, .r, .b] n (H_sNew rows h i hp nx pn)).eval = some (.l (.ptr nx 0), s) ∧ s.heap = (nx, .box [.sl rows, .i .i64 0, .i .i64 (hashOf (4000 - i) h (rows.drop i))]) :: hp ∧ s.next = nx + 1 ∧ s.pins = pn := by
  obtain ⟨a1, a2, a3, a4⟩ := (curOk_iff rows 0).1 hok
  intro n
  induction n with
  | zero => intro i h h1 h2 h3; omega
  | succ n ih =>
    intro i h h1 h2 h3
    rw [vInLoop_L _ _ _ _ _ _ _ (by kernel_rfl), sNew_round0]
    by_cases hi : i < rows.length
    · by_cases hj : i < 4000
      · have hr := row_u8 (rowsOk_at a1 i hi)
        have w : IntKind.i64.wrap ((i : Int) + 1) = ((i + 1 : Nat) : Int) := by rw [wrap64] <;> omega
        have hi' : (i : Int) < rows.length := by omega
        have hj' : (i : Int) < 4000 := by omega
        have hz : (0 : Int) ≤ i := by omega
        have e1 : ((rows.getD i []).length) = 1 := by rw [hr]; rfl
        have e2 : C.is (K.int .u8) ((rows.getD i []).getD 0 (C.fn 0 [])) = true := by rw [hr]; rfl
        have hs : 4000 - i = (4000 - (i + 1)) + 1 := by omega
        rw [hs, hash_step _ _ _ _ hi]
        simp only [eval_must', eval_ask', if_true, decide_eq_true_eq, Bool.and_eq_true, hi', hj', hz, Int.toNat_natCast, e1, e2, w, and_self, Nat.zero_lt_one]
        exact ih (i + 1) _ (by omega) (by omega) (by omega)
      · have : i = 4000 := by omega
        subst this
        have hi' : ((4000 : Nat) : Int) < rows.length := by omega
        simp only [eval_ask', eval_ret', decide_eq_true_eq, hi', if_true]
        rw [if_neg (by omega)]
        exact ⟨_, rfl, rfl, rfl, rfl⟩
    · have hd : rows.drop i = [] := List.drop_eq_nil_of_le (by omega)
      rw [hd, hash_nil]
      simp only [eval_ask', eval_ret', decide_eq_true_eq]
      rw [if_neg (by omega)]
      exact ⟨_, rfl, rfl, rfl, rfl⟩
theorem drawS_ok : SumOk Try.prog drawS := by
  intro g ws σ x σ' hs
  unfold drawS at hs
  split at hs
  · rename_i rows
    split at hs
    · rename_i hg
      subst hg
      simp only [Option.some.injEq, Prod.mk.injEq] at hs
      obtain ⟨hok, rfl, rfl⟩ := hs
      obtain ⟨sl, hp, nx, pn⟩ := σ
      have hlen := ((curOk_iff rows 0).1 hok).2.1
      obtain ⟨s, h1, h2, h3, h4⟩ := sNew_loop rows hok hp nx pn sl 9223372036854775808 0 (94701 + rows.length) (by omega) (by omega) (by omega)
      have w : IntKind.i64.wrap (94701 + (rows.length : Int)) = 94701 + rows.length := by rw [wrap64] <;> omega
      refine ⟨E_sNew, 1, s, Try.f99, Try.func99, mkE_sound (by simp), ?_, h2, h3, h4⟩
      rw [inlAt_L]
      show (vInL E_sNew noInl _ (vInLoop E_sNew noInl _ _) _ _).eval = _
      rw [sNew_tree, w]
      exact h1
    · cases hs
  · cases hs
theorem drawInl_eq {g : FuncId} {fn : Func} (h : drawInl g = some fn) : g = 99 ∧ fn = Try.f99 := by
  unfold drawInl at h
  split at h
  · rename_i hg; exact ⟨hg, (Option.some.inj h).symm⟩
  · cases h
theorem drawName : (Try.f99.name == "runtime.NumGoroutine") = false := by kernel_rfl
theorem mixedOk : Try.prog.follows .mixedOrders = true := by kernel_rfl
theorem mkD_sound {lv : List (Nat × List Nat)} {gs : Laws} (h : ∀ p, p ∈ gs → Sound Try.prog p.1 p.2.1 p.2.2) : EnvSound Try.prog (mkD lv gs) :=
  ⟨⟨(tys_ok tyTab_ok).1, fun g fn hh => by obtain ⟨rfl, rfl⟩ := drawInl_eq hh; exact Try.func99⟩, fun g sig spec hl => h (g, sig, spec) (lookup_mem hl), fun g fn hh => (by obtain ⟨rfl, rfl⟩ := drawInl_eq hh; exact drawName), mixedOk⟩

theorem curText_len (rows : List (List C)) : ∀ (m : Nat) (i h : Int), (curText rows m i h).length = m
  | 0, _, _ => rfl
  | m + 1, i, h => by simp [curText, curText_len rows m]
theorem textI_ok (rows : List (List C)) : ∀ (m : Nat) (i : Int), curOk rows i = true → curOk rows (textI rows m i) = true
  | 0, _, h => h
  | m + 1, i, h => textI_ok rows m _ (curI_ok rows i h)
theorem sText_loop (rows : List (List C)) (n : Nat) (hn : n ≤ 5000) : ∀ (f m j : Nat) (i h : Int) (l : List UInt8), curOk rows i = true → j + f = n → f < m → l.length = j →
    (vLoop E_sText noInl (⟨[pCur, pI], [rS], true⟩) Try.f100 [.r, .r, .r, .l, .r, .b] m (H_sText rows i h n l.length (rowsOfStr l) j)).eval = some [.str (l ++ curText rows f i h), .sl rows, .int .i64 (textI rows f i), .int .i64 (textH f h)] := by
  intro f
  induction f with
  | zero =>
    intro m j i h l hok h1 h2 h3
    obtain ⟨m, rfl⟩ : ∃ q, m = q + 1 := ⟨m - 1, by omega⟩
    rw [vLoop_L _ _ _ _ _ _ _ (by kernel_rfl), sText_round0]
    have c : ¬ ((j : Int) < n) := by omega
    have tk : (rowsOfStr l).take l.length = rowsOfStr l := List.take_of_length_le (by rw [rows_length]; omega)
    simp only [eval_must', eval_ask', eval_ret', decide_eq_true_eq, c, if_false, tk, rows_bytes, str_rows, curText, textI, textH, List.append_nil]
    simp
  | succ f ih =>
    intro m j i h l hok h1 h2 h3
    obtain ⟨m, rfl⟩ : ∃ q, m = q + 1 := ⟨m - 1, by omega⟩
    rw [vLoop_L _ _ _ _ _ _ _ (by kernel_rfl), sText_round0]
    have hr := curByte_range rows i h
    have c : (j : Int) < n := by omega
    have w : IntKind.i64.wrap ((j : Int) + 1) = ((j + 1 : Nat) : Int) := by rw [wrap64] <;> omega
    have u : IntKind.u8.wrap (curByte rows i h) = (((curByte rows i h).toNat : Nat) : Int) := by rw [wrapU8] <;> omega
    have ro : roomy (l.length + 1) 1 = true := by simp only [roomy, decide_eq_true_eq]; omega
    have ra : (rowsOfStr l).append [[C.int .u8 (((curByte rows i h).toNat : Nat) : Int)]] = rowsOfStr (l ++ [UInt8.ofNat (curByte rows i h).toNat]) := by
      have := rows_one (((curByte rows i h).toNat : Nat) : Int) (by omega) (by omega)
      rw [Int.toNat_natCast] at this
      rw [this, List.append_eq, rowsStr_append]
    have e := ih m (j + 1) (curI rows i) (curH h) (l ++ [UInt8.ofNat (curByte rows i h).toNat]) (curI_ok rows i hok) (by omega) (by omega) (by simp; omega)
    rw [List.length_append, List.append_assoc] at e
    simp only [eval_must', eval_ask', if_true, decide_eq_true_eq, Bool.and_eq_true, c, hok, w, u, ro, rows_length, ra, and_self, curText, textI, textH]
    exact e
theorem sText_E : EnvSound Try.prog E_sText := mkE_sound (by simp [sByte_sound])
theorem sText_sound : Sound Try.prog 100 (⟨[pCur, pI], [rS], true⟩) textSpec := vBody_sound sText_E noInl_ok Try.func100 (by kernel_rfl) fun cs outs hk h => by
  unfold textSpec at h
  split at h
  · simp only [Option.some.injEq, Prod.mk.injEq] at h
    obtain ⟨h1, rfl⟩ := h
    rename_i rows i hh n
    rw [vBody_L, sText_tree]
    have lp := fun (q : Nat) (hq : q ≤ 5000) => sText_loop rows q hq q 9223372036854775808 0 i hh [] h1 (by omega) (by omega) rfl
    by_cases p : (5000 : Int) < n
    · have en : textN n = 5000 := by unfold textN; rw [if_pos p]; rfl
      rw [en]
      simp only [eval_must', eval_ask', if_true, decide_eq_true_eq, p]
      exact lp 5000 (by omega)
    · have en : textN n = n.toNat := by unfold textN; rw [if_neg p]
      rw [en]
      simp only [eval_must', eval_ask', if_true, decide_eq_true_eq, p, if_false]
      by_cases p2 : 0 ≤ n
      · obtain ⟨n, rfl⟩ := Int.eq_ofNat_of_zero_le p2
        exact lp n (by omega)
      · have hz : n.toNat = 0 := by omega
        rw [hz]
        rw [vLoop_L _ _ _ _ _ 9223372036854775807 _ (by kernel_rfl), sText_round0]
        have c : ¬ ((0 : Int) < n) := by omega
        simp only [eval_must', eval_ask', eval_ret', decide_eq_true_eq, c, if_false, curText, textI, textH]
        simp [strOfRows]
  · cases h

end Go.Proofs.Ythpamcbipmkimaa.V

namespace Go.Proofs.Ythpamcbipmkimaa.V
noncomputable section

def pCode : PTy := .val false [.slice 5]
/-- a text of less than n bytes, from a cursor; the cursor behind it -/
def dtT (rows : List (List C)) (n i h : Int) : List UInt8 := curText rows (textN (below rows i h n)) (belowI rows i n) (belowH h n)
def dtI (rows : List (List C)) (n i h : Int) : Int := textI rows (textN (below rows i h n)) (belowI rows i n)
def dtH (rows : List (List C)) (n i h : Int) : Int := textH (textN (below rows i h n)) (belowH h n)
def dtAt (rows : List (List C)) (i h : Int) : Int := ([0, 1, 7, 8, 40, 95, -1, 9223372036854775807] : List Int).getD (below rows i h 8).toNat 0
def dtBits (rows : List (List C)) (i h : Int) : Int := ([0, 1, 3, 255, 4294967295, 2147483648, -1, 4294967296, below rows i h 100000] : List Int).getD (below rows (belowI rows i 100000) (belowH h 100000) 9).toNat 0
def drawTurnT (rows : List (List C)) : List UInt8 := dtT rows 12 0 (newH rows)
def drawTurnAt (rows : List (List C)) : Int := dtAt rows (dtI rows 12 0 (newH rows)) (dtH rows 12 0 (newH rows))
def drawTurnBits (rows : List (List C)) : Int := dtBits rows (belowI rows (dtI rows 12 0 (newH rows)) 8) (belowH (dtH rows 12 0 (newH rows)) 8)
def drawTurnSpec : Spec := fun cs => match cs with
  | [.sl rows] => some (curOk rows 0, [.str (drawTurnT rows), .int .i64 (drawTurnAt rows), .int .i64 (drawTurnBits rows)])
  | _ => none
def E_sDrawTurnBits : Env := mkD [] [(101, (⟨[pCur, pI], [rI], true⟩), belowSpec), (102, (⟨[pCur, pSl 3], [rI], true⟩), pickSpec), (100, (⟨[pCur, pI], [rS], true⟩), textSpec)]

def twoA (rows : List (List C)) : List UInt8 := dtT rows 12 0 (newH rows)
def twoI (rows : List (List C)) : Int := dtI rows 12 0 (newH rows)
def twoH (rows : List (List C)) : Int := dtH rows 12 0 (newH rows)
def twoS (rows : List (List C)) : Int := below rows (twoI rows) (twoH rows) 5
def twoI' (rows : List (List C)) : Int := belowI rows (twoI rows) 5
def twoH' (rows : List (List C)) : Int := belowH (twoH rows) 5
def twoB (rows : List (List C)) : List UInt8 :=
  if twoS rows = 0 then twoA rows
  else if twoS rows = 1 then cutOf (twoA rows) (below rows (twoI' rows) (twoH' rows) 12)
  else if twoS rows = 2 then curText rows (textN (twoA rows).length) (twoI' rows) (twoH' rows)
  else turnOf (twoA rows) (below rows (twoI' rows) (twoH' rows) 90) (1 + below rows (belowI rows (twoI' rows) 90) (belowH (twoH' rows) 90) 100000 * 40000)
def twoSpec : Spec := fun cs => match cs with
  | [.sl rows] => some (curOk rows 0, [.str (twoA rows), .str (twoB rows)])
  | _ => none
def E_sTwo : Env := mkD [] [(56, (sg [pS, pI] [rS]), cutSpec), (31, (sg [pS, pI, pI] [rS]), turnSpec), (101, (⟨[pCur, pI], [rI], true⟩), belowSpec), (100, (⟨[pCur, pI], [rS], true⟩), textSpec)]
def E_sDrawBitsChanged : Env := mkE [] [(97, (⟨[pCode], [rS, rS], true⟩), twoSpec)]

end
end Go.Proofs.Ythpamcbipmkimaa.V

namespace Go.Proofs.Ythpamcbipmkimaa.V
set_option maxRecDepth 100000
theorem sDrawTurnBits_tree (H : List Pt → Nat → St → T (List C)) (r : List (List C)) : vBodyL E_sDrawTurnBits (sumInl drawS) { params := [pCode], results := [rS, rI, rI], nested := true } Try.f29 H [C.sl r] =
 (.must true
 (.must (curOk r (0 : Int))
  (.must true
   (.must (curOk r (0 : Int))
    (.must true
     (.must true
      (.must (curOk r (belowI r (0 : Int) (12 : Int)))
       (.must true
        (.must true
         (.must (curOk r (textI r (textN (below r (0 : Int) (newH r) (12 : Int))) (belowI r (0 : Int) (12 : Int))) &&
  (rowsOk [K.int IntKind.i64]
      [[C.int IntKind.i64 (0 : Int)], [C.int IntKind.i64 (1 : Int)], [C.int IntKind.i64 (7 : Int)],
        [C.int IntKind.i64 (8 : Int)], [C.int IntKind.i64 (40 : Int)], [C.int IntKind.i64 (95 : Int)],
        [C.int IntKind.i64 (-1 : Int)], [C.int IntKind.i64 (9223372036854775807 : Int)]] &&
    (decide ((0 : Nat) < (8 : Nat)) && decide ((8 : Nat) ≤ (1048576 : Nat)))))
          (.must true
           (.must true
            (.must (curOk r
  (belowI r (textI r (textN (below r (0 : Int) (newH r) (12 : Int))) (belowI r (0 : Int) (12 : Int)))
    (↑(8 : Nat) : Int)))
             (.must true
              (.must true
               (.must (curOk r
    (belowI r
      (belowI r (textI r (textN (below r (0 : Int) (newH r) (12 : Int))) (belowI r (0 : Int) (12 : Int)))
        (↑(8 : Nat) : Int))
      (100000 : Int)) &&
  (rowsOk [K.int IntKind.i64]
      [[C.int IntKind.i64 (0 : Int)], [C.int IntKind.i64 (1 : Int)], [C.int IntKind.i64 (3 : Int)],
        [C.int IntKind.i64 (255 : Int)], [C.int IntKind.i64 (4294967295 : Int)], [C.int IntKind.i64 (2147483648 : Int)],
        [C.int IntKind.i64 (-1 : Int)], [C.int IntKind.i64 (4294967296 : Int)],
        [C.int IntKind.i64
            (below r
              (belowI r (textI r (textN (below r (0 : Int) (newH r) (12 : Int))) (belowI r (0 : Int) (12 : Int)))
                (↑(8 : Nat) : Int))
              (belowH (textH (textN (below r (0 : Int) (newH r) (12 : Int))) (belowH (newH r) (12 : Int)))
                (↑(8 : Nat) : Int))
              (100000 : Int))]] &&
    (decide
        ((0 : Nat) <
          ((((((((Nat.add (1 : Nat) (0 : Nat)).succ.add (0 : Nat)).succ.add (0 : Nat)).succ.add
                                      (0 : Nat)).succ.add
                                (0 : Nat)).succ.add
                          (0 : Nat)).succ.add
                    (0 : Nat)).succ.add
              (0 : Nat)).succ) &&
      decide
        (((((((((Nat.add (1 : Nat) (0 : Nat)).succ.add (0 : Nat)).succ.add (0 : Nat)).succ.add
                                      (0 : Nat)).succ.add
                                (0 : Nat)).succ.add
                          (0 : Nat)).succ.add
                    (0 : Nat)).succ.add
              (0 : Nat)).succ ≤
          (1048576 : Nat)))))
                (.must true
                 (.must true
                  (.ret [C.str
    (curText r (textN (below r (0 : Int) (newH r) (12 : Int))) (belowI r (0 : Int) (12 : Int))
      (belowH (newH r) (12 : Int))),
  C.int IntKind.i64
    ((ints
          [[C.int IntKind.i64 (0 : Int)], [C.int IntKind.i64 (1 : Int)], [C.int IntKind.i64 (7 : Int)],
            [C.int IntKind.i64 (8 : Int)], [C.int IntKind.i64 (40 : Int)], [C.int IntKind.i64 (95 : Int)],
            [C.int IntKind.i64 (-1 : Int)], [C.int IntKind.i64 (9223372036854775807 : Int)]]).getD
      (below r (textI r (textN (below r (0 : Int) (newH r) (12 : Int))) (belowI r (0 : Int) (12 : Int)))
          (textH (textN (below r (0 : Int) (newH r) (12 : Int))) (belowH (newH r) (12 : Int)))
          (↑(8 : Nat) : Int)).toNat
      (0 : Int)),
  C.int IntKind.i64
    ((ints
          [[C.int IntKind.i64 (0 : Int)], [C.int IntKind.i64 (1 : Int)], [C.int IntKind.i64 (3 : Int)],
            [C.int IntKind.i64 (255 : Int)], [C.int IntKind.i64 (4294967295 : Int)],
            [C.int IntKind.i64 (2147483648 : Int)], [C.int IntKind.i64 (-1 : Int)],
            [C.int IntKind.i64 (4294967296 : Int)],
            [C.int IntKind.i64
                (below r
                  (belowI r (textI r (textN (below r (0 : Int) (newH r) (12 : Int))) (belowI r (0 : Int) (12 : Int)))
                    (↑(8 : Nat) : Int))
                  (belowH (textH (textN (below r (0 : Int) (newH r) (12 : Int))) (belowH (newH r) (12 : Int)))
                    (↑(8 : Nat) : Int))
                  (100000 : Int))]]).getD
      (below r
          (belowI r
            (belowI r (textI r (textN (below r (0 : Int) (newH r) (12 : Int))) (belowI r (0 : Int) (12 : Int)))
              (↑(8 : Nat) : Int))
            (100000 : Int))
          (belowH
            (belowH (textH (textN (below r (0 : Int) (newH r) (12 : Int))) (belowH (newH r) (12 : Int)))
              (↑(8 : Nat) : Int))
            (100000 : Int))
          (↑((((((((Nat.add (1 : Nat) (0 : Nat)).succ.add (0 : Nat)).succ.add (0 : Nat)).succ.add
                                          (0 : Nat)).succ.add
                                    (0 : Nat)).succ.add
                              (0 : Nat)).succ.add
                        (0 : Nat)).succ.add
                  (0 : Nat)).succ :
            Int)).toNat
      (0 : Int))]))))))))))))))))))) := by kernel_rfl
theorem sTwo_tree (H : List Pt → Nat → St → T (List C)) (r : List (List C)) : vBodyL E_sTwo (sumInl drawS) { params := [pCode], results := [rS, rS], nested := true } Try.f97 H [C.sl r] =
 (.must true
 (.must (curOk r (0 : Int))
  (.must true
   (.must (curOk r (0 : Int))
    (.must true
     (.must true
      (.must (curOk r (belowI r (0 : Int) (12 : Int)))
       (.must true
        (.must true
         (.must (curOk r (textI r (textN (below r (0 : Int) (newH r) (12 : Int))) (belowI r (0 : Int) (12 : Int))))
          (.must true
           (.ask (decide
  (below r (textI r (textN (below r (0 : Int) (newH r) (12 : Int))) (belowI r (0 : Int) (12 : Int)))
      (textH (textN (below r (0 : Int) (newH r) (12 : Int))) (belowH (newH r) (12 : Int))) (5 : Int) =
    (0 : Int)))
            (.must true
             (.ret [C.str
    (curText r (textN (below r (0 : Int) (newH r) (12 : Int))) (belowI r (0 : Int) (12 : Int))
      (belowH (newH r) (12 : Int))),
  C.str
    (curText r (textN (below r (0 : Int) (newH r) (12 : Int))) (belowI r (0 : Int) (12 : Int))
      (belowH (newH r) (12 : Int)))]))
            (.ask (decide
  (below r (textI r (textN (below r (0 : Int) (newH r) (12 : Int))) (belowI r (0 : Int) (12 : Int)))
      (textH (textN (below r (0 : Int) (newH r) (12 : Int))) (belowH (newH r) (12 : Int))) (5 : Int) =
    (1 : Int)))
             (.must true
              (.must (curOk r (belowI r (textI r (textN (below r (0 : Int) (newH r) (12 : Int))) (belowI r (0 : Int) (12 : Int))) (5 : Int)))
               (.must true
                (.must true
                 (.must true
                  (.must true
                   (.must true
                    (.ret [C.str
    (curText r (textN (below r (0 : Int) (newH r) (12 : Int))) (belowI r (0 : Int) (12 : Int))
      (belowH (newH r) (12 : Int))),
  C.str
    (cutOf
      (curText r (textN (below r (0 : Int) (newH r) (12 : Int))) (belowI r (0 : Int) (12 : Int))
        (belowH (newH r) (12 : Int)))
      (below r
        (belowI r (textI r (textN (below r (0 : Int) (newH r) (12 : Int))) (belowI r (0 : Int) (12 : Int))) (5 : Int))
        (belowH (textH (textN (below r (0 : Int) (newH r) (12 : Int))) (belowH (newH r) (12 : Int))) (5 : Int))
        (12 : Int)))]))))))))
             (.ask (decide
  (below r (textI r (textN (below r (0 : Int) (newH r) (12 : Int))) (belowI r (0 : Int) (12 : Int)))
      (textH (textN (below r (0 : Int) (newH r) (12 : Int))) (belowH (newH r) (12 : Int))) (5 : Int) =
    (2 : Int)))
              (.must true
               (.must (curOk r (belowI r (textI r (textN (below r (0 : Int) (newH r) (12 : Int))) (belowI r (0 : Int) (12 : Int))) (5 : Int)))
                (.must true
                 (.must true
                  (.ret [C.str
    (curText r (textN (below r (0 : Int) (newH r) (12 : Int))) (belowI r (0 : Int) (12 : Int))
      (belowH (newH r) (12 : Int))),
  C.str
    (curText r
      (textN
        (↑(curText r (textN (below r (0 : Int) (newH r) (12 : Int))) (belowI r (0 : Int) (12 : Int))
                (belowH (newH r) (12 : Int))).length :
          Int))
      (belowI r (textI r (textN (below r (0 : Int) (newH r) (12 : Int))) (belowI r (0 : Int) (12 : Int))) (5 : Int))
      (belowH (textH (textN (below r (0 : Int) (newH r) (12 : Int))) (belowH (newH r) (12 : Int))) (5 : Int)))])))))
              (.must true
               (.must (curOk r (belowI r (textI r (textN (below r (0 : Int) (newH r) (12 : Int))) (belowI r (0 : Int) (12 : Int))) (5 : Int)))
                (.must true
                 (.must true
                  (.must (curOk r
  (belowI r
    (belowI r (textI r (textN (below r (0 : Int) (newH r) (12 : Int))) (belowI r (0 : Int) (12 : Int))) (5 : Int))
    (90 : Int)))
                   (.must true
                    (.must true
                     (.must (decide
      ((curText r (textN (below r (0 : Int) (newH r) (12 : Int))) (belowI r (0 : Int) (12 : Int))
            (belowH (newH r) (12 : Int))).length ≤
        (1048576 : Nat)) &&
    decide
      ((-9223372036854775808 : Int) ≤
        below r
          (belowI r (textI r (textN (below r (0 : Int) (newH r) (12 : Int))) (belowI r (0 : Int) (12 : Int))) (5 : Int))
          (belowH (textH (textN (below r (0 : Int) (newH r) (12 : Int))) (belowH (newH r) (12 : Int))) (5 : Int))
          (90 : Int)) &&
  decide
    (below r
        (belowI r (textI r (textN (below r (0 : Int) (newH r) (12 : Int))) (belowI r (0 : Int) (12 : Int))) (5 : Int))
        (belowH (textH (textN (below r (0 : Int) (newH r) (12 : Int))) (belowH (newH r) (12 : Int))) (5 : Int))
        (90 : Int) ≤
      (9223372036854775807 : Int)))
                      (.must true
                       (.must true
                        (.ret [C.str
    (curText r (textN (below r (0 : Int) (newH r) (12 : Int))) (belowI r (0 : Int) (12 : Int))
      (belowH (newH r) (12 : Int))),
  C.str
    (turnOf
      (curText r (textN (below r (0 : Int) (newH r) (12 : Int))) (belowI r (0 : Int) (12 : Int))
        (belowH (newH r) (12 : Int)))
      (below r
        (belowI r (textI r (textN (below r (0 : Int) (newH r) (12 : Int))) (belowI r (0 : Int) (12 : Int))) (5 : Int))
        (belowH (textH (textN (below r (0 : Int) (newH r) (12 : Int))) (belowH (newH r) (12 : Int))) (5 : Int))
        (90 : Int))
      (IntKind.i64.wrap
        ((1 : Int) +
          IntKind.i64.wrap
            (below r
                (belowI r
                  (belowI r (textI r (textN (below r (0 : Int) (newH r) (12 : Int))) (belowI r (0 : Int) (12 : Int)))
                    (5 : Int))
                  (90 : Int))
                (belowH
                  (belowH (textH (textN (below r (0 : Int) (newH r) (12 : Int))) (belowH (newH r) (12 : Int)))
                    (5 : Int))
                  (90 : Int))
                (100000 : Int) *
              (40000 : Int)))))]))))))))))))))))))))))))) := by kernel_rfl
theorem sDrawBitsChanged_tree (H : List Pt → Nat → St → T (List C)) (r : List (List C)) : vBodyL E_sDrawBitsChanged noInl { params := [pCode], results := [rS, rS], nested := true } Try.f27 H [C.sl r] =
 (.must true
 (.must true
  (.must (curOk r (0 : Int))
   (.must true
    (.must true
     (.ret [C.str (twoA r), C.str (twoB r)])))))) := by kernel_rfl
end Go.Proofs.Ythpamcbipmkimaa.V

namespace Go.Proofs.Ythpamcbipmkimaa.V

theorem belowI_ok (rows : List (List C)) (i n : Int) (h : curOk rows i = true) : curOk rows (belowI rows i n) = true := by
  unfold belowI
  split
  · exact h
  · split
    · exact curI_ok rows i h
    · exact curI_ok _ _ (curI_ok _ _ (curI_ok _ _ (curI_ok rows i h)))
theorem dtI_ok (rows : List (List C)) (n i h : Int) (ho : curOk rows i = true) : curOk rows (dtI rows n i h) = true := textI_ok rows _ _ (belowI_ok rows i n ho)
theorem dtT_len (rows : List (List C)) (n i h : Int) (hn : 0 < n) (hn2 : n ≤ 5000) : (dtT rows n i h).length < n := by
  unfold dtT
  rw [curText_len]
  have := below_range rows i h n hn
  unfold textN
  split <;> omega
theorem dtAt_range (rows : List (List C)) (i h : Int) : -1 ≤ dtAt rows i h ∧ dtAt rows i h ≤ 9223372036854775807 := by
  have b := below_range rows i h 8 (by omega)
  unfold dtAt
  generalize (below rows i h 8).toNat = k at *
  match k with
  | 0 | 1 | 2 | 3 | 4 | 5 | 6 | 7 => decide
  | k + 8 => simp
theorem sDrawTurnBits_E : EnvSound Try.prog E_sDrawTurnBits := mkD_sound (by simp [sBelow_sound, sPickInt_sound, sText_sound])
theorem sDrawTurnBits_sound : Sound Try.prog 29 (⟨[pCode], [rS, rI, rI], true⟩) drawTurnSpec := vBody_sound sDrawTurnBits_E (sumInl_ok drawS_ok) Try.func29 (by kernel_rfl) fun cs outs hk h => by
  unfold drawTurnSpec at h
  split at h
  · simp only [Option.some.injEq, Prod.mk.injEq] at h
    obtain ⟨h1, rfl⟩ := h
    rename_i rows
    rw [vBody_L, sDrawTurnBits_tree]
    have o1 := belowI_ok rows 0 12 h1
    have o2 := textI_ok rows (textN (below rows 0 (newH rows) 12)) _ o1
    have o3 := belowI_ok rows _ 8 o2
    have o4 := belowI_ok rows _ 100000 o3
    have q8 : ((8 : Nat) : Int) = 8 := rfl
    rw [q8]
    have ro1 : rowsOk [K.int .i64] [[C.int .i64 0], [C.int .i64 1], [C.int .i64 7], [C.int .i64 8], [C.int .i64 40], [C.int .i64 95], [C.int .i64 (-1)], [C.int .i64 9223372036854775807]] = true := by decide
    have ro2 : ∀ x : Int, rowsOk [K.int .i64] [[C.int .i64 0], [C.int .i64 1], [C.int .i64 3], [C.int .i64 255], [C.int .i64 4294967295], [C.int .i64 2147483648], [C.int .i64 (-1)], [C.int .i64 4294967296], [C.int .i64 x]] = true := fun x => rfl
    simp only [eval_must', eval_ret', h1, o1, o2, o3, o4, ro1, ro2, if_true, Bool.true_and]
    rfl
  · cases h

theorem turnTo_len' (b : List UInt8) (a m : Int) : (turnOf b a m).length = b.length := turnTo_length b a m 32
theorem twoA_len (rows : List (List C)) : (twoA rows).length < 12 := by
  have := dtT_len rows 12 0 (newH rows) (by omega) (by omega)
  unfold twoA; omega
theorem cutOf_len (b : List UInt8) (n : Int) : (cutOf b n).length ≤ b.length := by unfold cutOf; simp; omega
theorem twoB_len (rows : List (List C)) : (twoB rows).length < 12 := by
  have ha := twoA_len rows
  unfold twoB
  repeat' split
  · exact ha
  · have := cutOf_len (twoA rows) (below rows (twoI' rows) (twoH' rows) 12); omega
  · rw [curText_len]; unfold textN; split <;> omega
  · rw [turnTo_len']; exact ha
theorem sTwo_E : EnvSound Try.prog E_sTwo := mkD_sound (by simp [sCutText_sound, sTurnBits_sound, sBelow_sound, sText_sound])
theorem sTwo_sound : Sound Try.prog 97 (⟨[pCode], [rS, rS], true⟩) twoSpec := vBody_sound sTwo_E (sumInl_ok drawS_ok) Try.func97 (by kernel_rfl) fun cs outs hk h => by
  unfold twoSpec at h
  split at h
  · simp only [Option.some.injEq, Prod.mk.injEq] at h
    obtain ⟨h1, rfl⟩ := h
    rename_i rows
    rw [vBody_L, sTwo_tree]
    have o1 := belowI_ok rows 0 12 h1
    have o2 := textI_ok rows (textN (below rows 0 (newH rows) 12)) _ o1
    have o3 := belowI_ok rows _ 5 o2
    have o4 := belowI_ok rows _ 90 o3
    have ha := twoA_len rows
    have b1 := below_range rows (belowI rows (textI rows (textN (below rows 0 (newH rows) 12)) (belowI rows 0 12)) 5) (belowH (textH (textN (below rows 0 (newH rows) 12)) (belowH (newH rows) 12)) 5) 90 (by omega)
    have b2 := below_range rows (belowI rows (belowI rows (textI rows (textN (below rows 0 (newH rows) 12)) (belowI rows 0 12)) 5) 90) (belowH (belowH (textH (textN (below rows 0 (newH rows) 12)) (belowH (newH rows) 12)) 5) 90) 100000 (by omega)
    have eA : curText rows (textN (below rows 0 (newH rows) 12)) (belowI rows 0 12) (belowH (newH rows) 12) = twoA rows := rfl
    have eS : below rows (textI rows (textN (below rows 0 (newH rows) 12)) (belowI rows 0 12)) (textH (textN (below rows 0 (newH rows) 12)) (belowH (newH rows) 12)) 5 = twoS rows := rfl
    rw [wrap64 (x := below rows (belowI rows (belowI rows (textI rows (textN (below rows 0 (newH rows) 12)) (belowI rows 0 12)) 5) 90) (belowH (belowH (textH (textN (below rows 0 (newH rows) 12)) (belowH (newH rows) 12)) 5) 90) 100000 * 40000) (by omega) (by omega), wrap64 (by omega) (by omega)]
    have l1 : decide ((twoA rows).length ≤ 1048576) = true := decide_eq_true (by omega)
    have l2 : ∀ x : Int, 0 ≤ x → x < 90 → (decide ((-9223372036854775808 : Int) ≤ x)) = true ∧ (decide (x ≤ (9223372036854775807 : Int))) = true := fun x h1 h2 => ⟨decide_eq_true (by omega), decide_eq_true (by omega)⟩
    have l3 := l2 _ b1.1 b1.2
    rw [eA, eS]
    by_cases s0 : twoS rows = 0
    · have eB : twoB rows = twoA rows := by unfold twoB; rw [if_pos s0]
      simp only [eval_must', eval_ask', eval_ret', h1, o1, o2, if_true, decide_eq_true_eq, s0, eB]
    · by_cases s1 : twoS rows = 1
      · have eB : twoB rows = cutOf (twoA rows) (below rows (twoI' rows) (twoH' rows) 12) := by unfold twoB; rw [if_neg s0, if_pos s1]
        have s1t := eq_true s1
        simp only [eval_must', eval_ask', eval_ret', h1, o1, o2, o3, if_true, decide_eq_true_eq, s0, s1t, if_false, eB]
        rfl
      · by_cases s2 : twoS rows = 2
        · have eB : twoB rows = curText rows (textN (twoA rows).length) (twoI' rows) (twoH' rows) := by unfold twoB; rw [if_neg s0, if_neg s1, if_pos s2]
          have s2t := eq_true s2
          simp only [eval_must', eval_ask', eval_ret', h1, o1, o2, o3, if_true, decide_eq_true_eq, s0, s1, s2t, if_false, eB]
          rfl
        · have eB : twoB rows = turnOf (twoA rows) (below rows (twoI' rows) (twoH' rows) 90) (1 + below rows (belowI rows (twoI' rows) 90) (belowH (twoH' rows) 90) 100000 * 40000) := by unfold twoB; rw [if_neg s0, if_neg s1, if_neg s2]
          simp only [eval_must', eval_ask', eval_ret', h1, o1, o2, o3, o4, l1, l3.1, l3.2, Bool.and_self, if_true, decide_eq_true_eq, s0, s1, s2, if_false, eB]
          rfl
  · cases h
theorem sDrawBitsChanged_E : EnvSound Try.prog E_sDrawBitsChanged := mkE_sound (by simp [sTwo_sound])
theorem sDrawBitsChanged_sound : Sound Try.prog 27 (⟨[pCode], [rS, rS], true⟩) twoSpec := vBody_sound sDrawBitsChanged_E noInl_ok Try.func27 (by kernel_rfl) fun cs outs hk h => by
  unfold twoSpec at h
  split at h
  · simp only [Option.some.injEq, Prod.mk.injEq] at h
    obtain ⟨h1, rfl⟩ := h
    rw [vBody_L, sDrawBitsChanged_tree]
    simp [eval_must', eval_ret', h1]
  · cases h

end Go.Proofs.Ythpamcbipmkimaa.V

namespace Go.Proofs.Ythpamcbipmkimaa.V
noncomputable section

def cnt (b c : List UInt8) : Nat → Int
  | 0 => 0
  | k + 1 => cnt b c k + (if dbit b c k then 1 else 0)
def turnAct (a m : Int) (len : Nat) (r : Nat) : Bool := decide (iand .i64 (ishr .i64 m r) 1 = 1 ∧ 0 ≤ a ∧ a + r < 8 * len)
def turnCount (a m : Int) (len : Nat) : Nat → Int
  | 0 => 0
  | r + 1 => turnCount a m len r + (if turnAct a m len r then 1 else 0)

def bigSpec : Spec := fun cs => match cs with
  | [.sl rows] => some (true, [.bool (decide (1048576 < rows.length))])
  | _ => none
def codeLaw : Spec := fun cs => match cs with
  | [.sl rows] => some (rowsOk [.int .u8] rows, [.bool true])
  | _ => none
def H_lFnBits (b c : List UInt8) (n : Int) (t : List UInt8) (a m k i : Int) : St := st0 [(3, wstr b), (4, wstr c), (5, int64 n), (6, wstr t), (7, int64 a), (8, int64 m), (9, int64 k), (10, int64 i)]
def E_lBig : Env := mkE [] []
def E_lFnBits : Env := mkE [(8, [3, 4, 5, 6, 7, 8, 9, 10])] [(31, (sg [pS, pI, pI] [rS]), turnSpec), (30, (sg [pS, pS] [rI]), (ss_spec bitsOf)), (28, (sg [pS, pS] [rI]), (ss_spec bitsOf)), (29, (⟨[pCode], [rS, rI, rI], true⟩), drawTurnSpec), (27, (⟨[pCode], [rS, rS], true⟩), twoSpec), (26, (sg [pCode] [rB]), bigSpec)]

end
end Go.Proofs.Ythpamcbipmkimaa.V

namespace Go.Proofs.Ythpamcbipmkimaa.V
set_option maxRecDepth 100000
theorem lBig_tree (H : List Pt → Nat → St → T (List C)) (r : List (List C)) : vBodyL E_lBig noInl (sg [pCode] [rB]) Try.f26 H [C.sl r] =
 (.must true
 (.ask (decide ((1048576 : Int) < (↑r.length : Int)))
  (.must true
   (.ret [C.bool true]))
  (.must true
   (.ret [C.bool false])))) := by kernel_rfl
theorem lFnBits_tree (H : List Pt → Nat → St → T (List C)) (r : List (List C)) : vBodyL E_lFnBits noInl (sg [pCode] [rB]) Try.f5 H [C.sl r] =
 (.must true
 (.must true
  (.must true
   (.must true
    (.ask (decide ((1048576 : Nat) < r.length))
     (.must true
      (.ret [C.bool true]))
     (.must true
      (.must (curOk r (0 : Int))
       (.must true
        (.must true
         (.must (decide ((twoA r).length ≤ (1048576 : Nat)) && decide ((twoB r).length ≤ (1048576 : Nat)))
          (.must true
           (.must true
            (.must (curOk r (0 : Int))
             (.must true
              (H [Pt.r, Pt.r, Pt.r, Pt.r, Pt.r, Pt.r, Pt.l, Pt.r, Pt.b] (9223372036854775808 : Nat) (H_lFnBits (twoA r) (twoB r) (bitsOf (twoA r) (twoB r)) (drawTurnT r) (drawTurnAt r) (drawTurnBits r) ((0 : Int)) ((0 : Int)))))))))))))))))) := by kernel_rfl
theorem lFnBits_round0 (H : List Pt → Nat → St → T (List C)) (b : List UInt8) (c : List UInt8) (n : Int) (t : List UInt8) (a : Int) (q : Int) (j : Int) (i : Int) (k : Nat) : vRound E_lFnBits noInl (sg [pCode] [rB]) Try.f5 H [Pt.r, Pt.r, Pt.r, Pt.r, Pt.r, Pt.r, Pt.l, Pt.r, Pt.b] k
  (H_lFnBits b c n t a q j i) =
 (.ask (decide (i < (32 : Int)))
 (.must (decide ((0 : Int) ≤ IntKind.u64.wrap i))
  (.ask (decide (iand IntKind.i64 (ishr IntKind.i64 q (IntKind.u64.wrap i)) (1 : Int) = (1 : Int)))
   (.ask (decide ((0 : Int) ≤ a))
    (.ask (decide (a < IntKind.i64.wrap (IntKind.i64.wrap ((8 : Int) * (↑t.length : Int)) - i)))
     (H [Pt.r, Pt.r, Pt.r, Pt.r, Pt.r, Pt.r, Pt.l, Pt.r, Pt.b] k (H_lFnBits (b) (c) (n) (t) (a) (q) (IntKind.i64.wrap (j + (1 : Int))) (IntKind.i64.wrap (i + (1 : Int)))))
     (H [Pt.r, Pt.r, Pt.r, Pt.r, Pt.r, Pt.r, Pt.l, Pt.r, Pt.b] k (H_lFnBits (b) (c) (n) (t) (a) (q) (j) (IntKind.i64.wrap (i + (1 : Int))))))
    (H [Pt.r, Pt.r, Pt.r, Pt.r, Pt.r, Pt.r, Pt.l, Pt.r, Pt.b] k (H_lFnBits (b) (c) (n) (t) (a) (q) (j) (IntKind.i64.wrap (i + (1 : Int))))))
   (H [Pt.r, Pt.r, Pt.r, Pt.r, Pt.r, Pt.r, Pt.l, Pt.r, Pt.b] k (H_lFnBits (b) (c) (n) (t) (a) (q) (j) (IntKind.i64.wrap (i + (1 : Int)))))))
 (.must true
  (.must (decide (b.length ≤ (1048576 : Nat)) && decide (c.length ≤ (1048576 : Nat)))
   (.must true
    (.ask (decide (n = bitsOf b c))
     (.must true
      (.must (decide (c.length ≤ (1048576 : Nat)) && decide (b.length ≤ (1048576 : Nat)))
       (.must true
        (.ask (decide (n = bitsOf c b))
         (.must true
          (.must (decide (t.length ≤ (1048576 : Nat)) && decide ((-9223372036854775808 : Int) ≤ a) &&
  decide (a ≤ (9223372036854775807 : Int)))
           (.must true
            (.must true
             (.must (decide (t.length ≤ (1048576 : Nat)) && decide ((turnOf t a q).length ≤ (1048576 : Nat)))
              (.must true
               (.ask (decide (bitsOf t (turnOf t a q) = j))
                (.must true
                 (.must true
                  (.must true
                   (.ask true
                    (.must true
                     (.ret [C.bool true]))
                    (.must true
                     (.ret [C.bool false]))))))
                (.must true
                 (.ret [C.bool false])))))))))
         (.must true
          (.ret [C.bool false]))))))
     (.must true
      (.ret [C.bool false]))))))) := by kernel_rfl
end Go.Proofs.Ythpamcbipmkimaa.V

namespace Go.Proofs.Ythpamcbipmkimaa.V

theorem count_fin : ∀ x : Fin 256, bitCount 8 ((x.val : Nat) : Int) = (if ((x.val : Nat) : Int) / 2 ^ 0 % 2 = 1 then 1 else 0) + (if ((x.val : Nat) : Int) / 2 ^ 1 % 2 = 1 then 1 else 0) + (if ((x.val : Nat) : Int) / 2 ^ 2 % 2 = 1 then 1 else 0) + (if ((x.val : Nat) : Int) / 2 ^ 3 % 2 = 1 then 1 else 0) + (if ((x.val : Nat) : Int) / 2 ^ 4 % 2 = 1 then 1 else 0) + (if ((x.val : Nat) : Int) / 2 ^ 5 % 2 = 1 then 1 else 0) + (if ((x.val : Nat) : Int) / 2 ^ 6 % 2 = 1 then 1 else 0) + (if ((x.val : Nat) : Int) / 2 ^ 7 % 2 = 1 then 1 else 0) := by decide +kernel
theorem count_of (x : Int) (h1 : 0 ≤ x) (h2 : x ≤ 255) : bitCount 8 x = (if x / 2 ^ 0 % 2 = 1 then 1 else 0) + (if x / 2 ^ 1 % 2 = 1 then 1 else 0) + (if x / 2 ^ 2 % 2 = 1 then 1 else 0) + (if x / 2 ^ 3 % 2 = 1 then 1 else 0) + (if x / 2 ^ 4 % 2 = 1 then 1 else 0) + (if x / 2 ^ 5 % 2 = 1 then 1 else 0) + (if x / 2 ^ 6 % 2 = 1 then 1 else 0) + (if x / 2 ^ 7 % 2 = 1 then 1 else 0) := by
  obtain ⟨n, rfl⟩ := Int.eq_ofNat_of_zero_le h1
  exact count_fin ⟨n, by omega⟩
theorem dbit_at (b c : List UInt8) (i p : Nat) (hp : p < 8) : (if dbit b c (8 * i + p) then (1 : Int) else 0) = if ixor .u8 (b.getD i 0).toNat (c.getD i 0).toNat / 2 ^ p % 2 = 1 then 1 else 0 := by
  have e1 : (8 * i + p) / 8 = i := by omega
  have e2 : (8 * i + p) % 8 = p := by omega
  simp only [dbit, e1, e2, decide_eq_true_eq]
theorem bitsTo_cnt (b c : List UInt8) : ∀ i, bitsTo b c i = cnt b c (8 * i)
  | 0 => rfl
  | i + 1 => by
    have x := ixor8_range ((b.getD i 0).toNat : Int) ((c.getD i 0).toNat : Int)
    have e : 8 * (i + 1) = 8 * i + 7 + 1 := by omega
    rw [bitsTo, bitsTo_cnt b c i, count_of _ x.1 x.2, e]
    simp only [cnt]
    have d := dbit_at b c i
    have d0 := d 0 (by omega); have d1 := d 1 (by omega); have d2 := d 2 (by omega); have d3 := d 3 (by omega)
    have d4 := d 4 (by omega); have d5 := d 5 (by omega); have d6 := d 6 (by omega); have d7 := d 7 (by omega)
    rw [Nat.add_zero] at d0
    rw [d0, d1, d2, d3, d4, d5, d6, d7]
    omega
theorem ixor8_comm (x y : Int) : ixor .u8 x y = ixor .u8 y x := by unfold ixor; rw [BitVec.xor_comm]
theorem bitsOf_comm (b c : List UInt8) : bitsOf b c = bitsOf c b := by
  have : ∀ i, bitsTo b c i = bitsTo c b i := by
    intro i
    induction i with
    | zero => rfl
    | succ i ih => simp only [bitsTo, ih, ixor8_comm]
  unfold bitsOf
  rw [this, Nat.min_comm, Nat.max_comm]
theorem flip_fin : ∀ x : Fin 256, ∀ p q : Fin 8, (decide ((((x.val ^^^ 2 ^ p.val : Nat) : Int)) / 2 ^ q.val % 2 = 1)) = if p = q then !decide (((x.val : Nat) : Int) / 2 ^ q.val % 2 = 1) else decide (((x.val : Nat) : Int) / 2 ^ q.val % 2 = 1) := by decide +kernel
theorem cnt_same (b c d : List UInt8) : ∀ n, (∀ k, k < n → dbit b d k = dbit b c k) → cnt b d n = cnt b c n
  | 0, _ => rfl
  | n + 1, h => by simp only [cnt, cnt_same b c d n (fun k hk => h k (by omega)), h n (by omega)]
theorem cnt_flip (b c d : List UInt8) (k0 : Nat) (h0 : dbit b c k0 = false) (h1 : dbit b d k0 = true) : ∀ n, k0 < n → (∀ k, k < n → k ≠ k0 → dbit b d k = dbit b c k) → cnt b d n = cnt b c n + 1
  | 0, h, _ => by omega
  | n + 1, h, hs => by
    simp only [cnt]
    by_cases hn : k0 = n
    · subst hn
      rw [cnt_same b c d k0 (fun k hk => hs k (by omega) (by omega)), h0, h1]
      simp
    · rw [cnt_flip b c d k0 h0 h1 n (by omega) (fun k hk hne => hs k (by omega) hne), hs n (by omega) (fun h => hn h.symm)]
      omega
theorem dbit_turn (t u : List UInt8) (a m : Int) (i : Nat) (hact : turnAct a m u.length i = true) (k : Nat) :
    dbit t (turnStep a m u i) k = if (a + i).toNat = k then !dbit t u k else dbit t u k := by
  simp only [turnAct, decide_eq_true_eq] at hact
  obtain ⟨h1, h2, h3⟩ := hact
  obtain ⟨a, rfl⟩ := Int.eq_ofNat_of_zero_le h2
  have e0 : ((a : Int) + i).toNat = a + i := by omega
  have e1 : (((a : Int) + i) / 8).toNat = (a + i) / 8 := by omega
  have e2 : ((a : Int) + i) % 8 = (((a + i) % 8 : Nat) : Int) := by omega
  have hj : (a + i) / 8 < u.length := by omega
  have hsh : ishl .u8 1 (((a + i) % 8 : Nat) : Int) = ((2 ^ ((a + i) % 8) : Nat) : Int) := by
    show IntKind.u8.wrap (1 * 2 ^ (min ((((a + i) % 8 : Nat) : Int).toNat) 8)) = _
    have : min ((((a + i) % 8 : Nat) : Int).toNat) 8 = (a + i) % 8 := by omega
    rw [this]
    have : 2 ^ ((a + i) % 8) ≤ 2 ^ 7 := Nat.pow_le_pow_right (by omega) (by omega)
    rw [wrapU8]
    · simp
    · simp; exact Int.pow_nonneg (by omega)
    · have h : ((2 ^ ((a + i) % 8) : Nat) : Int) ≤ 128 := by omega
      simpa using (by omega : ((2 ^ ((a + i) % 8) : Nat) : Int) ≤ 255)
  unfold turnStep
  rw [if_pos ⟨h1, h2, h3⟩, e0, e1, e2, hsh]
  unfold dbit
  have hb := byte_lt u ((a + i) / 8)
  have ht := byte_lt t ((a + i) / 8)
  have hp : 2 ^ ((a + i) % 8) < 256 := by
    have : 2 ^ ((a + i) % 8) ≤ 2 ^ 7 := Nat.pow_le_pow_right (by omega) (by omega)
    omega
  by_cases hk : k / 8 = (a + i) / 8
  · have g : (u.set ((a + i) / 8) (UInt8.ofNat (ixor .u8 ((u.getD ((a + i) / 8) 0).toNat : Int) ((2 ^ ((a + i) % 8) : Nat) : Int)).toNat)).getD (k / 8) 0 = UInt8.ofNat (ixor .u8 ((u.getD ((a + i) / 8) 0).toNat : Int) ((2 ^ ((a + i) % 8) : Nat) : Int)).toNat := by
      rw [hk]; simp [List.getD_eq_getElem?_getD, hj]
    rw [g, hk, ixor8_nat _ _ hb hp, Int.toNat_natCast]
    have hx : (u.getD ((a + i) / 8) 0).toNat ^^^ 2 ^ ((a + i) % 8) < 256 := Nat.xor_lt_two_pow (n := 8) hb hp
    rw [UInt8.toNat_ofNat_of_lt' (by show _ < 256; exact hx), ixor8_nat _ _ ht hx, ← Nat.xor_assoc, ixor8_nat _ _ ht hb]
    have hy : (t.getD ((a + i) / 8) 0).toNat ^^^ (u.getD ((a + i) / 8) 0).toNat < 256 := Nat.xor_lt_two_pow (n := 8) ht hb
    have := flip_fin ⟨_, hy⟩ ⟨(a + i) % 8, by omega⟩ ⟨k % 8, by omega⟩
    simp only [Fin.mk.injEq] at this
    rw [this]
    by_cases hq : (a + i) % 8 = k % 8
    · have : a + i = k := by omega
      rw [if_pos hq, if_pos this]
    · have : ¬ a + i = k := fun h => hq (by rw [h])
      rw [if_neg hq, if_neg this]
  · have g : (u.set ((a + i) / 8) (UInt8.ofNat (ixor .u8 ((u.getD ((a + i) / 8) 0).toNat : Int) ((2 ^ ((a + i) % 8) : Nat) : Int)).toNat)).getD (k / 8) 0 = u.getD (k / 8) 0 := by
      simp [List.getD_eq_getElem?_getD, List.getElem?_set, show ¬ (a + i) / 8 = k / 8 from fun h => hk h.symm]
    have : ¬ a + i = k := fun h => hk (by rw [h])
    rw [g, if_neg this]
theorem turn_clear (t : List UInt8) (a m : Int) (ha : 0 ≤ a) : ∀ i k : Nat, a + i ≤ k → dbit t (turnTo t a m i) k = false
  | 0, k, _ => dbit_same t t k rfl
  | i + 1, k, h => by
    have ih := turn_clear t a m ha i k (by omega)
    rw [turnTo_succ]
    cases hact : turnAct a m (turnTo t a m i).length i with
    | true =>
      rw [dbit_turn t _ a m i hact k, if_neg (by omega)]
      exact ih
    | false =>
      have : turnStep a m (turnTo t a m i) i = turnTo t a m i := by
        unfold turnStep
        rw [if_neg]
        intro h
        have : turnAct a m (turnTo t a m i).length i = true := by unfold turnAct; exact decide_eq_true h
        rw [hact] at this; cases this
      rw [this]; exact ih
theorem turn_cnt (t : List UInt8) (a m : Int) : ∀ i : Nat, cnt t (turnTo t a m i) (8 * t.length) = turnCount a m t.length i
  | 0 => by
    have : ∀ n, cnt t t n = 0 := by
      intro n
      induction n with
      | zero => rfl
      | succ n ih => simp only [cnt, ih, dbit_same t t n rfl]; simp
    exact this _
  | i + 1 => by
    have ih := turn_cnt t a m i
    have hl := turnTo_length t a m i
    rw [turnTo_succ]
    simp only [turnCount]
    rw [← ih]
    cases hact : turnAct a m t.length i with
    | true =>
      have hact' : turnAct a m (turnTo t a m i).length i = true := by rw [hl]; exact hact
      have hh := hact
      simp only [turnAct, decide_eq_true_eq] at hh
      have h0 := turn_clear t a m hh.2.1 i (a + i).toNat (by omega)
      rw [cnt_flip t (turnTo t a m i) (turnStep a m (turnTo t a m i) i) (a + i).toNat h0 (by rw [dbit_turn t _ a m i hact', if_pos rfl, h0]; rfl) _ (by omega) (fun k _ hk => by rw [dbit_turn t _ a m i hact', if_neg (fun h => hk h.symm)])]
      simp
    | false =>
      have : turnStep a m (turnTo t a m i) i = turnTo t a m i := by
        unfold turnStep
        rw [if_neg]
        intro h
        rw [hl] at h
        have : turnAct a m t.length i = true := by unfold turnAct; exact decide_eq_true h
        rw [hact] at this; cases this
      rw [this]; simp
theorem turn_bits (t : List UInt8) (a m : Int) : bitsOf t (turnOf t a m) = turnCount a m t.length 32 := by
  have hl : (turnOf t a m).length = t.length := turnTo_length t a m 32
  unfold bitsOf
  rw [hl, Nat.min_self, Nat.max_self, Nat.sub_self, bitsTo_cnt]
  have := turn_cnt t a m 32
  simpa [turnOf, turnTo] using this

theorem lBig_E : EnvSound Try.prog E_lBig := mkE_sound (by simp [])
theorem lBig_sound : Sound Try.prog 26 (sg [pCode] [rB]) bigSpec := vBody_sound lBig_E noInl_ok Try.func26 (by kernel_rfl) fun cs outs hk h => by
  unfold bigSpec at h
  split at h
  · simp only [Option.some.injEq, Prod.mk.injEq, true_and] at h
    rename_i rows
    rw [← h, vBody_L, lBig_tree]
    by_cases hb : 1048576 < rows.length
    · have : (1048576 : Int) < rows.length := by omega
      simp [eval_must', eval_ask', eval_ret', hb, this]
    · have : ¬ (1048576 : Int) < rows.length := by omega
      simp [eval_must', eval_ask', eval_ret', hb, this]
  · cases h
theorem bits_a : bitsOf [97] [] = 8 := by decide +kernel
theorem turnCount_range (a m : Int) (len : Nat) : ∀ i : Nat, 0 ≤ turnCount a m len i ∧ turnCount a m len i ≤ i
  | 0 => by simp [turnCount]
  | i + 1 => by simp only [turnCount]; have := turnCount_range a m len i; split <;> omega
theorem lFnBits_loop (b c t : List UInt8) (a m : Int) (hb : b.length ≤ 1048576) (hc : c.length ≤ 1048576) (ht : t.length ≤ 1048576) (ha1 : -9223372036854775808 ≤ a) (ha2 : a ≤ 9223372036854775807) : ∀ (n i : Nat), i ≤ 32 → 32 < i + n →
    (vLoop E_lFnBits noInl (sg [pCode] [rB]) Try.f5 [.r, .r, .r, .r, .r, .r, .l, .r, .b] n (H_lFnBits b c (bitsOf b c) t a m (turnCount a m t.length i) i)).eval = some [.bool true] := by
  intro n
  induction n with
  | zero => intro i h1 h2; omega
  | succ n ih =>
    intro i h1 h2
    rw [vLoop_L _ _ _ _ _ _ _ (by kernel_rfl), lFnBits_round0]
    by_cases hi : i < 32
    · have e := ih (i + 1) (by omega) (by omega)
      simp only [turnCount] at e
      have hr := turnCount_range a m t.length i
      have w1 : IntKind.i64.wrap ((i : Int) + 1) = ((i + 1 : Nat) : Int) := by rw [wrap64] <;> omega
      have w2 : IntKind.u64.wrap (i : Int) = i := by rw [wrapU64] <;> omega
      have w3 : IntKind.i64.wrap (8 * (t.length : Int)) = 8 * (t.length : Int) := by rw [wrap64] <;> omega
      have w4 : IntKind.i64.wrap (8 * (t.length : Int) - i) = 8 * (t.length : Int) - i := by rw [wrap64] <;> omega
      have w5 : IntKind.i64.wrap (turnCount a m t.length i + 1) = turnCount a m t.length i + 1 := by rw [wrap64] <;> omega
      have hi' : (i : Int) < 32 := by omega
      have hz : (0 : Int) ≤ i := by omega
      simp only [eval_must', eval_ask', decide_eq_true_eq, if_true, w1, w2, w3, w4, w5, hi', hz]
      by_cases p1 : iand .i64 (ishr .i64 m i) 1 = 1
      · by_cases p2 : 0 ≤ a
        · by_cases p3 : a < 8 * (t.length : Int) - i
          · have ht : turnAct a m t.length i = true := decide_eq_true ⟨p1, p2, by omega⟩
            rw [ht] at e
            simp only [p1, p2, p3, if_true] at e ⊢
            exact e
          · have ht : turnAct a m t.length i = false := decide_eq_false (fun h => p3 (by omega))
            rw [ht] at e
            simp only [p1, p2, p3, if_true, if_false, Bool.false_eq_true, Int.add_zero] at e ⊢
            exact e
        · have ht : turnAct a m t.length i = false := decide_eq_false (fun h => p2 h.2.1)
          rw [ht] at e
          simp only [p1, p2, if_true, if_false, Bool.false_eq_true, Int.add_zero] at e ⊢
          exact e
      · have ht : turnAct a m t.length i = false := decide_eq_false (fun h => p1 h.1)
        rw [ht] at e
        simp only [p1, if_false, Bool.false_eq_true, Int.add_zero] at e ⊢
        exact e
    · have : i = 32 := by omega
      subst this
      have hlt : ¬ (((32 : Nat) : Int) < 32) := by omega
      have tb := turn_bits t a m
      have tl : (turnOf t a m).length = t.length := turnTo_length t a m 32
      have cm := bitsOf_comm b c
      simp only [eval_must', eval_ask', eval_ret', decide_eq_true_eq, Bool.and_eq_true, hlt, if_false, hb, hc, ht, ha1, ha2, and_self, if_true, ← cm, tb, tl]
theorem dtAtRange (rows : List (List C)) : -9223372036854775808 ≤ drawTurnAt rows ∧ drawTurnAt rows ≤ 9223372036854775807 := by
  have := dtAt_range rows (dtI rows 12 0 (newH rows)) (dtH rows 12 0 (newH rows))
  unfold drawTurnAt; omega
theorem lFnBits_E : EnvSound Try.prog E_lFnBits := mkE_sound (by simp [sTurnBits_sound, sBitsChanged_sound, iBitsChanged_sound, sDrawTurnBits_sound, sDrawBitsChanged_sound, lBig_sound])
theorem lFnBits_sound : Sound Try.prog 5 (sg [pCode] [rB]) codeLaw := vBody_sound lFnBits_E noInl_ok Try.func5 (by kernel_rfl) fun cs outs hk h => by
  unfold codeLaw at h
  split at h
  · simp only [Option.some.injEq, Prod.mk.injEq] at h
    obtain ⟨h1, rfl⟩ := h
    rename_i rows
    rw [vBody_L, lFnBits_tree]
    by_cases hb : 1048576 < rows.length
    · simp [eval_must', eval_ask', eval_ret', hb]
    · have hok : curOk rows 0 = true := (curOk_iff rows 0).2 ⟨h1, by omega, by omega, by omega⟩
      have la := twoA_len rows
      have lb := twoB_len rows
      have lt : (drawTurnT rows).length < 12 := by have := dtT_len rows 12 0 (newH rows) (by omega) (by omega); unfold drawTurnT; omega
      have ra := dtAtRange rows
      have lp := lFnBits_loop (twoA rows) (twoB rows) (drawTurnT rows) (drawTurnAt rows) (drawTurnBits rows) (by omega) (by omega) (by omega) ra.1 ra.2 9223372036854775808 0 (by omega) (by omega)
      have l1 : (twoA rows).length ≤ 1048576 := by omega
      have l2 : (twoB rows).length ≤ 1048576 := by omega
      simp only [eval_must', eval_ask', decide_eq_true_eq, Bool.and_eq_true, hb, if_false, if_true, hok, l1, l2, and_self]
      exact lp
  · cases h

end Go.Proofs.Ythpamcbipmkimaa.V
