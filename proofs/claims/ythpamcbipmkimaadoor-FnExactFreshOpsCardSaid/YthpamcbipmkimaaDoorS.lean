/- Functions of the given program and of its reference: what each returns, as an equation over data; by the interpreter. -/
import Derived.Test.YthpamcbipmkimaaDoorVG
import Derived.Test.YthpamcbipmkimaaDoorProg
import Derived.KernelRfl
set_option linter.unusedVariables false
set_option linter.unusedSimpArgs false
set_option linter.unusedSectionVars false
set_option linter.deprecated false
namespace Go.Proofs.YthpamcbipmkimaaDoor.V
noncomputable section
def tyTab : List (TypeId × TI) := [(2, ⟨false, [.int .i64], [], 8, false⟩),
  (3, ⟨false, [.int .i64], [], 8, false⟩),
  (4, ⟨false, [.bool], [], 1, false⟩),
  (5, ⟨false, [.int .u8], [], 1, false⟩),
  (6, ⟨false, [.int .u8], [], 1, false⟩),
  (7, ⟨true, [.int .i64, .int .i64, .bool, .int .u8], [(0, 2), (1, 3), (2, 4), (3, 6)], 24, false⟩),
  (8, ⟨true, [.int .i64, .int .i64, .bool, .int .u8], [(0, 2), (1, 3), (2, 4), (3, 6)], 24, false⟩),
  (9, ⟨false, [.str], [], 16, false⟩),
  (10, ⟨false, [.str], [], 16, false⟩),
  (11, ⟨false, [.str], [], 16, false⟩),
  (12, ⟨false, [.int .u64], [], 8, false⟩),
  (13, ⟨true, [.str, .int .u64], [(0, 9), (1, 12)], 24, false⟩),
  (14, ⟨true, [.str, .int .u64], [(0, 9), (1, 12)], 24, false⟩),
  (21, ⟨false, [.int .i32], [], 4, false⟩),
  (22, ⟨false, [.slice 29], [], 24, false⟩),
  (28, ⟨true, [.int .i64, .str, .str, .str], [(0, 3), (1, 9), (2, 9), (3, 9)], 56, false⟩),
  (29, ⟨true, [.int .i64, .str, .str, .str], [(0, 3), (1, 9), (2, 9), (3, 9)], 56, true⟩),
  (32, ⟨false, [.slice 5], [], 24, false⟩),
  (33, ⟨false, [.int .u64], [], 8, false⟩),
  (51, ⟨false, [.int .u64], [], 8, false⟩),
  (56, ⟨false, [.int .u32], [], 4, false⟩),
  (78, ⟨false, [.int .u8], [], 1, false⟩),
  (79, ⟨false, [.int .u8], [], 1, false⟩),
  (81, ⟨false, [.int .i32], [], 4, false⟩),
  (82, ⟨false, [.int .i32], [], 4, false⟩)]
def arrTab : List (TypeId × Nat × TypeId) := [(50, 24, 5), (64, 20, 51), (65, 65, 5), (71, 32, 5), (72, 64, 5)]
def glTab : List (Nat × String) := [(0, "internal/strconv.uint64pow10"), (2, "math/bits.deBruijn32tab"), (3, "math/bits.deBruijn64tab")]
abbrev Laws := List (FuncId × Sig × Spec)
def mkE (lv : List (Nat × List Nat)) (gs : Laws) : Env := { Ty := tyOf tyTab, Γ := fun g => gs.lookup g, inl := fun _ => none, lv := fun h => (lv.lookup h).getD [], ren := true, fuel := 9223372036854775808, nt := 0, Arr := fun t => arrTab.lookup t, gl := glOf glTab }
abbrev pI : PTy := .val false [.int .i64]
abbrev pU8 : PTy := .val false [.int .u8]
abbrev pU32 : PTy := .val false [.int .u32]
abbrev pS : PTy := .val false [.str]
abbrev pB : PTy := .val false [.bool]
abbrev rI : RTy := ⟨false, [(.int .i64, false)]⟩
abbrev rU8 : RTy := ⟨false, [(.int .u8, false)]⟩
abbrev rU32 : RTy := ⟨false, [(.int .u32, false)]⟩
abbrev rB : RTy := ⟨false, [(.bool, false)]⟩
abbrev rS : RTy := ⟨false, [(.str, false)]⟩
abbrev sg (ps : List PTy) (rs : List RTy) : Sig := ⟨ps, rs, false⟩
abbrev int64 (n : Int) : W := .l (.i .i64 n)
abbrev wstr (s : List UInt8) : W := .l (.s s)
abbrev st0 (slots : List (Nat × W)) : St := { slots, heap := [], next := 0, pins := [] }
abbrev st1 (slots : List (Nat × W)) (sz : Nat) (rows : List (List C)) : St := { slots, heap := [(0, .arr sz rows)], next := 1, pins := [] }
theorem tyTab_ok : (tyTab.all fun p => tyB Tryd.prog p.1 p.2) = true := by kernel_rfl
theorem arrTab_ok : arrTabB Tryd.prog tyTab arrTab = true := by kernel_rfl
theorem glTab_ok : glB Tryd.prog glTab = true := by kernel_rfl
theorem mkE_sound {lv : List (Nat × List Nat)} {gs : Laws} (h : ∀ p, p ∈ gs → Sound Tryd.prog p.1 p.2.1 p.2.2) : EnvSound Tryd.prog (mkE lv gs) :=
  ⟨⟨(tys_ok tyTab_ok).1, fun g fn h => (by cases h), fun t m e te h1 h2 => arrs_ok arrTab_ok t m e te h1 h2, gls_ok glTab_ok⟩, fun g sig spec hl => h (g, sig, spec) (lookup_mem hl), fun g fn h => (by cases h), by kernel_rfl⟩
def E0 : Env := mkE [] []
theorem E0_sound : EnvSound Tryd.prog E0 := mkE_sound (by simp)
end
end Go.Proofs.YthpamcbipmkimaaDoor.V

namespace Go.Proofs.YthpamcbipmkimaaDoor.V
noncomputable section

/-- the kinds of a row's leaves -/
def rowsOk (ks : List K) (rows : List (List C)) : Bool := rows.all fun r => kindsOk r ks
abbrev eInt (n : Int) : List C := [.int .i64 n]
def rowInt (r : List C) : Int := (r.getD 0 (.fn 0 [])).toInt
def ints (rows : List (List C)) : List Int := rows.map rowInt
abbrev eStr (s : List UInt8) : List C := [.str s]
def rowStr (r : List C) : List UInt8 := (r.getD 0 (.fn 0 [])).toStr
def strs (rows : List (List C)) : List (List UInt8) := rows.map rowStr
abbrev pSl (t : TypeId) : PTy := .val false [.slice t]
abbrev rSl (t : TypeId) : RTy := ⟨false, [(.slice t, true)]⟩

end
end Go.Proofs.YthpamcbipmkimaaDoor.V

namespace Go.Proofs.YthpamcbipmkimaaDoor.V
set_option maxRecDepth 100000

end Go.Proofs.YthpamcbipmkimaaDoor.V

namespace Go.Proofs.YthpamcbipmkimaaDoor.V

theorem row_int {r : List C} (h : kindsOk r [.int .i64] = true) : r = eInt (rowInt r) := by
  cases r with
  | nil => simp [kindsOk] at h
  | cons c r =>
    cases r with
    | cons d r => simp [kindsOk] at h
    | nil =>
      cases c with
      | int k n => simp [kindsOk, C.is] at h; subst h; rfl
      | _ => simp [kindsOk, C.is] at h
theorem row_str {r : List C} (h : kindsOk r [.str] = true) : r = eStr (rowStr r) := by
  cases r with
  | nil => simp [kindsOk] at h
  | cons c r =>
    cases r with
    | cons d r => simp [kindsOk] at h
    | nil =>
      cases c with
      | str s => rfl
      | _ => simp [kindsOk, C.is] at h
theorem rows_ints {rows : List (List C)} (h : rowsOk [.int .i64] rows = true) : rows = (ints rows).map eInt := by
  simp only [rowsOk, List.all_eq_true] at h
  simp only [ints, List.map_map]
  rw [List.map_congr_left (g := id)]
  · simp
  · intro r hr; exact (row_int (h r hr)).symm
theorem rows_strs {rows : List (List C)} (h : rowsOk [.str] rows = true) : rows = (strs rows).map eStr := by
  simp only [rowsOk, List.all_eq_true] at h
  simp only [strs, List.map_map]
  rw [List.map_congr_left (g := id)]
  · simp
  · intro r hr; exact (row_str (h r hr)).symm
@[simp] theorem ints_map (l : List Int) : ints (l.map eInt) = l := by simp [ints, rowInt, Function.comp_def, C.toInt]
@[simp] theorem strs_map (l : List (List UInt8)) : strs (l.map eStr) = l := by simp [strs, rowStr, Function.comp_def, C.toStr]
@[simp] theorem rowsOk_ints (l : List Int) : rowsOk [.int .i64] (l.map eInt) = true := by simp [rowsOk, kindsOk, C.is]
@[simp] theorem rowsOk_strs (l : List (List UInt8)) : rowsOk [.str] (l.map eStr) = true := by simp [rowsOk, kindsOk, C.is]
theorem flat_ints (l : List Int) : ((l.map eInt).all fun r => r.all C.flat) = true := by simp [C.flat]
theorem flat_strs (l : List (List UInt8)) : ((l.map eStr).all fun r => r.all C.flat) = true := by simp [C.flat]
theorem map_getD {A : Type} (e : A → List C) (l : List A) (d : A) (i : Nat) (h : i < l.length) : (l.map e).getD i [] = e (l.getD i d) := by
  simp [List.getD_eq_getElem?_getD, h]
theorem copy_set {A : Type} (l : List A) (z : A) (d : A) (i : Nat) (h : i < l.length) : (l.take i ++ List.replicate (l.length - i) z).set i (l.getD i d) = l.take (i + 1) ++ List.replicate (l.length - (i + 1)) z := by
  have hlen : (l.take i).length = i := by simp; omega
  rw [List.set_append_right _ _ (by omega), hlen, Nat.sub_self]
  obtain ⟨m, hm⟩ : ∃ m, l.length - i = m + 1 := ⟨l.length - i - 1, by omega⟩
  have hm2 : l.length - (i + 1) = m := by omega
  rw [hm, hm2, List.replicate_succ, List.set_cons_zero, List.take_succ_eq_append_getElem h, List.append_assoc]
  simp [List.getD_eq_getElem?_getD, h]
/- what is known of data that fit -/
theorem fit_i64 {E : Env} {x : C} (h : Fit E (.int .i64) x) : ∃ n, x = .int .i64 n ∧ -9223372036854775808 ≤ n ∧ n ≤ 9223372036854775807 := by
  cases h with
  | int a b => exact ⟨_, rfl, a, b⟩
theorem fit_bool {E : Env} {x : C} (h : Fit E .bool x) : ∃ t, x = .bool t := by
  cases h with
  | bool => exact ⟨_, rfl⟩
theorem fit_str {E : Env} {x : C} (h : Fit E .str x) : ∃ s, x = .str s ∧ s.length ≤ 140737488351232 := by
  cases h with
  | str a => exact ⟨_, rfl, a⟩
theorem fit_sl {E : Env} {e : TypeId} {x : C} (h : Fit E (.slice e) x) : ∃ rows, x = .sl rows ∧ ∀ te, E.Ty e = some te → 1 ≤ te.bytes → rows.length ≤ 140737488351232 ∧ rowsOk te.leaves rows = true := by
  cases h with
  | @sl _ te rows h1 h2 h3 h4 =>
    refine ⟨rows, rfl, fun te' ht hb => ?_⟩
    rw [h1] at ht
    obtain rfl := Option.some.inj ht
    refine ⟨Nat.le_trans (Nat.le_mul_of_pos_right _ hb) h2, ?_⟩
    simp only [rowsOk, List.all_eq_true]
    intro r hr
    exact FitAll.kinds (E := E) ⟨h3 r hr, fun j kd y hj hy => h4 r hr j kd y hj hy⟩
theorem byte_lt (l : List UInt8) (j : Nat) : (l.getD j 0).toNat < 256 := (l.getD j 0).toNat_lt
theorem drop_cons {A : Type} (l : List A) (i : Nat) (d : A) (hi : i < l.length) : l.drop i = l.getD i d :: l.drop (i + 1) := by
  rw [List.drop_eq_getElem_cons hi]; simp [List.getD_eq_getElem?_getD, hi]
theorem row_append (l : List UInt8) (v : Nat) (h : v < 256) : (rowsOfStr l).append [[C.int .u8 (v : Int)]] = rowsOfStr (l ++ [UInt8.ofNat v]) := by
  have := rows_one (v : Int) (by omega) (by omega)
  rw [Int.toNat_natCast] at this
  rw [this, List.append_eq, rowsStr_append]

end Go.Proofs.YthpamcbipmkimaaDoor.V

namespace Go.Proofs.YthpamcbipmkimaaDoor.V
noncomputable section

def inB (n lo hi : Int) : Bool := decide (lo ≤ n) && decide (n ≤ hi)
def inSpec : Spec := fun cs => match cs with
  | [.int .i64 n, .int .i64 lo, .int .i64 hi] => some (true, [.bool (inB n lo hi)])
  | _ => none
def E_sIn : Env := mkE [] []
def E_iIn : Env := mkE [] []

end
end Go.Proofs.YthpamcbipmkimaaDoor.V

namespace Go.Proofs.YthpamcbipmkimaaDoor.V
set_option maxRecDepth 100000
theorem sIn_tree (H : List Pt → Nat → St → T (List C)) (n : Int) (a : Int) (b : Int) : vBodyL E_sIn noInl (sg [pI, pI, pI] [rB]) Tryd.f15 H [C.int IntKind.i64 n, C.int IntKind.i64 a, C.int IntKind.i64 b] =
 (.must true
 (.ask (decide (a ≤ n))
  (.ask (decide (n ≤ b))
   (.must true
    (.ret [C.bool true]))
   (.must true
    (.ret [C.bool false])))
  (.must true
   (.ret [C.bool false])))) := by kernel_rfl
theorem iIn_tree (H : List Pt → Nat → St → T (List C)) (n : Int) (a : Int) (b : Int) : vBodyL E_iIn noInl (sg [pI, pI, pI] [rB]) Tryd.f19 H [C.int IntKind.i64 n, C.int IntKind.i64 a, C.int IntKind.i64 b] =
 (.must true
 (.ask (decide (a ≤ n))
  (.ask (decide (n ≤ b))
   (.must true
    (.ret [C.bool true]))
   (.must true
    (.ret [C.bool false])))
  (.must true
   (.ret [C.bool false])))) := by kernel_rfl
end Go.Proofs.YthpamcbipmkimaaDoor.V

namespace Go.Proofs.YthpamcbipmkimaaDoor.V

theorem sIn_E : EnvSound Tryd.prog E_sIn := mkE_sound (by simp [])
theorem sIn_sound : Sound Tryd.prog 15 (sg [pI, pI, pI] [rB]) inSpec := vBody_sound sIn_E noInl_ok Tryd.func15 (by kernel_rfl) fun cs outs hk h => by
  unfold inSpec at h
  split at h
  · simp only [Option.some.injEq, Prod.mk.injEq, true_and] at h
    rw [← h, vBody_L, sIn_tree]
    simp only [eval_must', eval_ask', eval_ret', decide_eq_true_eq, if_true, inB]
    repeat' split
    all_goals first | rfl | (simp_all; done) | (simp_all; omega)
  · cases h
theorem iIn_E : EnvSound Tryd.prog E_iIn := mkE_sound (by simp [])
theorem iIn_sound : Sound Tryd.prog 19 (sg [pI, pI, pI] [rB]) inSpec := vBody_sound iIn_E noInl_ok Tryd.func19 (by kernel_rfl) fun cs outs hk h => by
  unfold inSpec at h
  split at h
  · simp only [Option.some.injEq, Prod.mk.injEq, true_and] at h
    rw [← h, vBody_L, iIn_tree]
    simp only [eval_must', eval_ask', eval_ret', decide_eq_true_eq, if_true, inB]
    repeat' split
    all_goals first | rfl | (simp_all; done) | (simp_all; omega)
  · cases h

end Go.Proofs.YthpamcbipmkimaaDoor.V

namespace Go.Proofs.YthpamcbipmkimaaDoor.V
noncomputable section

def isNumberSpec : Spec := fun cs => match cs with
  | [.int .i64 n] => some (true, [.bool (inB n 0 1000000000)])
  | _ => none
def E_iIsNumber : Env := mkE [] [(19, (sg [pI, pI, pI] [rB]), inSpec)]

def leBytes : Nat → Nat → List UInt8
  | 0, _ => []
  | k + 1, n => UInt8.ofNat (n % 256) :: leBytes k (n / 256)
def fixOf (n w : Int) : List UInt8 := if 0 ≤ n ∧ 1 ≤ w ∧ w ≤ 8 ∧ n.toNat < 256 ^ w.toNat then leBytes w.toNat n.toNat else []
def leVal : List UInt8 → Nat
  | [] => 0
  | c :: t => c.toNat + 256 * leVal t
def fixVal (b : List UInt8) (at' w : Int) : Nat := leVal ((b.drop at'.toNat).take w.toNat)
def fixOk (b : List UInt8) (at' w : Int) : Bool := decide (1 ≤ w ∧ w ≤ 8 ∧ 0 ≤ at' ∧ at' ≤ b.length - w ∧ fixVal b at' w < 9223372036854775808)
def fixRead (b : List UInt8) (at' w : Int) : Int := if fixOk b at' w then (fixVal b at' w : Int) else 0

end
end Go.Proofs.YthpamcbipmkimaaDoor.V

namespace Go.Proofs.YthpamcbipmkimaaDoor.V
set_option maxRecDepth 100000
theorem iIsNumber_tree (H : List Pt → Nat → St → T (List C)) (n : Int) : vBodyL E_iIsNumber noInl (sg [pI] [rB]) Tryd.f16 H [C.int IntKind.i64 n] =
 (.must true
 (.must true
  (.must true
   (.must true
    (.ask (inB n (0 : Int) (1000000000 : Int))
     (.must true
      (.ret [C.bool true]))
     (.must true
      (.ret [C.bool false]))))))) := by kernel_rfl
end Go.Proofs.YthpamcbipmkimaaDoor.V

namespace Go.Proofs.YthpamcbipmkimaaDoor.V

theorem iIsNumber_E : EnvSound Tryd.prog E_iIsNumber := mkE_sound (by simp [iIn_sound])
theorem iIsNumber_sound : Sound Tryd.prog 16 (sg [pI] [rB]) isNumberSpec := vBody_sound iIsNumber_E noInl_ok Tryd.func16 (by kernel_rfl) fun cs outs hk h => by
  unfold isNumberSpec at h
  split at h
  · simp only [Option.some.injEq, Prod.mk.injEq, true_and] at h
    rw [← h, vBody_L, iIsNumber_tree]
    rename_i n
    by_cases hb : inB n 0 1000000000 = true <;> simp [eval_must', eval_ask', eval_ret', hb]
  · cases h

theorem ishr64 (x : Int) (k : Nat) (hk : k < 64) : ishr .i64 x (k : Int) = x / 2 ^ k := by
  show x.fdiv (2 ^ (min ((k : Int).toNat) 64)) = _
  have : min ((k : Int).toNat) 64 = k := by omega
  rw [this, Int.fdiv_eq_ediv_of_nonneg]
  exact Int.pow_nonneg (by omega)
theorem ishr64_nat (x k : Nat) (hk : k < 64) : ishr .i64 (x : Int) (k : Int) = ((x / 2 ^ k : Nat) : Int) := by
  rw [ishr64 _ _ hk]
  simp
theorem wrapU8_mod (x : Int) : IntKind.u8.wrap x = x % 256 := by
  simp only [IntKind.wrap, IntKind.bits, IntKind.signed]
  simp
theorem pow256 (i : Nat) : (2 : Nat) ^ (8 * i) = 256 ^ i := by rw [Nat.pow_mul]
theorem leBytes_length : ∀ (k n : Nat), (leBytes k n).length = k
  | 0, _ => rfl
  | k + 1, n => by simp [leBytes, leBytes_length k]
theorem leBytes_succ : ∀ (k n : Nat), leBytes (k + 1) n = leBytes k n ++ [UInt8.ofNat (n / 256 ^ k % 256)]
  | 0, n => by simp [leBytes]
  | k + 1, n => by
    rw [leBytes, leBytes_succ k (n / 256)]
    simp only [leBytes, List.cons_append]
    rw [Nat.div_div_eq_div_mul, Nat.pow_succ, Nat.mul_comm 256 (256 ^ k)]

theorem in_iff (n a b : Int) : inB n a b = true ↔ a ≤ n ∧ n ≤ b := by simp [inB]

end Go.Proofs.YthpamcbipmkimaaDoor.V

namespace Go.Proofs.YthpamcbipmkimaaDoor.V
noncomputable section

def prefixOf (b t : List UInt8) : Bool := decide (b.take t.length = t)
def prefixSpec : Spec := fun cs => match cs with
  | [.str b, .str t] => some (true, [.bool (prefixOf b t)])
  | _ => none
def E_slHasPrefix : Env := mkE [] []
def E_sHasPrefix : Env := mkE [] [(33, (sg [pS, pS] [rB]), prefixSpec)]

end
end Go.Proofs.YthpamcbipmkimaaDoor.V

namespace Go.Proofs.YthpamcbipmkimaaDoor.V
set_option maxRecDepth 100000
theorem slHasPrefix_tree (H : List Pt → Nat → St → T (List C)) (b : List UInt8) (t : List UInt8) : vBodyL E_slHasPrefix noInl (sg [pS, pS] [rB]) Tryd.f33 H [C.str b, C.str t] =
 (.must true
 (.ask (decide ((↑t.length : Int) ≤ (↑b.length : Int)))
  (.must (decide ((0 : Int) ≤ (↑t.length : Int)) && decide ((↑t.length : Int) ≤ (↑b.length : Int)))
   (.ask (List.drop (0 : Nat) (List.take (↑t.length : Int).toNat b) == t)
    (.must true
     (.ret [C.bool true]))
    (.must true
     (.ret [C.bool false]))))
  (.must true
   (.ret [C.bool false])))) := by kernel_rfl
theorem sHasPrefix_tree (H : List Pt → Nat → St → T (List C)) (b : List UInt8) (t : List UInt8) : vBodyL E_sHasPrefix noInl (sg [pS, pS] [rB]) Tryd.f22 H [C.str b, C.str t] =
 (.must true
 (.must true
  (.must true
   (.must true
    (.ask (prefixOf b t)
     (.must true
      (.ret [C.bool true]))
     (.must true
      (.ret [C.bool false]))))))) := by kernel_rfl
end Go.Proofs.YthpamcbipmkimaaDoor.V

namespace Go.Proofs.YthpamcbipmkimaaDoor.V

theorem slHasPrefix_E : EnvSound Tryd.prog E_slHasPrefix := mkE_sound (by simp [])
theorem slHasPrefix_sound : Sound Tryd.prog 33 (sg [pS, pS] [rB]) prefixSpec := vBody_sound slHasPrefix_E noInl_ok Tryd.func33 (by kernel_rfl) fun cs outs hk h => by
  unfold prefixSpec at h
  split at h
  · simp only [Option.some.injEq, Prod.mk.injEq, true_and] at h
    rename_i b t
    rw [← h, vBody_L, slHasPrefix_tree]
    simp only [eval_must', eval_ask', eval_ret', if_true, decide_eq_true_eq, Bool.and_eq_true, Int.toNat_natCast, List.drop_zero, beq_iff_eq, Int.ofNat_le]
    by_cases hl : t.length ≤ b.length
    · have z : (0 : Int) ≤ (t.length : Int) := by omega
      by_cases he : b.take t.length = t
      · have : prefixOf b t = true := by unfold prefixOf; rw [decide_eq_true he]
        simp only [hl, z, he, if_true, and_self, this]
      · have : prefixOf b t = false := by unfold prefixOf; rw [decide_eq_false he]
        simp only [hl, z, he, if_true, if_false, and_self, this]
    · have : prefixOf b t = false := by
        unfold prefixOf
        rw [decide_eq_false]
        intro he
        have := congrArg List.length he
        simp at this
        omega
      simp only [hl, if_false, this]
  · cases h
theorem sHasPrefix_E : EnvSound Tryd.prog E_sHasPrefix := mkE_sound (by simp [slHasPrefix_sound])
theorem sHasPrefix_sound : Sound Tryd.prog 22 (sg [pS, pS] [rB]) prefixSpec := vBody_sound sHasPrefix_E noInl_ok Tryd.func22 (by kernel_rfl) fun cs outs hk h => by
  unfold prefixSpec at h
  split at h
  · simp only [Option.some.injEq, Prod.mk.injEq, true_and] at h
    rename_i b t
    rw [← h, vBody_L, sHasPrefix_tree]
    by_cases hp : prefixOf b t = true <;> simp [eval_must', eval_ask', eval_ret', hp]
  · cases h

end Go.Proofs.YthpamcbipmkimaaDoor.V

namespace Go.Proofs.YthpamcbipmkimaaDoor.V
noncomputable section

def tz16Spec : Spec := fun cs => match cs with
  | [.int .u64 n] => some (decide (n = 16), [.int .i64 4])
  | _ => none
def pow16Spec : Spec := fun cs => match cs with
  | [.int .i64 n] => some (decide (n = 16), [.bool true])
  | _ => none
abbrev pU64 : PTy := .val false [.int .u64]
/-- a figure of a number to the base 16 -/
def fig16 (n : Nat) : UInt8 := ([48, 49, 50, 51, 52, 53, 54, 55, 56, 57, 97, 98, 99, 100, 101, 102] : List UInt8).getD (n % 16) 0
/-- the figures behind which 'acc' stands -/
def hexGo : Nat → Nat → List UInt8 → List UInt8
  | 0, _, acc => acc
  | f + 1, n, acc => if 16 ≤ n then hexGo f (n / 16) (fig16 n :: acc) else fig16 n :: acc
def hexOf (n : Nat) : List UInt8 := hexGo 16 n []
def bits16Spec : Spec := fun cs => match cs with
  | [.sl [], .int .u64 u, .int .i64 base, .bool false, .bool false] => some (decide (base = 16) && (decide (0 ≤ u) && decide (u ≤ 1000000000)), [.sl [], .str (hexOf u.toNat)])
  | _ => none
def fmt16Spec : Spec := fun cs => match cs with
  | [.int .i64 n, .int .i64 base] => some (decide (base = 16) && (decide (0 ≤ n) && decide (n ≤ 1000000000)), [.str (hexOf n.toNat)])
  | _ => none
def H_fmtBits (u i s b m : Int) (r : List (List C)) : St := st1 [(0, .l (.sl [])), (1, .l (.i .u64 u)), (3, .l (.b false)), (4, .l (.b false)), (10, .l .nil), (11, .l (.s [])), (12, .l (.eptr 0 0 0)), (13, int64 i), (14, .l (.i .u64 s)), (15, .l (.i .u64 b)), (16, .l (.i .u64 m))] 1 r
def E_tz64 : Env := mkE [] []
def E_tz : Env := mkE [] [(44, (sg [pU64] [rI]), tz16Spec)]
def E_isPow : Env := mkE [] []
def E_fmtBits : Env := mkE [(11, [0, 1, 3, 4, 10, 11, 12, 13, 14, 15, 16]), (18, [0, 1, 3, 4, 10, 11, 12, 13, 17])] [(40, (sg [pU64] [rI]), tz16Spec), (39, (sg [pI] [rB]), pow16Spec)]

def E_fmtInt : Env := mkE [] [(30, (sg [pSl 5, pU64, pI, pB, pB] [rSl 5, rS]), bits16Spec)]
def E_fmtIntW : Env := mkE [] [(20, (sg [pI, pI] [rS]), fmt16Spec)]
def mul1Spec : Spec := fun cs => match cs with
  | [.int .u64 a, .int .u64 n] => some (decide (a = 1) && (decide (0 ≤ n) && decide (n ≤ 8)), [.int .u64 0, .int .u64 n])
  | _ => none
abbrev rU64 : RTy := ⟨false, [(.int .u64, false)]⟩
def E_mul64 : Env := mkE [] []
def E_mulW : Env := mkE [] [(32, (sg [pU64, pU64] [rU64, rU64]), mul1Spec)]
def rep0Spec : Spec := fun cs => match cs with
  | [.str s, .int .i64 n] => some (decide (s = [48]) && (decide (0 ≤ n) && decide (n ≤ 8)), [.str (List.replicate n.toNat 48)])
  | _ => none
def E_rep0 : Env := mkE [(38, [7, 8, 9])] [(22, (sg [pS, pS] [rB]), prefixSpec), (21, (sg [pU64, pU64] [rU64, rU64]), mul1Spec)]

def digK : Nat → Nat → List UInt8
  | 0, _ => []
  | k + 1, n => digK k (n / 16) ++ [fig16 n]
def segName (n : Int) : List UInt8 := if inB n 0 1000000000 then [115] ++ digK 8 n.toNat ++ [46, 115, 101, 103] else []
def segSpec : Spec := fun cs => match cs with
  | [.int .i64 n] => some (true, [.str (segName n)])
  | _ => none
def H_sSegmentName (n : Int) (q : Nat) (r : List (List C)) (i : Int) : St := st1 [(0, int64 n), (3, .l (.ref 0 0 q)), (4, int64 i)] 1 r
def E_sSegmentName : Env := mkE [(5, [0, 3, 4])] [(15, (sg [pI, pI, pI] [rB]), inSpec)]
def E_iSegmentName : Env := mkE [] [(16, (sg [pI] [rB]), isNumberSpec), (17, (sg [pI, pI] [rS]), fmt16Spec), (18, (sg [pS, pI] [rS]), rep0Spec)]

end
end Go.Proofs.YthpamcbipmkimaaDoor.V

namespace Go.Proofs.YthpamcbipmkimaaDoor.V
set_option maxRecDepth 100000
theorem tz64_tree (H : List Pt → Nat → St → T (List C)) : (vBodyL E_tz64 noInl (sg [pU64] [rI]) Tryd.f44 H [C.int IntKind.u64 (16 : Int)]).eval =
 ((.ret [C.int IntKind.i64 (IntKind.i64.wrap (4 : Int))]) : T (List C)).eval := evalEq (by kernel_rfl)
theorem tz_tree (H : List Pt → Nat → St → T (List C)) : (vBodyL E_tz noInl (sg [pU64] [rI]) Tryd.f40 H [C.int IntKind.u64 (16 : Int)]).eval =
 ((.ret [C.int IntKind.i64 ((4 : Int))]) : T (List C)).eval := evalEq (by kernel_rfl)
theorem isPow_tree (H : List Pt → Nat → St → T (List C)) : (vBodyL E_isPow noInl (sg [pI] [rB]) Tryd.f39 H [C.int IntKind.i64 (16 : Int)]).eval =
 ((.ret [C.bool true]) : T (List C)).eval := evalEq (by kernel_rfl)
theorem fmtBits_tree (H : List Pt → Nat → St → T (List C)) (u : Int) : (vBodyL E_fmtBits noInl (sg [pSl (5 : TypeId), pU64, pI, pB, pB] [rSl (5 : TypeId), rS]) Tryd.f30 H
  [C.sl [], C.int IntKind.u64 u, C.int IntKind.i64 (16 : Int), C.bool false, C.bool false]).eval =
 ((H [Pt.r, Pt.r, Pt.r, Pt.r, Pt.r, Pt.l, Pt.r, Pt.l, Pt.r, Pt.r, Pt.r, Pt.l, Pt.b] (9223372036854775808 : Nat) (H_fmtBits (u) ((65 : Int)) (IntKind.u64.wrap ((4 : Int))) (IntKind.u64.wrap ((16 : Int))) (IntKind.u64.wrap (IntKind.u64.wrap ((16 : Int)) - (1 : Int))) ([[C.int IntKind.u8 (0 : Int)], [C.int IntKind.u8 (0 : Int)], [C.int IntKind.u8 (0 : Int)], [C.int IntKind.u8 (0 : Int)],
  [C.int IntKind.u8 (0 : Int)], [C.int IntKind.u8 (0 : Int)], [C.int IntKind.u8 (0 : Int)],
  [C.int IntKind.u8 (0 : Int)], [C.int IntKind.u8 (0 : Int)], [C.int IntKind.u8 (0 : Int)],
  [C.int IntKind.u8 (0 : Int)], [C.int IntKind.u8 (0 : Int)], [C.int IntKind.u8 (0 : Int)],
  [C.int IntKind.u8 (0 : Int)], [C.int IntKind.u8 (0 : Int)], [C.int IntKind.u8 (0 : Int)],
  [C.int IntKind.u8 (0 : Int)], [C.int IntKind.u8 (0 : Int)], [C.int IntKind.u8 (0 : Int)],
  [C.int IntKind.u8 (0 : Int)], [C.int IntKind.u8 (0 : Int)], [C.int IntKind.u8 (0 : Int)],
  [C.int IntKind.u8 (0 : Int)], [C.int IntKind.u8 (0 : Int)], [C.int IntKind.u8 (0 : Int)],
  [C.int IntKind.u8 (0 : Int)], [C.int IntKind.u8 (0 : Int)], [C.int IntKind.u8 (0 : Int)],
  [C.int IntKind.u8 (0 : Int)], [C.int IntKind.u8 (0 : Int)], [C.int IntKind.u8 (0 : Int)],
  [C.int IntKind.u8 (0 : Int)], [C.int IntKind.u8 (0 : Int)], [C.int IntKind.u8 (0 : Int)],
  [C.int IntKind.u8 (0 : Int)], [C.int IntKind.u8 (0 : Int)], [C.int IntKind.u8 (0 : Int)],
  [C.int IntKind.u8 (0 : Int)], [C.int IntKind.u8 (0 : Int)], [C.int IntKind.u8 (0 : Int)],
  [C.int IntKind.u8 (0 : Int)], [C.int IntKind.u8 (0 : Int)], [C.int IntKind.u8 (0 : Int)],
  [C.int IntKind.u8 (0 : Int)], [C.int IntKind.u8 (0 : Int)], [C.int IntKind.u8 (0 : Int)],
  [C.int IntKind.u8 (0 : Int)], [C.int IntKind.u8 (0 : Int)], [C.int IntKind.u8 (0 : Int)],
  [C.int IntKind.u8 (0 : Int)], [C.int IntKind.u8 (0 : Int)], [C.int IntKind.u8 (0 : Int)],
  [C.int IntKind.u8 (0 : Int)], [C.int IntKind.u8 (0 : Int)], [C.int IntKind.u8 (0 : Int)],
  [C.int IntKind.u8 (0 : Int)], [C.int IntKind.u8 (0 : Int)], [C.int IntKind.u8 (0 : Int)],
  [C.int IntKind.u8 (0 : Int)], [C.int IntKind.u8 (0 : Int)], [C.int IntKind.u8 (0 : Int)],
  [C.int IntKind.u8 (0 : Int)], [C.int IntKind.u8 (0 : Int)], [C.int IntKind.u8 (0 : Int)],
  [C.int IntKind.u8 (0 : Int)]]))) : T (List C)).eval := evalEq (by kernel_rfl)
theorem fmtBits_round0 (H : List Pt → Nat → St → T (List C)) (u : Int) (i : Int) (s : Int) (b : Int) (m : Int) (r : List (List C)) (k : Nat) : vRound E_fmtBits noInl (sg [pSl (5 : TypeId), pU64, pI, pB, pB] [rSl (5 : TypeId), rS]) Tryd.f30 H
  [Pt.r, Pt.r, Pt.r, Pt.r, Pt.r, Pt.l, Pt.r, Pt.l, Pt.r, Pt.r, Pt.r, Pt.l, Pt.b] k (H_fmtBits u i s b m r) =
 (.ask (decide (b ≤ u))
 (.must (decide ((0 : Int) ≤ iand IntKind.u64 u m) && decide (iand IntKind.u64 u m < (↑(36 : Nat) : Int)))
  (.must (decide ((0 : Int) ≤ IntKind.i64.wrap (i - (1 : Int))) && decide (IntKind.i64.wrap (i - (1 : Int)) < (↑(65 : Nat) : Int)))
   (.must (decide ((IntKind.i64.wrap (i - (1 : Int))).toNat < r.length))
    (.must (decide ((0 : Int) ≤ s))
     (H [Pt.r, Pt.r, Pt.r, Pt.r, Pt.r, Pt.l, Pt.r, Pt.l, Pt.r, Pt.r, Pt.r, Pt.l, Pt.b] k (H_fmtBits (ishr IntKind.u64 u s) (IntKind.i64.wrap (i - (1 : Int))) (s) (b) (m) (r.set (IntKind.i64.wrap (i - (1 : Int))).toNat
  (C.int IntKind.u8
      (↑([(48 : UInt8), (49 : UInt8), (50 : UInt8), (51 : UInt8), (52 : UInt8), (53 : UInt8), (54 : UInt8),
                  (55 : UInt8), (56 : UInt8), (57 : UInt8), (97 : UInt8), (98 : UInt8), (99 : UInt8), (100 : UInt8),
                  (101 : UInt8), (102 : UInt8), (103 : UInt8), (104 : UInt8), (105 : UInt8), (106 : UInt8),
                  (107 : UInt8), (108 : UInt8), (109 : UInt8), (110 : UInt8), (111 : UInt8), (112 : UInt8),
                  (113 : UInt8), (114 : UInt8), (115 : UInt8), (116 : UInt8), (117 : UInt8), (118 : UInt8),
                  (119 : UInt8), (120 : UInt8), (121 : UInt8), (122 : UInt8)].getD
              (iand IntKind.u64 u m).toNat (0 : UInt8)).toNat :
        Int) ::
    List.drop ((0 : Nat) + (1 : Nat)) (r.getD (IntKind.i64.wrap (i - (1 : Int))).toNat [])))))))))
 (.must (decide ((0 : Int) ≤ u) && decide (u < (↑(36 : Nat) : Int)))
  (.must (decide ((0 : Int) ≤ IntKind.i64.wrap (i - (1 : Int))) && decide (IntKind.i64.wrap (i - (1 : Int)) < (↑(65 : Nat) : Int)))
   (.must (decide ((IntKind.i64.wrap (i - (1 : Int))).toNat < r.length))
    (.must (decide
  ((65 : Nat) =
    (r.set (IntKind.i64.wrap (i - (1 : Int))).toNat
        (C.int IntKind.u8
            (↑([(48 : UInt8), (49 : UInt8), (50 : UInt8), (51 : UInt8), (52 : UInt8), (53 : UInt8), (54 : UInt8),
                        (55 : UInt8), (56 : UInt8), (57 : UInt8), (97 : UInt8), (98 : UInt8), (99 : UInt8),
                        (100 : UInt8), (101 : UInt8), (102 : UInt8), (103 : UInt8), (104 : UInt8), (105 : UInt8),
                        (106 : UInt8), (107 : UInt8), (108 : UInt8), (109 : UInt8), (110 : UInt8), (111 : UInt8),
                        (112 : UInt8), (113 : UInt8), (114 : UInt8), (115 : UInt8), (116 : UInt8), (117 : UInt8),
                        (118 : UInt8), (119 : UInt8), (120 : UInt8), (121 : UInt8), (122 : UInt8)].getD
                    u.toNat (0 : UInt8)).toNat :
              Int) ::
          List.drop ((0 : Nat) + (1 : Nat)) (r.getD (IntKind.i64.wrap (i - (1 : Int))).toNat []))).length))
     (.must (decide ((0 : Int) ≤ IntKind.i64.wrap (i - (1 : Int))) && decide (IntKind.i64.wrap (i - (1 : Int)) ≤ (↑(65 : Nat) : Int)))
      (.must ((List.take ((65 : Nat) - (IntKind.i64.wrap (i - (1 : Int))).toNat)
      (List.drop (IntKind.i64.wrap (i - (1 : Int))).toNat
        (r.set (IntKind.i64.wrap (i - (1 : Int))).toNat
          (C.int IntKind.u8
              (↑([(48 : UInt8), (49 : UInt8), (50 : UInt8), (51 : UInt8), (52 : UInt8), (53 : UInt8), (54 : UInt8),
                          (55 : UInt8), (56 : UInt8), (57 : UInt8), (97 : UInt8), (98 : UInt8), (99 : UInt8),
                          (100 : UInt8), (101 : UInt8), (102 : UInt8), (103 : UInt8), (104 : UInt8), (105 : UInt8),
                          (106 : UInt8), (107 : UInt8), (108 : UInt8), (109 : UInt8), (110 : UInt8), (111 : UInt8),
                          (112 : UInt8), (113 : UInt8), (114 : UInt8), (115 : UInt8), (116 : UInt8), (117 : UInt8),
                          (118 : UInt8), (119 : UInt8), (120 : UInt8), (121 : UInt8), (122 : UInt8)].getD
                      u.toNat (0 : UInt8)).toNat :
                Int) ::
            List.drop ((0 : Nat) + (1 : Nat)) (r.getD (IntKind.i64.wrap (i - (1 : Int))).toNat []))))).all
  byteRow)
       (.must true
        (.ret [C.sl [],
  C.str
    (strOfRows
      (List.take ((65 : Nat) - (IntKind.i64.wrap (i - (1 : Int))).toNat)
        (List.drop (IntKind.i64.wrap (i - (1 : Int))).toNat
          (r.set (IntKind.i64.wrap (i - (1 : Int))).toNat
            (C.int IntKind.u8
                (↑([(48 : UInt8), (49 : UInt8), (50 : UInt8), (51 : UInt8), (52 : UInt8), (53 : UInt8), (54 : UInt8),
                            (55 : UInt8), (56 : UInt8), (57 : UInt8), (97 : UInt8), (98 : UInt8), (99 : UInt8),
                            (100 : UInt8), (101 : UInt8), (102 : UInt8), (103 : UInt8), (104 : UInt8), (105 : UInt8),
                            (106 : UInt8), (107 : UInt8), (108 : UInt8), (109 : UInt8), (110 : UInt8), (111 : UInt8),
                            (112 : UInt8), (113 : UInt8), (114 : UInt8), (115 : UInt8), (116 : UInt8), (117 : UInt8),
                            (118 : UInt8), (119 : UInt8), (120 : UInt8), (121 : UInt8), (122 : UInt8)].getD
                        u.toNat (0 : UInt8)).toNat :
                  Int) ::
              List.drop ((0 : Nat) + (1 : Nat)) (r.getD (IntKind.i64.wrap (i - (1 : Int))).toNat []))))))]))))))))) := by kernel_rfl
theorem fmtInt_tree (H : List Pt → Nat → St → T (List C)) (n : Int) : (vBodyL E_fmtInt noInl (sg [pI, pI] [rS]) Tryd.f20 H [C.int IntKind.i64 n, C.int IntKind.i64 (16 : Int)]).eval =
 ((.ask (decide (n < (0 : Int)))
 .bad
 (.must (decide ((16 : Int) = (16 : Int)) &&
  (decide ((0 : Int) ≤ IntKind.u64.wrap n) && decide (IntKind.u64.wrap n ≤ (1000000000 : Int))))
  (.ret [C.str (hexOf (IntKind.u64.wrap n).toNat)]))) : T (List C)).eval := evalEq (by kernel_rfl)
theorem fmtIntW_tree (H : List Pt → Nat → St → T (List C)) (n : Int) : (vBodyL E_fmtIntW noInl (sg [pI, pI] [rS]) Tryd.f17 H [C.int IntKind.i64 n, C.int IntKind.i64 (16 : Int)]).eval =
 ((.must (decide ((16 : Int) = (16 : Int)) && (decide ((0 : Int) ≤ n) && decide (n ≤ (1000000000 : Int))))
 (.ret [C.str (hexOf n.toNat)])) : T (List C)).eval := evalEq (by kernel_rfl)
theorem mul64_tree (H : List Pt → Nat → St → T (List C)) (n : Int) : (vBodyL E_mul64 noInl (sg [pU64, pU64] [rU64, rU64]) Tryd.f32 H [C.int IntKind.u64 (1 : Int), C.int IntKind.u64 n]).eval =
 ((.ret [C.int IntKind.u64
    (IntKind.u64.wrap
      (IntKind.u64.wrap
          (IntKind.u64.wrap (ishr IntKind.u64 ((1 : Int)) (32 : Int) * ishr IntKind.u64 n (32 : Int)) +
            ishr IntKind.u64
              (IntKind.u64.wrap
                (IntKind.u64.wrap
                    (ishr IntKind.u64 ((1 : Int)) (32 : Int) * iand IntKind.u64 n (4294967295 : Int)) +
                  ishr IntKind.u64
                    (IntKind.u64.wrap
                      (iand IntKind.u64 ((1 : Int)) (4294967295 : Int) *
                        iand IntKind.u64 n (4294967295 : Int)))
                    (32 : Int)))
              (32 : Int)) +
        ishr IntKind.u64
          (IntKind.u64.wrap
            (iand IntKind.u64
                (IntKind.u64.wrap
                  (IntKind.u64.wrap
                      (ishr IntKind.u64 ((1 : Int)) (32 : Int) * iand IntKind.u64 n (4294967295 : Int)) +
                    ishr IntKind.u64
                      (IntKind.u64.wrap
                        (iand IntKind.u64 ((1 : Int)) (4294967295 : Int) *
                          iand IntKind.u64 n (4294967295 : Int)))
                      (32 : Int)))
                (4294967295 : Int) +
              IntKind.u64.wrap
                (iand IntKind.u64 ((1 : Int)) (4294967295 : Int) * ishr IntKind.u64 n (32 : Int))))
          (32 : Int))),
  C.int IntKind.u64 (IntKind.u64.wrap ((1 : Int) * n))]) : T (List C)).eval := evalEq (by kernel_rfl)
theorem mulW_tree (H : List Pt → Nat → St → T (List C)) (n : Int) : (vBodyL E_mulW noInl (sg [pU64, pU64] [rU64, rU64]) Tryd.f21 H [C.int IntKind.u64 (1 : Int), C.int IntKind.u64 n]).eval =
 ((.must (decide ((1 : Int) = (1 : Int)) && (decide ((0 : Int) ≤ n) && decide (n ≤ (8 : Int))))
 (.ret [C.int IntKind.u64 ((0 : Int)), C.int IntKind.u64 n])) : T (List C)).eval := evalEq (by kernel_rfl)
theorem rep0_tree (H : List Pt → Nat → St → T (List C)) (n : Int) : (vBodyL E_rep0 noInl (sg [pS, pI] [rS]) Tryd.f18 H [C.str [(48 : UInt8)], C.int IntKind.i64 n]).eval =
 ((.ask (decide (n = (0 : Int)))
 (.ret [C.str []])
 (.ask (decide (n = (1 : Int)))
  (.ret [C.str [(48 : UInt8)]])
  (.ask (decide (n < (0 : Int)))
   .bad
   (.must (decide (IntKind.u64.wrap (↑[(48 : UInt8)].length : Int) = (1 : Int)) &&
  (decide ((0 : Int) ≤ IntKind.u64.wrap n) && decide (IntKind.u64.wrap n ≤ (8 : Int))))
    (.ask (decide ((9223372036854775807 : Int) < IntKind.u64.wrap n))
     .bad
     (.ask (decide (IntKind.i64.wrap (IntKind.u64.wrap n) ≤ (128 : Int)))
      (.ask (decide (IntKind.i64.wrap (IntKind.u64.wrap n) ≤ (128 : Int)))
       (.ask (decide (IntKind.i64.wrap (IntKind.u64.wrap n) ≤ (64 : Int)))
        (.must (decide ((0 : Int) ≤ IntKind.i64.wrap (IntKind.u64.wrap n)) &&
  decide (IntKind.i64.wrap (IntKind.u64.wrap n) ≤ (↑(64 : Nat) : Int)))
         (.ret [C.str
    (List.drop (0 : Nat)
      (List.take (IntKind.i64.wrap (IntKind.u64.wrap n)).toNat
        [(48 : UInt8), (48 : UInt8), (48 : UInt8), (48 : UInt8), (48 : UInt8), (48 : UInt8), (48 : UInt8), (48 : UInt8),
          (48 : UInt8), (48 : UInt8), (48 : UInt8), (48 : UInt8), (48 : UInt8), (48 : UInt8), (48 : UInt8),
          (48 : UInt8), (48 : UInt8), (48 : UInt8), (48 : UInt8), (48 : UInt8), (48 : UInt8), (48 : UInt8),
          (48 : UInt8), (48 : UInt8), (48 : UInt8), (48 : UInt8), (48 : UInt8), (48 : UInt8), (48 : UInt8),
          (48 : UInt8), (48 : UInt8), (48 : UInt8), (48 : UInt8), (48 : UInt8), (48 : UInt8), (48 : UInt8),
          (48 : UInt8), (48 : UInt8), (48 : UInt8), (48 : UInt8), (48 : UInt8), (48 : UInt8), (48 : UInt8),
          (48 : UInt8), (48 : UInt8), (48 : UInt8), (48 : UInt8), (48 : UInt8), (48 : UInt8), (48 : UInt8),
          (48 : UInt8), (48 : UInt8), (48 : UInt8), (48 : UInt8), (48 : UInt8), (48 : UInt8), (48 : UInt8),
          (48 : UInt8), (48 : UInt8), (48 : UInt8), (48 : UInt8), (48 : UInt8), (48 : UInt8), (48 : UInt8)]))]))
        (.ask (decide (IntKind.i64.wrap (IntKind.u64.wrap n) ≤ (128 : Int)))
         (.ask (decide (IntKind.i64.wrap (IntKind.u64.wrap n) ≤ (64 : Int)))
          (.ask (decide ((8192 : Int) < IntKind.i64.wrap (IntKind.u64.wrap n)))
           .bad
           .bad)
          (.ask (decide ((8192 : Int) < IntKind.i64.wrap (IntKind.u64.wrap n)))
           .bad
           .bad))
         (.ask (decide (IntKind.i64.wrap (IntKind.u64.wrap n) ≤ (64 : Int)))
          (.ask (decide ((8192 : Int) < IntKind.i64.wrap (IntKind.u64.wrap n)))
           .bad
           .bad)
          (.ask (decide ((8192 : Int) < IntKind.i64.wrap (IntKind.u64.wrap n)))
           .bad
           .bad))))
       (.ask (decide (IntKind.i64.wrap (IntKind.u64.wrap n) ≤ (64 : Int)))
        (.must (decide ((0 : Int) ≤ IntKind.i64.wrap (IntKind.u64.wrap n)) &&
  decide (IntKind.i64.wrap (IntKind.u64.wrap n) ≤ (↑(64 : Nat) : Int)))
         (.ret [C.str
    (List.drop (0 : Nat)
      (List.take (IntKind.i64.wrap (IntKind.u64.wrap n)).toNat
        [(48 : UInt8), (48 : UInt8), (48 : UInt8), (48 : UInt8), (48 : UInt8), (48 : UInt8), (48 : UInt8), (48 : UInt8),
          (48 : UInt8), (48 : UInt8), (48 : UInt8), (48 : UInt8), (48 : UInt8), (48 : UInt8), (48 : UInt8),
          (48 : UInt8), (48 : UInt8), (48 : UInt8), (48 : UInt8), (48 : UInt8), (48 : UInt8), (48 : UInt8),
          (48 : UInt8), (48 : UInt8), (48 : UInt8), (48 : UInt8), (48 : UInt8), (48 : UInt8), (48 : UInt8),
          (48 : UInt8), (48 : UInt8), (48 : UInt8), (48 : UInt8), (48 : UInt8), (48 : UInt8), (48 : UInt8),
          (48 : UInt8), (48 : UInt8), (48 : UInt8), (48 : UInt8), (48 : UInt8), (48 : UInt8), (48 : UInt8),
          (48 : UInt8), (48 : UInt8), (48 : UInt8), (48 : UInt8), (48 : UInt8), (48 : UInt8), (48 : UInt8),
          (48 : UInt8), (48 : UInt8), (48 : UInt8), (48 : UInt8), (48 : UInt8), (48 : UInt8), (48 : UInt8),
          (48 : UInt8), (48 : UInt8), (48 : UInt8), (48 : UInt8), (48 : UInt8), (48 : UInt8), (48 : UInt8)]))]))
        (.ask (decide (IntKind.i64.wrap (IntKind.u64.wrap n) ≤ (128 : Int)))
         (.ask (decide (IntKind.i64.wrap (IntKind.u64.wrap n) ≤ (64 : Int)))
          (.ask (decide ((8192 : Int) < IntKind.i64.wrap (IntKind.u64.wrap n)))
           .bad
           .bad)
          (.ask (decide ((8192 : Int) < IntKind.i64.wrap (IntKind.u64.wrap n)))
           .bad
           .bad))
         (.ask (decide (IntKind.i64.wrap (IntKind.u64.wrap n) ≤ (64 : Int)))
          (.ask (decide ((8192 : Int) < IntKind.i64.wrap (IntKind.u64.wrap n)))
           .bad
           .bad)
          (.ask (decide ((8192 : Int) < IntKind.i64.wrap (IntKind.u64.wrap n)))
           .bad
           .bad)))))
      (.ask (decide (IntKind.i64.wrap (IntKind.u64.wrap n) ≤ (128 : Int)))
       (.ask (decide (IntKind.i64.wrap (IntKind.u64.wrap n) ≤ (64 : Int)))
        (.must (decide ((0 : Int) ≤ IntKind.i64.wrap (IntKind.u64.wrap n)) &&
  decide (IntKind.i64.wrap (IntKind.u64.wrap n) ≤ (↑(64 : Nat) : Int)))
         (.ret [C.str
    (List.drop (0 : Nat)
      (List.take (IntKind.i64.wrap (IntKind.u64.wrap n)).toNat
        [(48 : UInt8), (48 : UInt8), (48 : UInt8), (48 : UInt8), (48 : UInt8), (48 : UInt8), (48 : UInt8), (48 : UInt8),
          (48 : UInt8), (48 : UInt8), (48 : UInt8), (48 : UInt8), (48 : UInt8), (48 : UInt8), (48 : UInt8),
          (48 : UInt8), (48 : UInt8), (48 : UInt8), (48 : UInt8), (48 : UInt8), (48 : UInt8), (48 : UInt8),
          (48 : UInt8), (48 : UInt8), (48 : UInt8), (48 : UInt8), (48 : UInt8), (48 : UInt8), (48 : UInt8),
          (48 : UInt8), (48 : UInt8), (48 : UInt8), (48 : UInt8), (48 : UInt8), (48 : UInt8), (48 : UInt8),
          (48 : UInt8), (48 : UInt8), (48 : UInt8), (48 : UInt8), (48 : UInt8), (48 : UInt8), (48 : UInt8),
          (48 : UInt8), (48 : UInt8), (48 : UInt8), (48 : UInt8), (48 : UInt8), (48 : UInt8), (48 : UInt8),
          (48 : UInt8), (48 : UInt8), (48 : UInt8), (48 : UInt8), (48 : UInt8), (48 : UInt8), (48 : UInt8),
          (48 : UInt8), (48 : UInt8), (48 : UInt8), (48 : UInt8), (48 : UInt8), (48 : UInt8), (48 : UInt8)]))]))
        (.ask (decide (IntKind.i64.wrap (IntKind.u64.wrap n) ≤ (128 : Int)))
         (.ask (decide (IntKind.i64.wrap (IntKind.u64.wrap n) ≤ (64 : Int)))
          (.ask (decide ((8192 : Int) < IntKind.i64.wrap (IntKind.u64.wrap n)))
           .bad
           .bad)
          (.ask (decide ((8192 : Int) < IntKind.i64.wrap (IntKind.u64.wrap n)))
           .bad
           .bad))
         (.ask (decide (IntKind.i64.wrap (IntKind.u64.wrap n) ≤ (64 : Int)))
          (.ask (decide ((8192 : Int) < IntKind.i64.wrap (IntKind.u64.wrap n)))
           .bad
           .bad)
          (.ask (decide ((8192 : Int) < IntKind.i64.wrap (IntKind.u64.wrap n)))
           .bad
           .bad))))
       (.ask (decide (IntKind.i64.wrap (IntKind.u64.wrap n) ≤ (64 : Int)))
        (.must (decide ((0 : Int) ≤ IntKind.i64.wrap (IntKind.u64.wrap n)) &&
  decide (IntKind.i64.wrap (IntKind.u64.wrap n) ≤ (↑(64 : Nat) : Int)))
         (.ret [C.str
    (List.drop (0 : Nat)
      (List.take (IntKind.i64.wrap (IntKind.u64.wrap n)).toNat
        [(48 : UInt8), (48 : UInt8), (48 : UInt8), (48 : UInt8), (48 : UInt8), (48 : UInt8), (48 : UInt8), (48 : UInt8),
          (48 : UInt8), (48 : UInt8), (48 : UInt8), (48 : UInt8), (48 : UInt8), (48 : UInt8), (48 : UInt8),
          (48 : UInt8), (48 : UInt8), (48 : UInt8), (48 : UInt8), (48 : UInt8), (48 : UInt8), (48 : UInt8),
          (48 : UInt8), (48 : UInt8), (48 : UInt8), (48 : UInt8), (48 : UInt8), (48 : UInt8), (48 : UInt8),
          (48 : UInt8), (48 : UInt8), (48 : UInt8), (48 : UInt8), (48 : UInt8), (48 : UInt8), (48 : UInt8),
          (48 : UInt8), (48 : UInt8), (48 : UInt8), (48 : UInt8), (48 : UInt8), (48 : UInt8), (48 : UInt8),
          (48 : UInt8), (48 : UInt8), (48 : UInt8), (48 : UInt8), (48 : UInt8), (48 : UInt8), (48 : UInt8),
          (48 : UInt8), (48 : UInt8), (48 : UInt8), (48 : UInt8), (48 : UInt8), (48 : UInt8), (48 : UInt8),
          (48 : UInt8), (48 : UInt8), (48 : UInt8), (48 : UInt8), (48 : UInt8), (48 : UInt8), (48 : UInt8)]))]))
        (.ask (decide (IntKind.i64.wrap (IntKind.u64.wrap n) ≤ (128 : Int)))
         (.ask (decide (IntKind.i64.wrap (IntKind.u64.wrap n) ≤ (64 : Int)))
          (.ask (decide ((8192 : Int) < IntKind.i64.wrap (IntKind.u64.wrap n)))
           .bad
           .bad)
          (.ask (decide ((8192 : Int) < IntKind.i64.wrap (IntKind.u64.wrap n)))
           .bad
           .bad))
         (.ask (decide (IntKind.i64.wrap (IntKind.u64.wrap n) ≤ (64 : Int)))
          (.ask (decide ((8192 : Int) < IntKind.i64.wrap (IntKind.u64.wrap n)))
           .bad
           .bad)
          (.ask (decide ((8192 : Int) < IntKind.i64.wrap (IntKind.u64.wrap n)))
           .bad
           .bad))))))))))) : T (List C)).eval := evalEq (by kernel_rfl)
theorem sSegmentName_tree (H : List Pt → Nat → St → T (List C)) (n : Int) : (vBodyL E_sSegmentName noInl (sg [pI] [rS]) Tryd.f10 H [C.int IntKind.i64 n]).eval =
 ((.ask (inB n (0 : Int) (1000000000 : Int))
 (H [Pt.r, Pt.r, Pt.r, Pt.l, Pt.r, Pt.b] (9223372036854775808 : Nat) (H_sSegmentName (n) ((0 : Nat)) ([]) ((7 : Int))))
 (.ret [C.str []])) : T (List C)).eval := evalEq (by kernel_rfl)
theorem iSegmentName_tree (H : List Pt → Nat → St → T (List C)) (n : Int) : (vBodyL E_iSegmentName noInl (sg [pI] [rS]) Tryd.f12 H [C.int IntKind.i64 n]).eval =
 ((.ask (inB n (0 : Int) (1000000000 : Int))
 (.must (decide ((16 : Int) = (16 : Int)) && (decide ((0 : Int) ≤ n) && decide (n ≤ (1000000000 : Int))))
  (.must (decide ([(48 : UInt8)] = [(48 : UInt8)]) &&
  (decide ((0 : Int) ≤ IntKind.i64.wrap ((8 : Int) - (↑(hexOf n.toNat).length : Int))) &&
    decide (IntKind.i64.wrap ((8 : Int) - (↑(hexOf n.toNat).length : Int)) ≤ (8 : Int))))
   (.must (decide
  ((1 : Nat) +
      (List.replicate (IntKind.i64.wrap ((8 : Int) - (↑(hexOf n.toNat).length : Int))).toNat (48 : UInt8)).length ≤
    (9223372036854775807 : Nat)))
    (.must (decide
  (([(115 : UInt8)] ++
          List.replicate (IntKind.i64.wrap ((8 : Int) - (↑(hexOf n.toNat).length : Int))).toNat (48 : UInt8)).length +
      (hexOf n.toNat).length ≤
    (9223372036854775807 : Nat)))
     (.must (decide
  (([(115 : UInt8)] ++
            List.replicate (IntKind.i64.wrap ((8 : Int) - (↑(hexOf n.toNat).length : Int))).toNat (48 : UInt8) ++
          hexOf n.toNat).length +
      (4 : Nat) ≤
    (9223372036854775807 : Nat)))
      (.ret [C.str
    ([(115 : UInt8)] ++
          List.replicate (IntKind.i64.wrap ((8 : Int) - (↑(hexOf n.toNat).length : Int))).toNat (48 : UInt8) ++
        hexOf n.toNat ++
      [(46 : UInt8), (115 : UInt8), (101 : UInt8), (103 : UInt8)])]))))))
 (.ret [C.str []])) : T (List C)).eval := evalEq (by kernel_rfl)
theorem sSegmentName_round0 (H : List Pt → Nat → St → T (List C)) (n : Int) (q : Nat) (r : List (List C)) (i : Int) (k : Nat) : (vRound E_sSegmentName noInl (sg [pI] [rS]) Tryd.f10 H [Pt.r, Pt.r, Pt.r, Pt.l, Pt.r, Pt.b] k (H_sSegmentName n q r i)).eval =
 ((.ask (decide ((0 : Int) ≤ i))
 (.must (decide ((0 : Int) ≤ IntKind.u64.wrap (IntKind.i64.wrap ((4 : Int) * i))))
  (.must (decide
    ((0 : Int) ≤
      iand IntKind.i64 (ishr IntKind.i64 n (IntKind.u64.wrap (IntKind.i64.wrap ((4 : Int) * i)))) (15 : Int)) &&
  decide
    (iand IntKind.i64 (ishr IntKind.i64 n (IntKind.u64.wrap (IntKind.i64.wrap ((4 : Int) * i)))) (15 : Int) <
      (↑(16 : Nat) : Int)))
   (.must (decide (q = r.length) && roomy (r.length + (1 : Nat)) (1 : Nat) && (decide ((1 : Nat) = (1 : Nat)) && true))
    (H [Pt.r, Pt.r, Pt.r, Pt.l, Pt.r, Pt.b] k (H_sSegmentName (n) (r.length + (1 : Nat)) (r.append
  [[C.int IntKind.u8
        (↑([(48 : UInt8), (49 : UInt8), (50 : UInt8), (51 : UInt8), (52 : UInt8), (53 : UInt8), (54 : UInt8),
                    (55 : UInt8), (56 : UInt8), (57 : UInt8), (97 : UInt8), (98 : UInt8), (99 : UInt8), (100 : UInt8),
                    (101 : UInt8), (102 : UInt8)].getD
                (iand IntKind.i64 (ishr IntKind.i64 n (IntKind.u64.wrap (IntKind.i64.wrap ((4 : Int) * i))))
                    (15 : Int)).toNat
                (0 : UInt8)).toNat :
          Int)]]) (IntKind.i64.wrap (i - (1 : Int))))))))
 (.must ((List.take q r).all byteRow)
  (.must (decide ((1 : Nat) + (strOfRows (List.take q r)).length ≤ (9223372036854775807 : Nat)))
   (.must (decide (([(115 : UInt8)] ++ strOfRows (List.take q r)).length + (4 : Nat) ≤ (9223372036854775807 : Nat)))
    (.ret [C.str ([(115 : UInt8)] ++ strOfRows (List.take q r) ++ [(46 : UInt8), (115 : UInt8), (101 : UInt8), (103 : UInt8)])]))))) : T (List C)).eval := evalEq (by kernel_rfl)
end Go.Proofs.YthpamcbipmkimaaDoor.V

namespace Go.Proofs.YthpamcbipmkimaaDoor.V

theorem iand15 (n : Nat) (hn : n < 18446744073709551616) : iand .u64 (n : Int) 15 = ((n % 16 : Nat) : Int) := by
  have e : (BitVec.ofInt 64 (n : Int) &&& BitVec.ofInt 64 15).toNat = n % 16 := by
    rw [BitVec.toNat_and]
    have h1 : (BitVec.ofInt 64 (n : Int)).toNat = n := by simp; omega
    have h2 : (BitVec.ofInt 64 (15 : Int)).toNat = 15 := by decide
    rw [h1, h2]
    exact Nat.and_two_pow_sub_one_eq_mod n 4
  show IntKind.u64.wrap ((BitVec.ofInt 64 (n : Int) &&& BitVec.ofInt 64 15).toNat : Int) = _
  rw [e, wrapU64] <;> omega
theorem ishr4 (n : Nat) : ishr .u64 (n : Int) 4 = ((n / 16 : Nat) : Int) := by
  unfold ishr
  simp [IntKind.bits]
  rw [Int.fdiv_eq_ediv_of_nonneg _ (by decide)]
theorem fig_store (k : Nat) (hk : k < 16) : ((([48, 49, 50, 51, 52, 53, 54, 55, 56, 57, 97, 98, 99, 100, 101, 102, 103, 104, 105, 106, 107, 108, 109, 110, 111, 112, 113, 114, 115, 116, 117, 118, 119, 120, 121, 122] : List UInt8).getD k 0).toNat : Int) = ((fig16 k).toNat : Int) := by
  revert hk; revert k; decide
theorem fig_mod (n : Nat) : fig16 (n % 16) = fig16 n := by unfold fig16; rw [Nat.mod_mod]
theorem rows_set1 (l : List UInt8) (j : Nat) (hj : j < l.length) (v : UInt8) : (rowsOfStr l).set j (C.int .u8 ((v.toNat : Nat) : Int) :: List.drop (0 + 1) ((rowsOfStr l).getD j [])) = rowsOfStr (l.set j v) := by
  rw [rows_get l j hj]
  simp [rowsOfStr, List.map_set]
theorem set_drop (l : List UInt8) (j : Nat) (hj : j < l.length) (v : UInt8) : (l.set j v).drop j = v :: l.drop (j + 1) := by
  rw [List.drop_eq_getElem_cons (by simpa using hj)]
  simp [List.drop_set]
theorem tz64_E : EnvSound Tryd.prog E_tz64 := mkE_sound (by simp [])
theorem tz64_sound : Sound Tryd.prog 44 (sg [pU64] [rI]) tz16Spec := vBody_sound tz64_E noInl_ok Tryd.func44 (by kernel_rfl) fun cs outs hk h => by
  unfold tz16Spec at h
  split at h
  · simp only [Option.some.injEq, Prod.mk.injEq, decide_eq_true_eq] at h
    obtain ⟨rfl, rfl⟩ := h
    rw [vBody_L, tz64_tree]
    rfl
  · cases h
theorem tz_E : EnvSound Tryd.prog E_tz := mkE_sound (by simp [tz64_sound])
theorem tz_sound : Sound Tryd.prog 40 (sg [pU64] [rI]) tz16Spec := vBody_sound tz_E noInl_ok Tryd.func40 (by kernel_rfl) fun cs outs hk h => by
  unfold tz16Spec at h
  split at h
  · simp only [Option.some.injEq, Prod.mk.injEq, decide_eq_true_eq] at h
    obtain ⟨rfl, rfl⟩ := h
    rw [vBody_L, tz_tree]
    rfl
  · cases h
theorem isPow_E : EnvSound Tryd.prog E_isPow := mkE_sound (by simp [])
theorem isPow_sound : Sound Tryd.prog 39 (sg [pI] [rB]) pow16Spec := vBody_sound isPow_E noInl_ok Tryd.func39 (by kernel_rfl) fun cs outs hk h => by
  unfold pow16Spec at h
  split at h
  · simp only [Option.some.injEq, Prod.mk.injEq, decide_eq_true_eq] at h
    obtain ⟨rfl, rfl⟩ := h
    rw [vBody_L, isPow_tree]
    rfl
  · cases h
theorem fmtBits_last (n f i u : Nat) (l : List UInt8) (h1 : u < 16) (h2 : 1 ≤ i) (h3 : i ≤ 65) (h4 : l.length = 65) (h6 : 0 < n) (h7 : 0 < f) :
    (vLoop E_fmtBits noInl (sg [pSl 5, pU64, pI, pB, pB] [rSl 5, rS]) Tryd.f30 [.r, .r, .r, .r, .r, .l, .r, .l, .r, .r, .r, .l, .b] n (H_fmtBits u i 4 16 15 (rowsOfStr l))).eval = some [.sl [], .str (hexGo f u (l.drop i))] := by
    obtain ⟨n, rfl⟩ : ∃ g, n = g + 1 := ⟨n - 1, by omega⟩
    obtain ⟨f, rfl⟩ : ∃ g, f = g + 1 := ⟨f - 1, by omega⟩
    rw [vLoop_L _ _ _ _ _ _ _ (by kernel_rfl), fmtBits_round0]
    obtain ⟨j, rfl⟩ : ∃ j, i = j + 1 := ⟨i - 1, by omega⟩
    have w : IntKind.i64.wrap (((j + 1 : Nat) : Int) - 1) = (j : Int) := by rw [wrap64] <;> omega
    have c1 : ¬ (16 : Int) ≤ (u : Int) := by omega
    have hj : j < l.length := by omega
    have fs := fig_store u h1
    have rs := rows_set1 l j hj (fig16 u)
    rw [← fs] at rs
    have ln : (l.set j (fig16 u)).length = 65 := by simpa using h4
    have hx : ¬ 16 ≤ u := by omega
    simp only [hexGo, if_neg hx]
    have tk : List.take (65 - j) (rowsOfStr (List.drop j (l.set j (fig16 u)))) = rowsOfStr (fig16 u :: l.drop (j + 1)) := by
      rw [set_drop l j hj, List.take_of_length_le]
      simp [rows_length]; omega
    have b1 : (u : Int) < (↑(36 : Nat) : Int) := by omega
    have b2 : (j : Int) < (↑(65 : Nat) : Int) := by omega
    have b3 : (j : Int) ≤ (↑(65 : Nat) : Int) := by omega
    have z1 : (0 : Int) ≤ (u : Int) := by omega
    have z2 : (0 : Int) ≤ (j : Int) := by omega
    simp only [eval_must', eval_ask', eval_ret', w, Int.toNat_natCast, rs, decide_eq_true_eq, c1, if_false, b1, b2, b3, z1, z2, decide_true, Bool.and_self, if_true, rows_length, ln, hj, rows_drop, tk, rows_bytes, str_rows]
theorem fmtBits_loop : ∀ (k n f i u : Nat) (l : List UInt8), u < 16 ^ (k + 1) → k + 1 ≤ i → i ≤ 65 → l.length = 65 → k < 15 → k < n → k < f →
    (vLoop E_fmtBits noInl (sg [pSl 5, pU64, pI, pB, pB] [rSl 5, rS]) Tryd.f30 [.r, .r, .r, .r, .r, .l, .r, .l, .r, .r, .r, .l, .b] n (H_fmtBits u i 4 16 15 (rowsOfStr l))).eval = some [.sl [], .str (hexGo f u (l.drop i))] := by
  intro k
  induction k with
  | zero =>
    intro n f i u l h1 h2 h3 h4 h5 h6 h7
    exact fmtBits_last n f i u l (by simpa using h1) h2 h3 h4 h6 h7
  | succ k ih =>
    intro n f i u l h1 h2 h3 h4 h5 h6 h7
    by_cases hu : u < 16
    · exact fmtBits_last n f i u l hu (by omega) h3 h4 (by omega) (by omega)
    · obtain ⟨n, rfl⟩ : ∃ g, n = g + 1 := ⟨n - 1, by omega⟩
      obtain ⟨f, rfl⟩ : ∃ g, f = g + 1 := ⟨f - 1, by omega⟩
      have h8 : u < 18446744073709551616 := by
        have : 16 ^ (k + 1 + 1) ≤ 16 ^ 16 := Nat.pow_le_pow_right (by omega) (by omega)
        have e : (16 : Nat) ^ 16 = 18446744073709551616 := by decide
        omega
      obtain ⟨j, rfl⟩ : ∃ j, i = j + 1 := ⟨i - 1, by omega⟩
      have hj : j < l.length := by omega
      have e := ih n f j (u / 16) (l.set j (fig16 (u % 16))) (by rw [Nat.div_lt_iff_lt_mul (by omega)]; rw [Nat.pow_succ] at h1; exact h1) (by omega) (by omega) (by simpa using h4) (by omega) (by omega) (by omega)
      rw [vLoop_L _ _ _ _ _ _ _ (by kernel_rfl), fmtBits_round0]
      have w : IntKind.i64.wrap (((j + 1 : Nat) : Int) - 1) = (j : Int) := by rw [wrap64] <;> omega
      have c1 : (16 : Int) ≤ (u : Int) := by omega
      have fs := fig_store (u % 16) (by omega)
      have rs := rows_set1 l j hj (fig16 (u % 16))
      rw [← fs, fig_mod] at rs
      have hx : 16 ≤ u := by omega
      simp only [hexGo, if_pos hx]
      rw [set_drop l j hj, fig_mod] at e
      have b1 : ((u % 16 : Nat) : Int) < (↑(36 : Nat) : Int) := by omega
      have b2 : (j : Int) < (↑(65 : Nat) : Int) := by omega
      have z1 : (0 : Int) ≤ ((u % 16 : Nat) : Int) := by omega
      have z2 : (0 : Int) ≤ (j : Int) := by omega
      have z4 : (0 : Int) ≤ 4 := by omega
      simp only [eval_must', eval_ask', w, iand15 u h8, ishr4, Int.toNat_natCast, rs, decide_eq_true_eq, c1, if_true, b1, b2, z1, z2, z4, decide_true, Bool.and_self, rows_length, hj]
      exact e
theorem fmtBits_E : EnvSound Tryd.prog E_fmtBits := mkE_sound (by simp [tz_sound, isPow_sound])
theorem fmtBits_sound : Sound Tryd.prog 30 (sg [pSl 5, pU64, pI, pB, pB] [rSl 5, rS]) bits16Spec := vBody_sound fmtBits_E noInl_ok Tryd.func30 (by kernel_rfl) fun cs outs hk h => by
  unfold bits16Spec at h
  split at h
  · simp only [Option.some.injEq, Prod.mk.injEq, Bool.and_eq_true, decide_eq_true_eq] at h
    obtain ⟨⟨rfl, h1, h2⟩, rfl⟩ := h
    rename_i u
    obtain ⟨n, rfl⟩ := Int.eq_ofNat_of_zero_le h1
    rw [vBody_L, fmtBits_tree]
    have lp := fmtBits_loop 7 9223372036854775808 16 65 n (List.replicate 65 0) (by omega) (by omega) (by omega) (by simp) (by omega) (by omega) (by omega)
    have e1 : List.drop 65 (List.replicate 65 (0 : UInt8)) = [] := rfl
    rw [e1] at lp
    have d1 : decide (Int.ofNat 16 < (2 : Int)) = false := by decide
    have d2 : decide ((36 : Int) < Int.ofNat 16) = false := by decide
    simp only [eval_must', eval_ask', d1, d2, if_true, Bool.false_eq_true, if_false]
    exact Eq.trans (congrArg (fun s => (vLoop E_fmtBits noInl (sg [pSl 5, pU64, pI, pB, pB] [rSl 5, rS]) Tryd.f30 [.r, .r, .r, .r, .r, .l, .r, .l, .r, .r, .r, .l, .b] 9223372036854775808 s).eval) (rfl : _ = H_fmtBits n ((65 : Nat) : Int) 4 16 15 (rowsOfStr (List.replicate 65 0)))) lp
  · cases h

theorem wrapU64_small {n : Int} (h1 : 0 ≤ n) (h2 : n ≤ 1000000000) : IntKind.u64.wrap n = n := by rw [wrapU64] <;> omega
theorem fmtInt_E : EnvSound Tryd.prog E_fmtInt := mkE_sound (by simp [fmtBits_sound])
theorem fmtInt_sound : Sound Tryd.prog 20 (sg [pI, pI] [rS]) fmt16Spec := vBody_sound fmtInt_E noInl_ok Tryd.func20 (by kernel_rfl) fun cs outs hk h => by
  unfold fmt16Spec at h
  split at h
  · simp only [Option.some.injEq, Prod.mk.injEq, Bool.and_eq_true, decide_eq_true_eq] at h
    obtain ⟨⟨rfl, h1, h2⟩, rfl⟩ := h
    rename_i n
    rw [vBody_L, fmtInt_tree, wrapU64_small h1 h2]
    have c : ¬ n < 0 := by omega
    have d : decide (Int.ofNat 16 = (16 : Int)) = true := by decide
    simp only [eval_must', eval_ask', eval_ret', decide_eq_true_eq, c, if_false, d, h1, h2, decide_true, Bool.and_self, if_true]
  · cases h
theorem fmtIntW_E : EnvSound Tryd.prog E_fmtIntW := mkE_sound (by simp [fmtInt_sound])
theorem fmtIntW_sound : Sound Tryd.prog 17 (sg [pI, pI] [rS]) fmt16Spec := vBody_sound fmtIntW_E noInl_ok Tryd.func17 (by kernel_rfl) fun cs outs hk h => by
  unfold fmt16Spec at h
  split at h
  · simp only [Option.some.injEq, Prod.mk.injEq, Bool.and_eq_true, decide_eq_true_eq] at h
    obtain ⟨⟨rfl, h1, h2⟩, rfl⟩ := h
    rename_i n
    rw [vBody_L, fmtIntW_tree]
    have d : decide (Int.ofNat 16 = (16 : Int)) = true := by decide
    simp only [eval_must', eval_ask', eval_ret', d, h1, h2, decide_true, Bool.and_self, if_true]
  · cases h
theorem mul64_E : EnvSound Tryd.prog E_mul64 := mkE_sound (by simp [])
theorem mul64_sound : Sound Tryd.prog 32 (sg [pU64, pU64] [rU64, rU64]) mul1Spec := vBody_sound mul64_E noInl_ok Tryd.func32 (by kernel_rfl) fun cs outs hk h => by
  unfold mul1Spec at h
  split at h
  · simp only [Option.some.injEq, Prod.mk.injEq, Bool.and_eq_true, decide_eq_true_eq] at h
    obtain ⟨⟨rfl, h1, h2⟩, rfl⟩ := h
    rename_i n
    rw [vBody_L, mul64_tree]
    obtain ⟨k, rfl⟩ := Int.eq_ofNat_of_zero_le h1
    have hk : k ≤ 8 := by omega
    have : k = 0 ∨ k = 1 ∨ k = 2 ∨ k = 3 ∨ k = 4 ∨ k = 5 ∨ k = 6 ∨ k = 7 ∨ k = 8 := by omega
    rcases this with rfl | rfl | rfl | rfl | rfl | rfl | rfl | rfl | rfl <;> rfl
  · cases h
theorem mulW_E : EnvSound Tryd.prog E_mulW := mkE_sound (by simp [mul64_sound])
theorem mulW_sound : Sound Tryd.prog 21 (sg [pU64, pU64] [rU64, rU64]) mul1Spec := vBody_sound mulW_E noInl_ok Tryd.func21 (by kernel_rfl) fun cs outs hk h => by
  unfold mul1Spec at h
  split at h
  · simp only [Option.some.injEq, Prod.mk.injEq, Bool.and_eq_true, decide_eq_true_eq] at h
    obtain ⟨⟨rfl, h1, h2⟩, rfl⟩ := h
    rename_i n
    rw [vBody_L, mulW_tree]
    have d : decide (Int.ofNat 1 = (1 : Int)) = true := by decide
    simp only [eval_must', eval_ask', eval_ret', d, h1, h2, decide_true, Bool.and_self, if_true]
  · cases h
theorem rep0_E : EnvSound Tryd.prog E_rep0 := mkE_sound (by simp [sHasPrefix_sound, mulW_sound])
theorem rep0_sound : Sound Tryd.prog 18 (sg [pS, pI] [rS]) rep0Spec := vBody_sound rep0_E noInl_ok Tryd.func18 (by kernel_rfl) fun cs outs hk h => by
  unfold rep0Spec at h
  split at h
  · simp only [Option.some.injEq, Prod.mk.injEq, Bool.and_eq_true, decide_eq_true_eq] at h
    obtain ⟨⟨rfl, h1, h2⟩, rfl⟩ := h
    rename_i n
    rw [vBody_L, rep0_tree]
    obtain ⟨k, rfl⟩ := Int.eq_ofNat_of_zero_le h1
    have : k = 0 ∨ k = 1 ∨ k = 2 ∨ k = 3 ∨ k = 4 ∨ k = 5 ∨ k = 6 ∨ k = 7 ∨ k = 8 := by omega
    rcases this with rfl | rfl | rfl | rfl | rfl | rfl | rfl | rfl | rfl <;> rfl
  · cases h

theorem digK_len : ∀ (k n : Nat), (digK k n).length = k
  | 0, _ => rfl
  | k + 1, n => by simp [digK, digK_len k]
theorem hexGo_digK : ∀ (f k n : Nat) (acc : List UInt8), n < 16 ^ (k + 1) → k < f → ∃ m, 1 ≤ m ∧ m ≤ k + 1 ∧ n < 16 ^ m ∧ hexGo f n acc = digK m n ++ acc
  | 0, k, n, acc, _, h => by omega
  | f + 1, k, n, acc, h1, h2 => by
    by_cases hn : 16 ≤ n
    · obtain ⟨k, rfl⟩ : ∃ j, k = j + 1 := ⟨k - 1, by
        cases k with
        | zero => simp at h1; omega
        | succ k => omega⟩
      obtain ⟨m, a1, a2, a3, a4⟩ := hexGo_digK f k (n / 16) (fig16 n :: acc) (by rw [Nat.div_lt_iff_lt_mul (by omega)]; rw [Nat.pow_succ] at h1; exact h1) (by omega)
      refine ⟨m + 1, by omega, by omega, ?_, ?_⟩
      · rw [Nat.pow_succ]; rw [Nat.div_lt_iff_lt_mul (by omega)] at a3; exact a3
      · simp only [hexGo, if_pos hn, a4, digK, List.append_assoc, List.cons_append, List.nil_append]
    · exact ⟨1, by omega, by omega, by omega, by simp [hexGo, if_neg hn, digK]⟩
theorem digK_zero : ∀ k, digK k 0 = List.replicate k 48
  | 0 => rfl
  | k + 1 => by
    rw [digK, Nat.zero_div, digK_zero k, List.replicate_succ']
    rfl
theorem digK_pad : ∀ (m k n : Nat), n < 16 ^ m → digK (k + m) n = List.replicate k 48 ++ digK m n
  | 0, k, n, h => by
    have : n = 0 := by simpa using h
    subst this
    simp [digK, digK_zero]
  | m + 1, k, n, h => by
    have := digK_pad m k (n / 16) (by rw [Nat.div_lt_iff_lt_mul (by omega)]; rw [Nat.pow_succ] at h; exact h)
    rw [← Nat.add_assoc, digK, this, digK, List.append_assoc]
theorem hex_pad (n : Nat) (h : n ≤ 1000000000) : (hexOf n).length ≤ 8 ∧ List.replicate (8 - (hexOf n).length) 48 ++ hexOf n = digK 8 n := by
  obtain ⟨m, a1, a2, a3, a4⟩ := hexGo_digK 16 7 n [] (by omega) (by omega)
  rw [List.append_nil] at a4
  unfold hexOf
  rw [a4, digK_len]
  refine ⟨by omega, ?_⟩
  rw [← digK_pad m (8 - m) n a3, Nat.sub_add_cancel (by omega)]
theorem iand15i (n : Nat) (hn : n < 9223372036854775808) : iand .i64 (n : Int) 15 = ((n % 16 : Nat) : Int) := by
  have e : (BitVec.ofInt 64 (n : Int) &&& BitVec.ofInt 64 15).toNat = n % 16 := by
    rw [BitVec.toNat_and]
    have h1 : (BitVec.ofInt 64 (n : Int)).toNat = n := by simp; omega
    have h2 : (BitVec.ofInt 64 (15 : Int)).toNat = 15 := by decide
    rw [h1, h2]
    exact Nat.and_two_pow_sub_one_eq_mod n 4
  show IntKind.i64.wrap ((BitVec.ofInt 64 (n : Int) &&& BitVec.ofInt 64 15).toNat : Int) = _
  rw [e, wrap64] <;> omega
theorem fig_get (k : Nat) (hk : k < 16) : (([48, 49, 50, 51, 52, 53, 54, 55, 56, 57, 97, 98, 99, 100, 101, 102] : List UInt8).getD k 0) = fig16 k := by
  revert hk; revert k; decide
theorem sSegmentName_loop (b : Nat) (hb : b ≤ 1000000000) : ∀ (j n : Nat), j ≤ 8 → j < n →
    (vLoop E_sSegmentName noInl (sg [pI] [rS]) Tryd.f10 [.r, .r, .r, .l, .r, .b] n (H_sSegmentName b (8 - j) (rowsOfStr (digK (8 - j) (b / 16 ^ j))) ((j : Int) - 1))).eval = some [.str ([115] ++ digK 8 b ++ [46, 115, 101, 103])] := by
  intro j
  induction j with
  | zero =>
    intro n h1 h2
    obtain ⟨n, rfl⟩ : ∃ g, n = g + 1 := ⟨n - 1, by omega⟩
    rw [vLoop_L _ _ _ _ _ _ _ (by kernel_rfl), sSegmentName_round0]
    have c : ¬ (0 : Int) ≤ ((0 : Nat) : Int) - 1 := by omega
    have tk : List.take (8 - 0) (rowsOfStr (digK (8 - 0) (b / 16 ^ 0))) = rowsOfStr (digK 8 b) := by
      rw [List.take_of_length_le]
      · simp
      · simp [rows_length, digK_len]
    have l1 : (1 + (digK 8 b).length ≤ 9223372036854775807) := by rw [digK_len]; omega
    have l2 : (([115] ++ digK 8 b).length + 4 ≤ 9223372036854775807) := by simp [digK_len]
    simp only [eval_must', eval_ask', eval_ret', decide_eq_true_eq, c, if_false, tk, rows_bytes, str_rows, if_true, l1, l2]
  | succ j ih =>
    intro n h1 h2
    obtain ⟨n, rfl⟩ : ∃ g, n = g + 1 := ⟨n - 1, by omega⟩
    have e := ih n (by omega) (by omega)
    rw [vLoop_L _ _ _ _ _ _ _ (by kernel_rfl), sSegmentName_round0]
    have w0 : ((j + 1 : Nat) : Int) - 1 = (j : Int) := by omega
    have w1 : IntKind.i64.wrap ((4 : Int) * (j : Int)) = ((4 * j : Nat) : Int) := by rw [wrap64] <;> omega
    have w2 : IntKind.u64.wrap ((4 * j : Nat) : Int) = ((4 * j : Nat) : Int) := by rw [wrapU64] <;> omega
    have s1 : ishr IntKind.i64 (b : Int) ((4 * j : Nat) : Int) = ((b / 16 ^ j : Nat) : Int) := by
      rw [ishr64_nat _ _ (by omega), Nat.pow_mul]
    have hlt : b / 16 ^ j ≤ b := Nat.div_le_self _ _
    have s2 := iand15i (b / 16 ^ j) (by omega)
    have c : (0 : Int) ≤ (j : Int) := by omega
    have z1 : (0 : Int) ≤ ((4 * j : Nat) : Int) := by omega
    have z2 : (0 : Int) ≤ ((b / 16 ^ j % 16 : Nat) : Int) := by omega
    have z3 : ((b / 16 ^ j % 16 : Nat) : Int) < (↑(16 : Nat) : Int) := by omega
    have fg := fig_get (b / 16 ^ j % 16) (by omega)
    have ra := row_append (digK (8 - (j + 1)) (b / 16 ^ (j + 1))) (fig16 (b / 16 ^ j % 16)).toNat (UInt8.toNat_lt _)
    have dk : digK (8 - (j + 1)) (b / 16 ^ (j + 1)) ++ [UInt8.ofNat (fig16 (b / 16 ^ j % 16)).toNat] = digK (8 - j) (b / 16 ^ j) := by
      rw [UInt8.ofNat_toNat, fig_mod]
      have e1 : 8 - j = (8 - (j + 1)) + 1 := by omega
      rw [e1, digK, Nat.div_div_eq_div_mul, ← Nat.pow_succ]
    have ro : roomy (8 - j) 1 = true := by simp only [roomy, decide_eq_true_eq]; omega
    have w3 : IntKind.i64.wrap ((j : Int) - 1) = (j : Int) - 1 := by rw [wrap64] <;> omega
    have e8 : 8 - (j + 1) + 1 = 8 - j := by omega
    rw [w0]
    simp only [eval_must', eval_ask', w1, w2, w3, s1, s2, z1, z2, z3, c, Int.toNat_natCast, fg, ra, dk, ro, rows_length, digK_len, decide_true, Bool.and_self, if_true, e8]
    exact e
theorem sSegmentName_E : EnvSound Tryd.prog E_sSegmentName := mkE_sound (by simp [sIn_sound])
theorem sSegmentName_sound : Sound Tryd.prog 10 (sg [pI] [rS]) segSpec := vBody_sound sSegmentName_E noInl_ok Tryd.func10 (by kernel_rfl) fun cs outs hk h => by
  unfold segSpec at h
  split at h
  · simp only [Option.some.injEq, Prod.mk.injEq, true_and] at h
    subst h
    rename_i n
    rw [vBody_L, sSegmentName_tree]
    by_cases hn : inB n 0 1000000000 = true
    · obtain ⟨h1, h2⟩ := (in_iff _ _ _).1 hn
      obtain ⟨b, rfl⟩ := Int.eq_ofNat_of_zero_le h1
      simp only [eval_ask', hn, if_true, segName, Int.toNat_natCast]
      have hb : b / 16 ^ 8 = 0 := Nat.div_eq_of_lt (by omega)
      have lp := sSegmentName_loop b (by omega) 8 9223372036854775808 (by omega) (by omega)
      rw [hb] at lp
      exact lp
    · simp only [eval_ask', eval_ret', hn, segName, Bool.false_eq_true, if_false]
  · cases h
theorem iSegmentName_E : EnvSound Tryd.prog E_iSegmentName := mkE_sound (by simp [iIsNumber_sound, fmtIntW_sound, rep0_sound])
theorem iSegmentName_sound : Sound Tryd.prog 12 (sg [pI] [rS]) segSpec := vBody_sound iSegmentName_E noInl_ok Tryd.func12 (by kernel_rfl) fun cs outs hk h => by
  unfold segSpec at h
  split at h
  · simp only [Option.some.injEq, Prod.mk.injEq, true_and] at h
    subst h
    rename_i n
    rw [vBody_L, iSegmentName_tree]
    by_cases hn : inB n 0 1000000000 = true
    · obtain ⟨h1, h2⟩ := (in_iff _ _ _).1 hn
      obtain ⟨b, rfl⟩ := Int.eq_ofNat_of_zero_le h1
      obtain ⟨p1, p2⟩ := hex_pad b (by omega)
      have w : IntKind.i64.wrap ((8 : Int) - ((hexOf b).length : Int)) = ((8 - (hexOf b).length : Nat) : Int) := by rw [wrap64] <;> omega
      have z1 : (0 : Int) ≤ ((8 - (hexOf b).length : Nat) : Int) := by omega
      have z2 : ((8 - (hexOf b).length : Nat) : Int) ≤ 8 := by omega
      have z3 : (0 : Int) ≤ (b : Int) := by omega
      have l1 : (1 + (8 - (hexOf b).length) ≤ 9223372036854775807) := by omega
      have l2 : (0 + 1 + (8 - (hexOf b).length) + (hexOf b).length ≤ 9223372036854775807) := by omega
      have l3 : (0 + 1 + (8 - (hexOf b).length) + (hexOf b).length + 4 ≤ 9223372036854775807) := by omega
      simp only [eval_ask', eval_must', eval_ret', hn, if_true, segName, Int.toNat_natCast, w, z1, z2, z3, h2, decide_true, Bool.and_self, List.length_replicate, List.length_append, List.length_cons, List.length_nil, l1, l2, l3]
      rw [← p2]
      simp
    · simp only [eval_ask', eval_ret', hn, segName, Bool.false_eq_true, if_false]
  · cases h

end Go.Proofs.YthpamcbipmkimaaDoor.V

namespace Go.Proofs.YthpamcbipmkimaaDoor.V
noncomputable section

structure Nd where
  id : Int
  text : List UInt8
  sure : Int
  deriving DecidableEq
structure En where
  name : List UInt8
  id : Int
  deriving DecidableEq
abbrev eNd (x : Nd) : List C := [.int .i64 x.id, .str x.text, .int .i64 x.sure]
abbrev eEn (x : En) : List C := [.str x.name, .int .i64 x.id]
abbrev kNd : List K := [.int .i64, .str, .int .i64]
abbrev kEn : List K := [.str, .int .i64]
def rowNd (r : List C) : Nd := ⟨(r.getD 0 (.fn 0 [])).toInt, (r.getD 1 (.fn 0 [])).toStr, (r.getD 2 (.fn 0 [])).toInt⟩
def rowEn (r : List C) : En := ⟨(r.getD 0 (.fn 0 [])).toStr, (r.getD 1 (.fn 0 [])).toInt⟩
def nds (rows : List (List C)) : List Nd := rows.map rowNd
def ens (rows : List (List C)) : List En := rows.map rowEn
/-- no text in the rows is longer than memory -/
def textsOk (rows : List (List C)) : Bool := rows.all fun r => r.all fun c => match c with | .str s => decide (s.length ≤ 281474976710656) | _ => true
def szOne (n : Nat) (left : Int) : Int := if left - n < 0 then -1 else left - n
/-- what is left of a size -/
def szEach : List Nat → Int → Int
  | [], left => left
  | n :: r, left => if left - n < 0 then -1 else szEach r (left - n)
def szList (ns : List Nat) (left : Int) : Int := if left - ns.length < 0 then -1 else szEach ns (left - ns.length)

end
end Go.Proofs.YthpamcbipmkimaaDoor.V

namespace Go.Proofs.YthpamcbipmkimaaDoor.V
set_option maxRecDepth 100000

end Go.Proofs.YthpamcbipmkimaaDoor.V

namespace Go.Proofs.YthpamcbipmkimaaDoor.V

theorem is_int {k : IntKind} {c : C} (h : c.is (.int k) = true) : c = .int k c.toInt := by
  cases c <;> simp [C.is] at h
  subst h; rfl
theorem is_str {c : C} (h : c.is .str = true) : c = .str c.toStr := by
  cases c <;> simp [C.is] at h
  rfl
theorem row_nd {r : List C} (h : kindsOk r kNd = true) : r = eNd (rowNd r) := by
  match r, h with
  | [a, b, c], h =>
    simp only [kindsOk, Bool.and_eq_true, and_true] at h
    obtain ⟨h1, h2, h3⟩ := h
    have e1 := is_int h1
    have e2 := is_str h2
    have e3 := is_int h3
    show [a, b, c] = [.int .i64 a.toInt, .str b.toStr, .int .i64 c.toInt]
    rw [← e1, ← e2, ← e3]
  | [], h => simp [kindsOk] at h
  | [_], h => simp [kindsOk] at h
  | [_, _], h => simp [kindsOk] at h
  | _ :: _ :: _ :: _ :: _, h => simp [kindsOk] at h
theorem row_en {r : List C} (h : kindsOk r kEn = true) : r = eEn (rowEn r) := by
  match r, h with
  | [a, b], h =>
    simp only [kindsOk, Bool.and_eq_true, and_true] at h
    obtain ⟨h1, h2⟩ := h
    have e1 := is_str h1
    have e2 := is_int h2
    show [a, b] = [.str a.toStr, .int .i64 b.toInt]
    rw [← e1, ← e2]
  | [], h => simp [kindsOk] at h
  | [_], h => simp [kindsOk] at h
  | _ :: _ :: _ :: _, h => simp [kindsOk] at h
theorem rows_nds {rows : List (List C)} (h : rowsOk kNd rows = true) : rows = (nds rows).map eNd := by
  simp only [rowsOk, List.all_eq_true] at h
  simp only [nds, List.map_map]
  rw [List.map_congr_left (g := id)]
  · simp
  · intro r hr; exact (row_nd (h r hr)).symm
theorem rows_ens {rows : List (List C)} (h : rowsOk kEn rows = true) : rows = (ens rows).map eEn := by
  simp only [rowsOk, List.all_eq_true] at h
  simp only [ens, List.map_map]
  rw [List.map_congr_left (g := id)]
  · simp
  · intro r hr; exact (row_en (h r hr)).symm
@[simp] theorem nds_map (l : List Nd) : nds (l.map eNd) = l := by simp [nds, rowNd, Function.comp_def, C.toInt, C.toStr]
@[simp] theorem ens_map (l : List En) : ens (l.map eEn) = l := by simp [ens, rowEn, Function.comp_def, C.toInt, C.toStr]
@[simp] theorem rowsOk_nds (l : List Nd) : rowsOk kNd (l.map eNd) = true := by simp [rowsOk, kindsOk, C.is]
@[simp] theorem rowsOk_ens (l : List En) : rowsOk kEn (l.map eEn) = true := by simp [rowsOk, kindsOk, C.is]
theorem flat_nds (l : List Nd) : ((l.map eNd).all fun r => r.all C.flat) = true := by simp [C.flat]
theorem flat_ens (l : List En) : ((l.map eEn).all fun r => r.all C.flat) = true := by simp [C.flat]
theorem texts_strs (l : List (List UInt8)) : textsOk (l.map eStr) = true ↔ ∀ x ∈ l, x.length ≤ 281474976710656 := by simp [textsOk]
theorem texts_nds (l : List Nd) : textsOk (l.map eNd) = true ↔ ∀ x ∈ l, x.text.length ≤ 281474976710656 := by simp [textsOk]
theorem texts_ens (l : List En) : textsOk (l.map eEn) = true ↔ ∀ x ∈ l, x.name.length ≤ 281474976710656 := by simp [textsOk]
theorem fit_texts {E : Env} {e : TypeId} {x : C} (h : Fit E (.slice e) x) : ∃ rows, x = .sl rows ∧ textsOk rows = true := by
  cases h with
  | @sl _ te rows h1 h2 h3 h4 =>
    refine ⟨rows, rfl, ?_⟩
    simp only [textsOk, List.all_eq_true]
    intro r hr c hc
    split
    · rename_i s
      obtain ⟨j, hj⟩ := List.getElem?_of_mem hc
      have hjl := (List.getElem?_eq_some_iff.1 hj).1
      have hlen := h3 r hr
      obtain ⟨s', hs, hl⟩ : ∃ s', C.str s = .str s' ∧ s'.length ≤ 140737488351232 := by
        have hk : te.leaves[j]? = some (te.leaves[j]'(by omega)) := List.getElem?_eq_getElem (by omega)
        have hf := h4 r hr j _ _ hk hj
        generalize te.leaves[j]'(by omega) = kd at hf
        cases hf with
        | str a => exact ⟨_, rfl, a⟩
      obtain rfl := C.str.inj hs
      simp only [decide_eq_true_eq]
      omega
    · rfl
theorem szEach_neg (ns : List Nat) (left : Int) (h : left < 0) (h0 : ns = [] → left = -1) : szEach ns left = -1 := by
  cases ns with
  | nil => exact h0 rfl
  | cons n r => simp only [szEach]; rw [if_pos (by omega)]
theorem szList_le (ns : List Nat) (left : Int) : szEach ns left ≤ left ∨ szEach ns left = -1 := by
  induction ns generalizing left with
  | nil => exact .inl (Int.le_refl _)
  | cons n r ih =>
    simp only [szEach]
    split
    · exact .inr rfl
    · rcases ih (left - n) with h | h
      · exact .inl (by omega)
      · exact .inr h
theorem szEach_sum (ns : List Nat) (left : Int) (h0 : 0 ≤ left) (h : 0 ≤ szEach ns left) : szEach ns left + (ns.sum : Int) = left := by
  induction ns generalizing left with
  | nil => simp [szEach]
  | cons n r ih =>
    simp only [szEach] at h ⊢
    split at h
    · omega
    · rename_i hn
      rw [if_neg hn]
      have := ih (left - n) (by omega) h
      simp only [List.sum_cons, Int.natCast_add]
      omega
theorem szList_sum (ns : List Nat) (left : Int) (h : 0 ≤ szList ns left) : szList ns left + (ns.length : Int) + (ns.sum : Int) = left := by
  unfold szList at h ⊢
  split at h
  · omega
  · rename_i hn
    rw [if_neg hn]
    have := szEach_sum ns _ (by omega) h
    omega
theorem take_eq_step {A : Type} {x y : List A} {i : Nat} (d : A) (hx : i < x.length) (hy : i < y.length) (h : x.take i = y.take i) (hd : x.getD i d = y.getD i d) : x.take (i + 1) = y.take (i + 1) := by
  rw [List.take_add_one, List.take_add_one, h]
  simp [List.getD_eq_getElem?_getD, hx, hy] at hd
  simp [hx, hy, hd]

end Go.Proofs.YthpamcbipmkimaaDoor.V

namespace Go.Proofs.YthpamcbipmkimaaDoor.V
noncomputable section

def digN : Nat → Nat → List UInt8 → List UInt8
  | 0, _, out => out
  | f + 1, k, out => if k = 0 then out else digN f (k / 10) (UInt8.ofNat (48 + k % 10) :: out)
def markT (k : Int) : List UInt8 := if k ≤ 0 then [109, 48] else 109 :: digN 20 k.toNat []
def markTextSpec : Spec := fun cs => match cs with
  | [.int .i64 k] => some (decide (k ≤ 4611686018427387904), [.str (markT k)])
  | _ => none
def H_lMarkText (k : Int) (out : List UInt8) : St := st0 [(0, int64 k), (3, wstr out)]
def E_lMarkText : Env := mkE [(4, [0, 3])] []

/-- rows that are marked, from a number on, so many to a row -/
def mk (f : Int → List C) (s k : Int) (n : Nat) : List (List C) := (List.range n).map fun (i : Nat) => f (k + s * (i : Int))

end
end Go.Proofs.YthpamcbipmkimaaDoor.V

namespace Go.Proofs.YthpamcbipmkimaaDoor.V
set_option maxRecDepth 100000
theorem lMarkText_tree (H : List Pt → Nat → St → T (List C)) (k : Int) : (vBodyL E_lMarkText noInl (sg [pI] [rS]) Tryd.f14 H [C.int IntKind.i64 k]).eval =
 ((.ask (decide (k ≤ (0 : Int)))
 (.ret [C.str [(109 : UInt8), (48 : UInt8)]])
 (H [Pt.r, Pt.r, Pt.r, Pt.l, Pt.b] (9223372036854775808 : Nat) (H_lMarkText (k) ([])))) : T (List C)).eval := evalEq (by kernel_rfl)
theorem lMarkText_round0 (H : List Pt → Nat → St → T (List C)) (kk : Int) (o : List UInt8) (k : Nat) : (vRound E_lMarkText noInl (sg [pI] [rS]) Tryd.f14 H [Pt.r, Pt.r, Pt.r, Pt.l, Pt.b] k (H_lMarkText kk o)).eval =
 ((.ask (decide ((0 : Int) < kk))
 (.must (decide
  ((strOfRows [[C.int IntKind.u8 (IntKind.u8.wrap (IntKind.i64.wrap ((48 : Int) + kk.tmod (10 : Int))))]]).length +
      o.length ≤
    (9223372036854775807 : Nat)))
  (H [Pt.r, Pt.r, Pt.r, Pt.l, Pt.b] k (H_lMarkText (IntKind.i64.wrap (kk.tdiv (10 : Int))) (strOfRows [[C.int IntKind.u8 (IntKind.u8.wrap (IntKind.i64.wrap ((48 : Int) + kk.tmod (10 : Int))))]] ++ o))))
 (.must (decide ((1 : Nat) + o.length ≤ (9223372036854775807 : Nat)))
  (.ret [C.str ([(109 : UInt8)] ++ o)]))) : T (List C)).eval := evalEq (by kernel_rfl)
end Go.Proofs.YthpamcbipmkimaaDoor.V

namespace Go.Proofs.YthpamcbipmkimaaDoor.V

theorem lMarkText_loop : ∀ (f k : Nat) (o : List UInt8) (n : Nat), k < 10 ^ f → f < n → o.length + f ≤ 1000 → k ≤ 4611686018427387904 →
    (vLoop E_lMarkText noInl (sg [pI] [rS]) Tryd.f14 [.r, .r, .r, .l, .b] n (H_lMarkText k o)).eval = some [.str (109 :: digN f k o)] := by
  have stop : ∀ (f : Nat) (o : List UInt8) (n : Nat), 0 < n → o.length ≤ 1000 → (vLoop E_lMarkText noInl (sg [pI] [rS]) Tryd.f14 [.r, .r, .r, .l, .b] n (H_lMarkText (0 : Nat) o)).eval = some [.str (109 :: digN f 0 o)] := by
    intro f o n hn ho
    obtain ⟨m, rfl⟩ : ∃ m, n = m + 1 := ⟨n - 1, by omega⟩
    rw [vLoop_L _ _ _ _ _ _ _ (by kernel_rfl), lMarkText_round0]
    have h1 : 1 + o.length ≤ 9223372036854775807 := by omega
    have h2 : digN f 0 o = o := by cases f <;> simp [digN]
    have h3 : ¬ ((0 : Int) < ((0 : Nat) : Int)) := by omega
    simp only [eval_ask', eval_must', eval_ret', decide_eq_true_eq, h3, if_false, h1, if_true, h2]
    rfl
  intro f
  induction f with
  | zero =>
    intro k o n hk hn ho _
    have : k = 0 := by simpa using hk
    subst this
    exact stop 0 o n (by omega) (by omega)
  | succ f ih =>
    intro k o n hk hn ho hkk
    by_cases h0 : k = 0
    · subst h0; exact stop (f + 1) o n (by omega) (by omega)
    · obtain ⟨m, rfl⟩ : ∃ m, n = m + 1 := ⟨n - 1, by omega⟩
      rw [vLoop_L _ _ _ _ _ _ _ (by kernel_rfl), lMarkText_round0]
      have hpos : (0 : Int) < (k : Int) := by omega
      have e1 : (k : Int).tmod 10 = ((k % 10 : Nat) : Int) := by rw [Int.tmod_eq_emod_of_nonneg (by omega)]; omega
      have e2 : (k : Int).tdiv 10 = ((k / 10 : Nat) : Int) := by rw [Int.tdiv_eq_ediv_of_nonneg (by omega)]; omega
      have w1 : IntKind.i64.wrap ((48 : Int) + ((k % 10 : Nat) : Int)) = ((48 + k % 10 : Nat) : Int) := by rw [wrap64] <;> omega
      have w2 : IntKind.u8.wrap (((48 + k % 10 : Nat) : Int)) = ((48 + k % 10 : Nat) : Int) := by rw [wrapU8] <;> omega
      have w3 : IntKind.i64.wrap (((k / 10 : Nat) : Int)) = ((k / 10 : Nat) : Int) := by rw [wrap64] <;> omega
      have e3 : strOfRows [[C.int IntKind.u8 ((48 + k % 10 : Nat) : Int)]] = [UInt8.ofNat (48 + k % 10)] := by show [UInt8.ofNat (((48 + k % 10 : Nat) : Int)).toNat] = _; rw [Int.toNat_natCast]
      have e4 : digN (f + 1) k o = digN f (k / 10) (UInt8.ofNat (48 + k % 10) :: o) := by simp [digN, h0]
      rw [e1, w1, w2, e2, w3, e3, e4]
      have h1 : 1 + o.length ≤ 9223372036854775807 := by omega
      simp only [eval_ask', eval_must', decide_eq_true_eq, hpos, if_true, List.length_cons, List.length_nil, Nat.zero_add, h1, List.cons_append, List.nil_append]
      exact ih (k / 10) _ m (by rw [Nat.pow_succ] at hk; omega) (by omega) (by simp; omega) (by omega)
theorem lMarkText_E : EnvSound Tryd.prog E_lMarkText := mkE_sound (by simp [])
theorem lMarkText_sound : Sound Tryd.prog 14 (sg [pI] [rS]) markTextSpec := vBody_sound lMarkText_E noInl_ok Tryd.func14 (by kernel_rfl) fun cs outs hk h => by
  unfold markTextSpec at h
  split at h
  · simp only [Option.some.injEq, Prod.mk.injEq, decide_eq_true_eq] at h
    obtain ⟨h1, rfl⟩ := h
    rename_i k
    rw [vBody_L, lMarkText_tree]
    by_cases hk : k ≤ 0
    · simp only [eval_ask', eval_ret', decide_eq_true_eq, hk, if_true, markT]
    · obtain ⟨m, rfl⟩ : ∃ m : Nat, k = m := ⟨k.toNat, by omega⟩
      have := lMarkText_loop 20 m [] 9223372036854775808 (by omega) (by omega) (by simp) (by omega)
      simp only [eval_ask', decide_eq_true_eq, hk, if_false, markT, Int.toNat_natCast]
      exact this
  · cases h

theorem mk_len (f : Int → List C) (s k : Int) (n : Nat) : (mk f s k n).length = n := by simp [mk]
theorem mk_succ (f : Int → List C) (s k : Int) (n : Nat) : mk f s k (n + 1) = mk f s k n ++ [f (k + s * n)] := by simp [mk, List.range_succ]
theorem mk_all (f : Int → List C) (s k : Int) (n : Nat) (p : List C → Bool) (h : ∀ k, p (f k) = true) : (mk f s k n).all p = true := by simp [mk, h]
theorem set_mid {A : Type} (a l : List A) (i : Nat) (x : A) (ha : a.length = i) (hi : i < l.length) : (a ++ l.drop i).set i x = (a ++ [x]) ++ l.drop (i + 1) := by
  rw [List.drop_eq_getElem_cons hi, List.set_append_right _ _ (by omega), ha, Nat.sub_self, List.set_cons_zero, List.append_assoc]
  rfl
theorem getD_mid {A : Type} (a l : List A) (i : Nat) (d : A) (ha : a.length = i) : (a ++ l.drop i).getD i d = l.getD i d := by
  simp [List.getD_eq_getElem?_getD, List.getElem?_append_right, ha]
theorem getD_set_self {A : Type} (l : List A) (i : Nat) (x d : A) (hi : i < l.length) : (l.set i x).getD i d = x := by
  simp [List.getD_eq_getElem?_getD, hi]
theorem rowsOk_getD {ks : List K} {rows : List (List C)} (h : rowsOk ks rows = true) (i : Nat) (hi : i < rows.length) : kindsOk (rows.getD i []) ks = true := by
  simp only [rowsOk, List.all_eq_true] at h
  exact h _ (by simp [List.getD_eq_getElem?_getD, hi])
theorem rowsOk_len {ks : List K} {rows : List (List C)} (h : rowsOk ks rows = true) (n : Nat) (hn : ks.length = n) : (rows.all fun row => decide (row.length = n)) = true := by
  have kl : ∀ (cs : List C) (ks : List K), kindsOk cs ks = true → cs.length = ks.length := by
    intro cs
    induction cs with
    | nil => intro ks h; cases ks <;> simp [kindsOk] at h ⊢
    | cons c cs ih => intro ks h; cases ks <;> simp [kindsOk] at h ⊢; exact ih _ h.2
  simp only [rowsOk, List.all_eq_true] at h ⊢
  intro r hr
  simp [kl _ _ (h r hr), hn]

end Go.Proofs.YthpamcbipmkimaaDoor.V

namespace Go.Proofs.YthpamcbipmkimaaDoor.V
noncomputable section

structure Opx where
  kind : Int
  name : List UInt8
  to : List UInt8
  text : List UInt8
  deriving DecidableEq
abbrev eOp (x : Opx) : List C := [.int .i64 x.kind, .str x.name, .str x.to, .str x.text]
abbrev kOp : List K := [.int .i64, .str, .str, .str]
def rowOp (r : List C) : Opx := ⟨(r.getD 0 (.fn 0 [])).toInt, (r.getD 1 (.fn 0 [])).toStr, (r.getD 2 (.fn 0 [])).toStr, (r.getD 3 (.fn 0 [])).toStr⟩
def ops (rows : List (List C)) : List Opx := rows.map rowOp

def pOp : PTy := .val true kOp
def rOp : RTy := ⟨true, [(.int .i64, false), (.str, false), (.str, false), (.str, false)]⟩

def eqOpx (k1 : Int) (n1 o1 t1 : List UInt8) (k2 : Int) (n2 o2 t2 : List UInt8) : Bool := decide ((⟨k1, n1, o1, t1⟩ : Opx) = ⟨k2, n2, o2, t2⟩)
def eqOpSpec : Spec := fun cs => match cs with
  | [.int .i64 k1, .str n1, .str o1, .str t1, .int .i64 k2, .str n2, .str o2, .str t2] => some (true, [.bool (eqOpx k1 n1 o1 t1 k2 n2 o2 t2)])
  | _ => none
def eqOpSSpec : Spec := fun cs => match cs with
  | [.sl x, .sl y] => some (decide (x.length ≤ 1048576) && (rowsOk kOp x && rowsOk kOp y), [.bool (decide (ops x = ops y))])
  | _ => none
def H_eqOpS (x y : List (List C)) (i : Int) : St := st0 [(0, .l (.sl x)), (1, .l (.sl y)), (5, int64 i)]
def E_eqOp : Env := mkE [] []
def E_eqOpS : Env := mkE [(4, [0, 1, 5])] [(13, (sg [pOp, pOp] [rB]), eqOpSpec)]

def mkOp (k : Int) : List C := [.int .i64 k, .str (markT (k + 1)), .str (markT (k + 2)), .str (markT (k + 3))]
def markOSpec : Spec := fun cs => match cs with
  | [.sl rows, .int .i64 k] => some (rowsOk kOp rows && (decide (rows.length ≤ 1048576) && (decide (0 ≤ k) && decide (k ≤ 1099511627776))), [.int .i64 (k + 4 * rows.length), .sl (mk mkOp 4 k rows.length)])
  | _ => none
def heldOp : List Opx → Int → Int
  | [], k => k
  | x :: r, k => if x.kind = k ∧ x.name = markT (k + 1) ∧ x.to = markT (k + 2) ∧ x.text = markT (k + 3) then heldOp r (k + 4) else -1
def heldOSpec : Spec := fun cs => match cs with
  | [.sl rows, .int .i64 k] => some (rowsOk kOp rows && (decide (rows.length ≤ 1048576) && (decide (0 ≤ k) && decide (k ≤ 1099511627776))), [.int .i64 (heldOp (ops rows) k)])
  | _ => none
def H_lMarkO (n : Nat) (r : List (List C)) (k i : Int) : St := { slots := [(0, .l (.ref 0 0 n)), (1, int64 k), (5, int64 i)], heap := [(0, .arr 4 r)], next := 1, pins := [0] }
def H_lHeldO (r : List (List C)) (k i : Int) : St := st0 [(0, .l (.sl r)), (1, int64 k), (5, int64 i)]
def E_lMarkO : Env := mkE [(2, [0, 1, 5])] [(14, (sg [pI] [rS]), markTextSpec)]
def E_lHeldO : Env := mkE [(2, [0, 1, 5])] [(14, (sg [pI] [rS]), markTextSpec)]

def tempName (n : Int) : List UInt8 := if inB n 0 1000000000 then segName n ++ [46, 116, 109, 112] else []
def tempSpec : Spec := fun cs => match cs with
  | [.int .i64 n] => some (true, [.str (tempName n)])
  | _ => none
def freshRows (n : Int) (t : List UInt8) : List Opx := [⟨2, tempName n, [], []⟩, ⟨3, tempName n, [], t⟩, ⟨4, tempName n, [], []⟩, ⟨5, tempName n, segName n, []⟩, ⟨6, [], [], []⟩]
def freshSpec : Spec := fun cs => match cs with
  | [.int .i64 n, .str t] => some (true, [.sl ((freshRows n t).map eOp)])
  | _ => none
def freshLaw : Spec := fun cs => match cs with
  | [.int .i64 _, .str t] => some (decide (t.length ≤ 281474976710656), [.bool true])
  | _ => none
def E_sTempName : Env := mkE [] [(10, (sg [pI] [rS]), segSpec)]
def E_iTempName : Env := mkE [] [(16, (sg [pI] [rB]), isNumberSpec), (12, (sg [pI] [rS]), segSpec)]
def E_sFresh : Env := mkE [] [(10, (sg [pI] [rS]), segSpec), (9, (sg [pI] [rS]), tempSpec)]
def E_iFresh : Env := mkE [] [(12, (sg [pI] [rS]), segSpec), (11, (sg [pI] [rS]), tempSpec)]
def E_lFresh : Env := mkE [] [(6, (sg [pSl 29, pSl 29] [rB]), eqOpSSpec), (7, (sg [.wr false [(.slice 29, true)], pI] [rI]), markOSpec), (8, (sg [pSl 29, pI] [rI]), heldOSpec), (4, (sg [pI, pS] [rSl 29]), freshSpec), (5, (sg [pI, pS] [rSl 29]), freshSpec)]

end
end Go.Proofs.YthpamcbipmkimaaDoor.V

namespace Go.Proofs.YthpamcbipmkimaaDoor.V
set_option maxRecDepth 100000
theorem eqOp_tree (H : List Pt → Nat → St → T (List C)) (k1 : Int) (n1 : List UInt8) (o1 : List UInt8) (t1 : List UInt8) (k2 : Int) (n2 : List UInt8) (o2 : List UInt8) (t2 : List UInt8) : (vBodyL E_eqOp noInl (sg [pOp, pOp] [rB]) Tryd.f13 H
  [C.int IntKind.i64 k1, C.str n1, C.str o1, C.str t1, C.int IntKind.i64 k2, C.str n2, C.str o2, C.str t2]).eval =
 ((.ask (k1 != k2)
 (.ret [C.bool false])
 (.ask (!n1 == n2)
  (.ret [C.bool false])
  (.ask (!o1 == o2)
   (.ret [C.bool false])
   (.ask (!t1 == t2)
    (.ret [C.bool false])
    (.ret [C.bool true]))))) : T (List C)).eval := evalEq (by kernel_rfl)
theorem eqOpS_tree (H : List Pt → Nat → St → T (List C)) (x : List (List C)) (y : List (List C)) : (vBodyL E_eqOpS noInl (sg [pSl (29 : TypeId), pSl (29 : TypeId)] [rB]) Tryd.f6 H [C.sl x, C.sl y]).eval =
 ((.ask ((↑x.length : Int) != (↑y.length : Int))
 (.ret [C.bool false])
 (H [Pt.r, Pt.r, Pt.l, Pt.r, Pt.b] (9223372036854775808 : Nat) (H_eqOpS (x) (y) ((0 : Int))))) : T (List C)).eval := evalEq (by kernel_rfl)
theorem eqOpS_round0 (H : List Pt → Nat → St → T (List C)) (x : List (List C)) (y : List (List C)) (i : Int) (k : Nat) : (vRound E_eqOpS noInl (sg [pSl (29 : TypeId), pSl (29 : TypeId)] [rB]) Tryd.f6 H [Pt.r, Pt.r, Pt.l, Pt.r, Pt.b] k
  (H_eqOpS x y i)).eval =
 ((.ask (decide (i < (↑x.length : Int)))
 (.must (decide ((0 : Int) ≤ i) && decide (i < (↑x.length : Int)) && decide ((x.getD i.toNat []).length = (4 : Nat)))
  (.must (decide ((0 : Nat) < (x.getD i.toNat []).length) &&
    C.is (K.int IntKind.i64) ((x.getD i.toNat []).getD (0 : Nat) (C.fn (0 : FuncId) [])) &&
  (decide ((0 : Nat) + (1 : Nat) < (x.getD i.toNat []).length) &&
      C.is K.str ((x.getD i.toNat []).getD ((0 : Nat) + (1 : Nat)) (C.fn (0 : FuncId) [])) &&
    (decide ((0 : Nat) + (1 : Nat) + (1 : Nat) < (x.getD i.toNat []).length) &&
        C.is K.str ((x.getD i.toNat []).getD ((0 : Nat) + (1 : Nat) + (1 : Nat)) (C.fn (0 : FuncId) [])) &&
      (decide ((0 : Nat) + (1 : Nat) + (1 : Nat) + (1 : Nat) < (x.getD i.toNat []).length) &&
          C.is K.str
            ((x.getD i.toNat []).getD ((0 : Nat) + (1 : Nat) + (1 : Nat) + (1 : Nat)) (C.fn (0 : FuncId) [])) &&
        true))))
   (.must (decide ((0 : Int) ≤ i) && decide (i < (↑y.length : Int)) && decide ((y.getD i.toNat []).length = (4 : Nat)))
    (.must (decide ((0 : Nat) < (y.getD i.toNat []).length) &&
    C.is (K.int IntKind.i64) ((y.getD i.toNat []).getD (0 : Nat) (C.fn (0 : FuncId) [])) &&
  (decide ((0 : Nat) + (1 : Nat) < (y.getD i.toNat []).length) &&
      C.is K.str ((y.getD i.toNat []).getD ((0 : Nat) + (1 : Nat)) (C.fn (0 : FuncId) [])) &&
    (decide ((0 : Nat) + (1 : Nat) + (1 : Nat) < (y.getD i.toNat []).length) &&
        C.is K.str ((y.getD i.toNat []).getD ((0 : Nat) + (1 : Nat) + (1 : Nat)) (C.fn (0 : FuncId) [])) &&
      (decide ((0 : Nat) + (1 : Nat) + (1 : Nat) + (1 : Nat) < (y.getD i.toNat []).length) &&
          C.is K.str
            ((y.getD i.toNat []).getD ((0 : Nat) + (1 : Nat) + (1 : Nat) + (1 : Nat)) (C.fn (0 : FuncId) [])) &&
        true))))
     (.ask (eqOpx ((x.getD i.toNat []).getD (0 : Nat) (C.fn (0 : FuncId) [])).toInt
  ((x.getD i.toNat []).getD ((0 : Nat) + (1 : Nat)) (C.fn (0 : FuncId) [])).toStr
  ((x.getD i.toNat []).getD ((0 : Nat) + (1 : Nat) + (1 : Nat)) (C.fn (0 : FuncId) [])).toStr
  ((x.getD i.toNat []).getD ((0 : Nat) + (1 : Nat) + (1 : Nat) + (1 : Nat)) (C.fn (0 : FuncId) [])).toStr
  ((y.getD i.toNat []).getD (0 : Nat) (C.fn (0 : FuncId) [])).toInt
  ((y.getD i.toNat []).getD ((0 : Nat) + (1 : Nat)) (C.fn (0 : FuncId) [])).toStr
  ((y.getD i.toNat []).getD ((0 : Nat) + (1 : Nat) + (1 : Nat)) (C.fn (0 : FuncId) [])).toStr
  ((y.getD i.toNat []).getD ((0 : Nat) + (1 : Nat) + (1 : Nat) + (1 : Nat)) (C.fn (0 : FuncId) [])).toStr)
      (H [Pt.r, Pt.r, Pt.l, Pt.r, Pt.b] k (H_eqOpS (x) (y) (IntKind.i64.wrap (i + (1 : Int)))))
      (.ret [C.bool false]))))))
 (.ret [C.bool true])) : T (List C)).eval := evalEq (by kernel_rfl)
theorem lMarkO_tree (H : List Pt → Nat → St → T (List C)) (r : List (List C)) (k : Int) : (vBodyL E_lMarkO noInl (sg [PTy.wr false [(K.slice (29 : TypeId), true)], pI] [rI]) Tryd.f7 H
  [C.sl r, C.int IntKind.i64 k]).eval =
 ((.must ((true && r.all fun row => decide (row.length = (4 : Nat))) && true &&
  (decide ((0 : Nat) < (1 : Nat)) && true && true && true))
 (H [Pt.r, Pt.l, Pt.r, Pt.b] (9223372036854775808 : Nat) (H_lMarkO (r.length) (r) (k) ((0 : Int))))) : T (List C)).eval := evalEq (by kernel_rfl)
theorem lHeldO_tree (H : List Pt → Nat → St → T (List C)) (r : List (List C)) (k : Int) : (vBodyL E_lHeldO noInl (sg [pSl (29 : TypeId), pI] [rI]) Tryd.f8 H [C.sl r, C.int IntKind.i64 k]).eval =
 ((H [Pt.r, Pt.l, Pt.r, Pt.b] (9223372036854775808 : Nat) (H_lHeldO (r) (k) ((0 : Int)))) : T (List C)).eval := evalEq (by kernel_rfl)
theorem lMarkO_round0 (H : List Pt → Nat → St → T (List C)) (n : Nat) (r : List (List C)) (kk : Int) (i : Int) (k : Nat) : (vRound E_lMarkO noInl (sg [PTy.wr false [(K.slice (29 : TypeId), true)], pI] [rI]) Tryd.f7 H [Pt.r, Pt.l, Pt.r, Pt.b] k
  (H_lMarkO n r kk i)).eval =
 ((.ask (decide (i < (↑n : Int)))
 (.must (decide ((0 : Int) ≤ i) && decide (i < (↑n : Int)))
  (.must (decide ((0 : Nat) + i.toNat < r.length))
   (.must (decide (IntKind.i64.wrap (kk + (1 : Int)) ≤ (4611686018427387904 : Int)))
    (.must (decide ((0 : Int) ≤ i) && decide (i < (↑n : Int)))
     (.must (decide
  ((0 : Nat) + i.toNat <
    (r.set ((0 : Nat) + i.toNat)
        (C.int IntKind.i64 kk ::
          List.drop ((0 : Nat) + (0 : Nat) + (1 : Nat)) (r.getD ((0 : Nat) + i.toNat) []))).length))
      (.must (decide (IntKind.i64.wrap (IntKind.i64.wrap (kk + (1 : Int)) + (1 : Int)) ≤ (4611686018427387904 : Int)))
       (.must (decide ((0 : Int) ≤ i) && decide (i < (↑n : Int)))
        (.must (decide
  ((0 : Nat) + i.toNat <
    ((r.set ((0 : Nat) + i.toNat)
            (C.int IntKind.i64 kk ::
              List.drop ((0 : Nat) + (0 : Nat) + (1 : Nat)) (r.getD ((0 : Nat) + i.toNat) []))).set
        ((0 : Nat) + i.toNat)
        (((List.take ((0 : Nat) + (1 : Nat))
                  ((r.set ((0 : Nat) + i.toNat)
                        (C.int IntKind.i64 kk ::
                          List.drop ((0 : Nat) + (0 : Nat) + (1 : Nat)) (r.getD ((0 : Nat) + i.toNat) []))).getD
                    ((0 : Nat) + i.toNat) [])).append
              [C.str (markT (IntKind.i64.wrap (kk + (1 : Int))))]).append
          (List.drop ((0 : Nat) + (1 : Nat) + (1 : Nat))
            ((r.set ((0 : Nat) + i.toNat)
                  (C.int IntKind.i64 kk ::
                    List.drop ((0 : Nat) + (0 : Nat) + (1 : Nat)) (r.getD ((0 : Nat) + i.toNat) []))).getD
              ((0 : Nat) + i.toNat) [])))).length))
         (.must (decide
  (IntKind.i64.wrap (IntKind.i64.wrap (IntKind.i64.wrap (kk + (1 : Int)) + (1 : Int)) + (1 : Int)) ≤
    (4611686018427387904 : Int)))
          (.must (decide ((0 : Int) ≤ i) && decide (i < (↑n : Int)))
           (.must (decide
  ((0 : Nat) + i.toNat <
    (((r.set ((0 : Nat) + i.toNat)
                (C.int IntKind.i64 kk ::
                  List.drop ((0 : Nat) + (0 : Nat) + (1 : Nat)) (r.getD ((0 : Nat) + i.toNat) []))).set
            ((0 : Nat) + i.toNat)
            (((List.take ((0 : Nat) + (1 : Nat))
                      ((r.set ((0 : Nat) + i.toNat)
                            (C.int IntKind.i64 kk ::
                              List.drop ((0 : Nat) + (0 : Nat) + (1 : Nat)) (r.getD ((0 : Nat) + i.toNat) []))).getD
                        ((0 : Nat) + i.toNat) [])).append
                  [C.str (markT (IntKind.i64.wrap (kk + (1 : Int))))]).append
              (List.drop ((0 : Nat) + (1 : Nat) + (1 : Nat))
                ((r.set ((0 : Nat) + i.toNat)
                      (C.int IntKind.i64 kk ::
                        List.drop ((0 : Nat) + (0 : Nat) + (1 : Nat)) (r.getD ((0 : Nat) + i.toNat) []))).getD
                  ((0 : Nat) + i.toNat) [])))).set
        ((0 : Nat) + i.toNat)
        (((List.take ((0 : Nat) + (2 : Nat))
                  (((r.set ((0 : Nat) + i.toNat)
                            (C.int IntKind.i64 kk ::
                              List.drop ((0 : Nat) + (0 : Nat) + (1 : Nat)) (r.getD ((0 : Nat) + i.toNat) []))).set
                        ((0 : Nat) + i.toNat)
                        (((List.take ((0 : Nat) + (1 : Nat))
                                  ((r.set ((0 : Nat) + i.toNat)
                                        (C.int IntKind.i64 kk ::
                                          List.drop ((0 : Nat) + (0 : Nat) + (1 : Nat))
                                            (r.getD ((0 : Nat) + i.toNat) []))).getD
                                    ((0 : Nat) + i.toNat) [])).append
                              [C.str (markT (IntKind.i64.wrap (kk + (1 : Int))))]).append
                          (List.drop ((0 : Nat) + (1 : Nat) + (1 : Nat))
                            ((r.set ((0 : Nat) + i.toNat)
                                  (C.int IntKind.i64 kk ::
                                    List.drop ((0 : Nat) + (0 : Nat) + (1 : Nat))
                                      (r.getD ((0 : Nat) + i.toNat) []))).getD
                              ((0 : Nat) + i.toNat) [])))).getD
                    ((0 : Nat) + i.toNat) [])).append
              [C.str (markT (IntKind.i64.wrap (IntKind.i64.wrap (kk + (1 : Int)) + (1 : Int))))]).append
          (List.drop ((0 : Nat) + (2 : Nat) + (1 : Nat))
            (((r.set ((0 : Nat) + i.toNat)
                      (C.int IntKind.i64 kk ::
                        List.drop ((0 : Nat) + (0 : Nat) + (1 : Nat)) (r.getD ((0 : Nat) + i.toNat) []))).set
                  ((0 : Nat) + i.toNat)
                  (((List.take ((0 : Nat) + (1 : Nat))
                            ((r.set ((0 : Nat) + i.toNat)
                                  (C.int IntKind.i64 kk ::
                                    List.drop ((0 : Nat) + (0 : Nat) + (1 : Nat))
                                      (r.getD ((0 : Nat) + i.toNat) []))).getD
                              ((0 : Nat) + i.toNat) [])).append
                        [C.str (markT (IntKind.i64.wrap (kk + (1 : Int))))]).append
                    (List.drop ((0 : Nat) + (1 : Nat) + (1 : Nat))
                      ((r.set ((0 : Nat) + i.toNat)
                            (C.int IntKind.i64 kk ::
                              List.drop ((0 : Nat) + (0 : Nat) + (1 : Nat)) (r.getD ((0 : Nat) + i.toNat) []))).getD
                        ((0 : Nat) + i.toNat) [])))).getD
              ((0 : Nat) + i.toNat) [])))).length))
            (H [Pt.r, Pt.l, Pt.r, Pt.b] k (H_lMarkO (n) ((((r.set ((0 : Nat) + i.toNat)
              (C.int IntKind.i64 kk ::
                List.drop ((0 : Nat) + (0 : Nat) + (1 : Nat)) (r.getD ((0 : Nat) + i.toNat) []))).set
          ((0 : Nat) + i.toNat)
          (((List.take ((0 : Nat) + (1 : Nat))
                    ((r.set ((0 : Nat) + i.toNat)
                          (C.int IntKind.i64 kk ::
                            List.drop ((0 : Nat) + (0 : Nat) + (1 : Nat)) (r.getD ((0 : Nat) + i.toNat) []))).getD
                      ((0 : Nat) + i.toNat) [])).append
                [C.str (markT (IntKind.i64.wrap (kk + (1 : Int))))]).append
            (List.drop ((0 : Nat) + (1 : Nat) + (1 : Nat))
              ((r.set ((0 : Nat) + i.toNat)
                    (C.int IntKind.i64 kk ::
                      List.drop ((0 : Nat) + (0 : Nat) + (1 : Nat)) (r.getD ((0 : Nat) + i.toNat) []))).getD
                ((0 : Nat) + i.toNat) [])))).set
      ((0 : Nat) + i.toNat)
      (((List.take ((0 : Nat) + (2 : Nat))
                (((r.set ((0 : Nat) + i.toNat)
                          (C.int IntKind.i64 kk ::
                            List.drop ((0 : Nat) + (0 : Nat) + (1 : Nat)) (r.getD ((0 : Nat) + i.toNat) []))).set
                      ((0 : Nat) + i.toNat)
                      (((List.take ((0 : Nat) + (1 : Nat))
                                ((r.set ((0 : Nat) + i.toNat)
                                      (C.int IntKind.i64 kk ::
                                        List.drop ((0 : Nat) + (0 : Nat) + (1 : Nat))
                                          (r.getD ((0 : Nat) + i.toNat) []))).getD
                                  ((0 : Nat) + i.toNat) [])).append
                            [C.str (markT (IntKind.i64.wrap (kk + (1 : Int))))]).append
                        (List.drop ((0 : Nat) + (1 : Nat) + (1 : Nat))
                          ((r.set ((0 : Nat) + i.toNat)
                                (C.int IntKind.i64 kk ::
                                  List.drop ((0 : Nat) + (0 : Nat) + (1 : Nat)) (r.getD ((0 : Nat) + i.toNat) []))).getD
                            ((0 : Nat) + i.toNat) [])))).getD
                  ((0 : Nat) + i.toNat) [])).append
            [C.str (markT (IntKind.i64.wrap (IntKind.i64.wrap (kk + (1 : Int)) + (1 : Int))))]).append
        (List.drop ((0 : Nat) + (2 : Nat) + (1 : Nat))
          (((r.set ((0 : Nat) + i.toNat)
                    (C.int IntKind.i64 kk ::
                      List.drop ((0 : Nat) + (0 : Nat) + (1 : Nat)) (r.getD ((0 : Nat) + i.toNat) []))).set
                ((0 : Nat) + i.toNat)
                (((List.take ((0 : Nat) + (1 : Nat))
                          ((r.set ((0 : Nat) + i.toNat)
                                (C.int IntKind.i64 kk ::
                                  List.drop ((0 : Nat) + (0 : Nat) + (1 : Nat)) (r.getD ((0 : Nat) + i.toNat) []))).getD
                            ((0 : Nat) + i.toNat) [])).append
                      [C.str (markT (IntKind.i64.wrap (kk + (1 : Int))))]).append
                  (List.drop ((0 : Nat) + (1 : Nat) + (1 : Nat))
                    ((r.set ((0 : Nat) + i.toNat)
                          (C.int IntKind.i64 kk ::
                            List.drop ((0 : Nat) + (0 : Nat) + (1 : Nat)) (r.getD ((0 : Nat) + i.toNat) []))).getD
                      ((0 : Nat) + i.toNat) [])))).getD
            ((0 : Nat) + i.toNat) [])))).set
  ((0 : Nat) + i.toNat)
  (((List.take ((0 : Nat) + (3 : Nat))
            ((((r.set ((0 : Nat) + i.toNat)
                          (C.int IntKind.i64 kk ::
                            List.drop ((0 : Nat) + (0 : Nat) + (1 : Nat)) (r.getD ((0 : Nat) + i.toNat) []))).set
                      ((0 : Nat) + i.toNat)
                      (((List.take ((0 : Nat) + (1 : Nat))
                                ((r.set ((0 : Nat) + i.toNat)
                                      (C.int IntKind.i64 kk ::
                                        List.drop ((0 : Nat) + (0 : Nat) + (1 : Nat))
                                          (r.getD ((0 : Nat) + i.toNat) []))).getD
                                  ((0 : Nat) + i.toNat) [])).append
                            [C.str (markT (IntKind.i64.wrap (kk + (1 : Int))))]).append
                        (List.drop ((0 : Nat) + (1 : Nat) + (1 : Nat))
                          ((r.set ((0 : Nat) + i.toNat)
                                (C.int IntKind.i64 kk ::
                                  List.drop ((0 : Nat) + (0 : Nat) + (1 : Nat)) (r.getD ((0 : Nat) + i.toNat) []))).getD
                            ((0 : Nat) + i.toNat) [])))).set
                  ((0 : Nat) + i.toNat)
                  (((List.take ((0 : Nat) + (2 : Nat))
                            (((r.set ((0 : Nat) + i.toNat)
                                      (C.int IntKind.i64 kk ::
                                        List.drop ((0 : Nat) + (0 : Nat) + (1 : Nat))
                                          (r.getD ((0 : Nat) + i.toNat) []))).set
                                  ((0 : Nat) + i.toNat)
                                  (((List.take ((0 : Nat) + (1 : Nat))
                                            ((r.set ((0 : Nat) + i.toNat)
                                                  (C.int IntKind.i64 kk ::
                                                    List.drop ((0 : Nat) + (0 : Nat) + (1 : Nat))
                                                      (r.getD ((0 : Nat) + i.toNat) []))).getD
                                              ((0 : Nat) + i.toNat) [])).append
                                        [C.str (markT (IntKind.i64.wrap (kk + (1 : Int))))]).append
                                    (List.drop ((0 : Nat) + (1 : Nat) + (1 : Nat))
                                      ((r.set ((0 : Nat) + i.toNat)
                                            (C.int IntKind.i64 kk ::
                                              List.drop ((0 : Nat) + (0 : Nat) + (1 : Nat))
                                                (r.getD ((0 : Nat) + i.toNat) []))).getD
                                        ((0 : Nat) + i.toNat) [])))).getD
                              ((0 : Nat) + i.toNat) [])).append
                        [C.str (markT (IntKind.i64.wrap (IntKind.i64.wrap (kk + (1 : Int)) + (1 : Int))))]).append
                    (List.drop ((0 : Nat) + (2 : Nat) + (1 : Nat))
                      (((r.set ((0 : Nat) + i.toNat)
                                (C.int IntKind.i64 kk ::
                                  List.drop ((0 : Nat) + (0 : Nat) + (1 : Nat)) (r.getD ((0 : Nat) + i.toNat) []))).set
                            ((0 : Nat) + i.toNat)
                            (((List.take ((0 : Nat) + (1 : Nat))
                                      ((r.set ((0 : Nat) + i.toNat)
                                            (C.int IntKind.i64 kk ::
                                              List.drop ((0 : Nat) + (0 : Nat) + (1 : Nat))
                                                (r.getD ((0 : Nat) + i.toNat) []))).getD
                                        ((0 : Nat) + i.toNat) [])).append
                                  [C.str (markT (IntKind.i64.wrap (kk + (1 : Int))))]).append
                              (List.drop ((0 : Nat) + (1 : Nat) + (1 : Nat))
                                ((r.set ((0 : Nat) + i.toNat)
                                      (C.int IntKind.i64 kk ::
                                        List.drop ((0 : Nat) + (0 : Nat) + (1 : Nat))
                                          (r.getD ((0 : Nat) + i.toNat) []))).getD
                                  ((0 : Nat) + i.toNat) [])))).getD
                        ((0 : Nat) + i.toNat) [])))).getD
              ((0 : Nat) + i.toNat) [])).append
        [C.str
            (markT
              (IntKind.i64.wrap
                (IntKind.i64.wrap (IntKind.i64.wrap (kk + (1 : Int)) + (1 : Int)) + (1 : Int))))]).append
    (List.drop ((0 : Nat) + (3 : Nat) + (1 : Nat))
      ((((r.set ((0 : Nat) + i.toNat)
                    (C.int IntKind.i64 kk ::
                      List.drop ((0 : Nat) + (0 : Nat) + (1 : Nat)) (r.getD ((0 : Nat) + i.toNat) []))).set
                ((0 : Nat) + i.toNat)
                (((List.take ((0 : Nat) + (1 : Nat))
                          ((r.set ((0 : Nat) + i.toNat)
                                (C.int IntKind.i64 kk ::
                                  List.drop ((0 : Nat) + (0 : Nat) + (1 : Nat)) (r.getD ((0 : Nat) + i.toNat) []))).getD
                            ((0 : Nat) + i.toNat) [])).append
                      [C.str (markT (IntKind.i64.wrap (kk + (1 : Int))))]).append
                  (List.drop ((0 : Nat) + (1 : Nat) + (1 : Nat))
                    ((r.set ((0 : Nat) + i.toNat)
                          (C.int IntKind.i64 kk ::
                            List.drop ((0 : Nat) + (0 : Nat) + (1 : Nat)) (r.getD ((0 : Nat) + i.toNat) []))).getD
                      ((0 : Nat) + i.toNat) [])))).set
            ((0 : Nat) + i.toNat)
            (((List.take ((0 : Nat) + (2 : Nat))
                      (((r.set ((0 : Nat) + i.toNat)
                                (C.int IntKind.i64 kk ::
                                  List.drop ((0 : Nat) + (0 : Nat) + (1 : Nat)) (r.getD ((0 : Nat) + i.toNat) []))).set
                            ((0 : Nat) + i.toNat)
                            (((List.take ((0 : Nat) + (1 : Nat))
                                      ((r.set ((0 : Nat) + i.toNat)
                                            (C.int IntKind.i64 kk ::
                                              List.drop ((0 : Nat) + (0 : Nat) + (1 : Nat))
                                                (r.getD ((0 : Nat) + i.toNat) []))).getD
                                        ((0 : Nat) + i.toNat) [])).append
                                  [C.str (markT (IntKind.i64.wrap (kk + (1 : Int))))]).append
                              (List.drop ((0 : Nat) + (1 : Nat) + (1 : Nat))
                                ((r.set ((0 : Nat) + i.toNat)
                                      (C.int IntKind.i64 kk ::
                                        List.drop ((0 : Nat) + (0 : Nat) + (1 : Nat))
                                          (r.getD ((0 : Nat) + i.toNat) []))).getD
                                  ((0 : Nat) + i.toNat) [])))).getD
                        ((0 : Nat) + i.toNat) [])).append
                  [C.str (markT (IntKind.i64.wrap (IntKind.i64.wrap (kk + (1 : Int)) + (1 : Int))))]).append
              (List.drop ((0 : Nat) + (2 : Nat) + (1 : Nat))
                (((r.set ((0 : Nat) + i.toNat)
                          (C.int IntKind.i64 kk ::
                            List.drop ((0 : Nat) + (0 : Nat) + (1 : Nat)) (r.getD ((0 : Nat) + i.toNat) []))).set
                      ((0 : Nat) + i.toNat)
                      (((List.take ((0 : Nat) + (1 : Nat))
                                ((r.set ((0 : Nat) + i.toNat)
                                      (C.int IntKind.i64 kk ::
                                        List.drop ((0 : Nat) + (0 : Nat) + (1 : Nat))
                                          (r.getD ((0 : Nat) + i.toNat) []))).getD
                                  ((0 : Nat) + i.toNat) [])).append
                            [C.str (markT (IntKind.i64.wrap (kk + (1 : Int))))]).append
                        (List.drop ((0 : Nat) + (1 : Nat) + (1 : Nat))
                          ((r.set ((0 : Nat) + i.toNat)
                                (C.int IntKind.i64 kk ::
                                  List.drop ((0 : Nat) + (0 : Nat) + (1 : Nat)) (r.getD ((0 : Nat) + i.toNat) []))).getD
                            ((0 : Nat) + i.toNat) [])))).getD
                  ((0 : Nat) + i.toNat) [])))).getD
        ((0 : Nat) + i.toNat) [])))) (IntKind.i64.wrap
  (IntKind.i64.wrap (IntKind.i64.wrap (IntKind.i64.wrap (kk + (1 : Int)) + (1 : Int)) + (1 : Int)) + (1 : Int))) (IntKind.i64.wrap (i + (1 : Int))))))))))))))))
 (.must (true && (false || true) && true && true && ((false || r.all fun r => r.all C.flat) && true && true))
  (.ret [C.int IntKind.i64 kk, C.sl r]))) : T (List C)).eval := evalEq (by kernel_rfl)
theorem lHeldO_round0 (H : List Pt → Nat → St → T (List C)) (r : List (List C)) (kk : Int) (i : Int) (k : Nat) : (vRound E_lHeldO noInl (sg [pSl (29 : TypeId), pI] [rI]) Tryd.f8 H [Pt.r, Pt.l, Pt.r, Pt.b] k (H_lHeldO r kk i)).eval =
 ((.ask (decide (i < (↑r.length : Int)))
 (.must (decide ((0 : Int) ≤ i) && decide (i < (↑r.length : Int)) && decide ((r.getD i.toNat []).length = (4 : Nat)))
  (.must (decide ((0 : Nat) + (0 : Nat) < (r.getD i.toNat []).length) &&
    C.is (K.int IntKind.i64) ((r.getD i.toNat []).getD ((0 : Nat) + (0 : Nat)) (C.fn (0 : FuncId) [])) &&
  true)
   (.ask (((r.getD i.toNat []).getD ((0 : Nat) + (0 : Nat)) (C.fn (0 : FuncId) [])).toInt != kk)
    (.ret [C.int IntKind.i64 (-1 : Int)])
    (.must (decide ((0 : Int) ≤ i) && decide (i < (↑r.length : Int)) && decide ((r.getD i.toNat []).length = (4 : Nat)))
     (.must (decide ((0 : Nat) + (1 : Nat) < (r.getD i.toNat []).length) &&
    C.is K.str ((r.getD i.toNat []).getD ((0 : Nat) + (1 : Nat)) (C.fn (0 : FuncId) [])) &&
  true)
      (.must (decide (IntKind.i64.wrap (kk + (1 : Int)) ≤ (4611686018427387904 : Int)))
       (.ask (!((r.getD i.toNat []).getD ((0 : Nat) + (1 : Nat)) (C.fn (0 : FuncId) [])).toStr ==
    markT (IntKind.i64.wrap (kk + (1 : Int))))
        (.ret [C.int IntKind.i64 (-1 : Int)])
        (.must (decide ((0 : Int) ≤ i) && decide (i < (↑r.length : Int)) && decide ((r.getD i.toNat []).length = (4 : Nat)))
         (.must (decide ((0 : Nat) + (2 : Nat) < (r.getD i.toNat []).length) &&
    C.is K.str ((r.getD i.toNat []).getD ((0 : Nat) + (2 : Nat)) (C.fn (0 : FuncId) [])) &&
  true)
          (.must (decide (IntKind.i64.wrap (IntKind.i64.wrap (kk + (1 : Int)) + (1 : Int)) ≤ (4611686018427387904 : Int)))
           (.ask (!((r.getD i.toNat []).getD ((0 : Nat) + (2 : Nat)) (C.fn (0 : FuncId) [])).toStr ==
    markT (IntKind.i64.wrap (IntKind.i64.wrap (kk + (1 : Int)) + (1 : Int))))
            (.ret [C.int IntKind.i64 (-1 : Int)])
            (.must (decide ((0 : Int) ≤ i) && decide (i < (↑r.length : Int)) && decide ((r.getD i.toNat []).length = (4 : Nat)))
             (.must (decide ((0 : Nat) + (3 : Nat) < (r.getD i.toNat []).length) &&
    C.is K.str ((r.getD i.toNat []).getD ((0 : Nat) + (3 : Nat)) (C.fn (0 : FuncId) [])) &&
  true)
              (.must (decide
  (IntKind.i64.wrap (IntKind.i64.wrap (IntKind.i64.wrap (kk + (1 : Int)) + (1 : Int)) + (1 : Int)) ≤
    (4611686018427387904 : Int)))
               (.ask (!((r.getD i.toNat []).getD ((0 : Nat) + (3 : Nat)) (C.fn (0 : FuncId) [])).toStr ==
    markT (IntKind.i64.wrap (IntKind.i64.wrap (IntKind.i64.wrap (kk + (1 : Int)) + (1 : Int)) + (1 : Int))))
                (.ret [C.int IntKind.i64 (-1 : Int)])
                (H [Pt.r, Pt.l, Pt.r, Pt.b] k (H_lHeldO (r) (IntKind.i64.wrap
  (IntKind.i64.wrap (IntKind.i64.wrap (IntKind.i64.wrap (kk + (1 : Int)) + (1 : Int)) + (1 : Int)) + (1 : Int))) (IntKind.i64.wrap (i + (1 : Int))))))))))))))))))))
 (.ret [C.int IntKind.i64 kk])) : T (List C)).eval := evalEq (by kernel_rfl)
theorem sTempName_tree (H : List Pt → Nat → St → T (List C)) (n : Int) : (vBodyL E_sTempName noInl (sg [pI] [rS]) Tryd.f9 H [C.int IntKind.i64 n]).eval =
 ((.ask (segName n == [])
 (.ret [C.str []])
 (.must (decide ((segName n).length + (4 : Nat) ≤ (9223372036854775807 : Nat)))
  (.ret [C.str (segName n ++ [(46 : UInt8), (116 : UInt8), (109 : UInt8), (112 : UInt8)])]))) : T (List C)).eval := evalEq (by kernel_rfl)
theorem iTempName_tree (H : List Pt → Nat → St → T (List C)) (n : Int) : (vBodyL E_iTempName noInl (sg [pI] [rS]) Tryd.f11 H [C.int IntKind.i64 n]).eval =
 ((.ask (inB n (0 : Int) (1000000000 : Int))
 (.must (decide ((segName n).length + (4 : Nat) ≤ (9223372036854775807 : Nat)))
  (.ret [C.str (segName n ++ [(46 : UInt8), (116 : UInt8), (109 : UInt8), (112 : UInt8)])]))
 (.ret [C.str []])) : T (List C)).eval := evalEq (by kernel_rfl)
theorem sFresh_tree (H : List Pt → Nat → St → T (List C)) (n : Int) (t : List UInt8) : (vBodyL E_sFresh noInl (sg [pI, pS] [rSl (29 : TypeId)]) Tryd.f4 H [C.int IntKind.i64 n, C.str t]).eval =
 ((.ret [C.sl
    [[C.int IntKind.i64 (2 : Int), C.str (tempName n), C.str [], C.str []],
      [C.int IntKind.i64 (3 : Int), C.str (tempName n), C.str [], C.str t],
      [C.int IntKind.i64 (4 : Int), C.str (tempName n), C.str [], C.str []],
      [C.int IntKind.i64 (5 : Int), C.str (tempName n), C.str (segName n), C.str []],
      [C.int IntKind.i64 (6 : Int), C.str [], C.str [], C.str []]]]) : T (List C)).eval := evalEq (by kernel_rfl)
theorem iFresh_tree (H : List Pt → Nat → St → T (List C)) (n : Int) (t : List UInt8) : (vBodyL E_iFresh noInl (sg [pI, pS] [rSl (29 : TypeId)]) Tryd.f5 H [C.int IntKind.i64 n, C.str t]).eval =
 ((.ret [C.sl
    [[C.int IntKind.i64 (2 : Int), C.str (tempName n), C.str [], C.str []],
      [C.int IntKind.i64 (3 : Int), C.str (tempName n), C.str [], C.str t],
      [C.int IntKind.i64 (4 : Int), C.str (tempName n), C.str [], C.str []],
      [C.int IntKind.i64 (5 : Int), C.str (tempName n), C.str (segName n), C.str []],
      [C.int IntKind.i64 (6 : Int), C.str [], C.str [], C.str []]]]) : T (List C)).eval := evalEq (by kernel_rfl)
theorem lFresh_tree (H : List Pt → Nat → St → T (List C)) (n : Int) (t : List UInt8) : (vBodyL E_lFresh noInl (sg [pI, pS] [rB]) Tryd.f3 H [C.int IntKind.i64 n, C.str t]).eval =
 ((.ask (decide ((1048576 : Int) < (↑t.length : Int)))
 (.ret [C.bool true])
 (.ask (decide
  (ops
      [[C.int IntKind.i64 (2 : Int), C.str (tempName n), C.str [], C.str []],
        [C.int IntKind.i64 (3 : Int), C.str (tempName n), C.str [], C.str t],
        [C.int IntKind.i64 (4 : Int), C.str (tempName n), C.str [], C.str []],
        [C.int IntKind.i64 (5 : Int), C.str (tempName n), C.str (segName n), C.str []],
        [C.int IntKind.i64 (6 : Int), C.str [], C.str [], C.str []]] =
    ops
      [[C.int IntKind.i64 (2 : Int), C.str (tempName n), C.str [], C.str []],
        [C.int IntKind.i64 (3 : Int), C.str (tempName n), C.str [], C.str t],
        [C.int IntKind.i64 (4 : Int), C.str (tempName n), C.str [], C.str []],
        [C.int IntKind.i64 (5 : Int), C.str (tempName n), C.str (segName n), C.str []],
        [C.int IntKind.i64 (6 : Int), C.str [], C.str [], C.str []]]))
  (.ask (decide
  (ops
      [[C.int IntKind.i64 (2 : Int), C.str (tempName n), C.str [], C.str []],
        [C.int IntKind.i64 (3 : Int), C.str (tempName n), C.str [], C.str t],
        [C.int IntKind.i64 (4 : Int), C.str (tempName n), C.str [], C.str []],
        [C.int IntKind.i64 (5 : Int), C.str (tempName n), C.str (segName n), C.str []],
        [C.int IntKind.i64 (6 : Int), C.str [], C.str [], C.str []]] =
    ops
      [[C.int IntKind.i64 (2 : Int), C.str (tempName n), C.str [], C.str []],
        [C.int IntKind.i64 (3 : Int), C.str (tempName n), C.str [], C.str t],
        [C.int IntKind.i64 (4 : Int), C.str (tempName n), C.str [], C.str []],
        [C.int IntKind.i64 (5 : Int), C.str (tempName n), C.str (segName n), C.str []],
        [C.int IntKind.i64 (6 : Int), C.str [], C.str [], C.str []]]))
   (.ret [C.bool true])
   (.ret [C.bool false]))
  (.ret [C.bool false]))) : T (List C)).eval := evalEq (by kernel_rfl)
end Go.Proofs.YthpamcbipmkimaaDoor.V

namespace Go.Proofs.YthpamcbipmkimaaDoor.V

theorem row_op {r : List C} (h : kindsOk r kOp = true) : r = eOp (rowOp r) := by
  match r, h with
  | [a, b, c, d], h =>
    simp only [kindsOk, Bool.and_eq_true, and_true] at h
    obtain ⟨h1, h2, h3, h4⟩ := h
    have e1 := is_int h1
    have e2 := is_str h2
    have e3 := is_str h3
    have e4 := is_str h4
    show [a, b, c, d] = [.int .i64 a.toInt, .str b.toStr, .str c.toStr, .str d.toStr]
    rw [← e1, ← e2, ← e3, ← e4]
  | [], h => simp [kindsOk] at h
  | [_], h => simp [kindsOk] at h
  | [_, _], h => simp [kindsOk] at h
  | [_, _, _], h => simp [kindsOk] at h
  | _ :: _ :: _ :: _ :: _ :: _, h => simp [kindsOk] at h
theorem rows_ops {rows : List (List C)} (h : rowsOk kOp rows = true) : rows = (ops rows).map eOp := by
  simp only [rowsOk, List.all_eq_true] at h
  simp only [ops, List.map_map]
  exact (List.map_id' rows).symm.trans (List.map_congr_left fun r hr => row_op (h r hr))
@[simp] theorem ops_map (l : List Opx) : ops (l.map eOp) = l := by simp [ops, rowOp, Function.comp_def, C.toInt, C.toStr]

theorem eqOp_E : EnvSound Tryd.prog E_eqOp := mkE_sound (by simp [])
theorem eqOp_sound : Sound Tryd.prog 13 (sg [pOp, pOp] [rB]) eqOpSpec := vBody_sound eqOp_E noInl_ok Tryd.func13 (by kernel_rfl) fun cs outs hk h => by
  unfold eqOpSpec at h
  split at h
  · simp only [Option.some.injEq, Prod.mk.injEq, true_and] at h
    subst h
    rw [vBody_L, eqOp_tree]
    simp only [eval_ask', eval_must', eval_ret', bne_iff_ne, ne_eq, Bool.not_eq_true', beq_eq_false_iff_ne, eqOpx, Opx.mk.injEq]
    repeat' split
    all_goals first | rfl | (simp_all; done)
  · cases h
theorem eqOpS_loop (x y : List Opx) (hx : x.length ≤ 1048576) (hl : x.length = y.length) : ∀ (n i : Nat), i ≤ x.length → x.length < i + n → x.take i = y.take i →
    (vLoop E_eqOpS noInl (sg [pSl 29, pSl 29] [rB]) Tryd.f6 [.r, .r, .l, .r, .b] n (H_eqOpS (x.map eOp) (y.map eOp) i)).eval = some [.bool (decide (x = y))] := by
  intro n
  induction n with
  | zero => intro i h1 h2; omega
  | succ n ih =>
    intro i h1 h2 h3
    rw [vLoop_L _ _ _ _ _ _ _ (by kernel_rfl), eqOpS_round0]
    by_cases hi : i < x.length
    · have hi2 : i < y.length := by omega
      have w : IntKind.i64.wrap ((i : Int) + 1) = ((i + 1 : Nat) : Int) := by rw [wrap64] <;> omega
      have hz : (0 : Int) ≤ i := by omega
      have g := map_getD eOp x ⟨0, [], [], []⟩ i hi
      have g2 := map_getD eOp y ⟨0, [], [], []⟩ i hi2
      simp only [eval_must', eval_ask', eval_ret', if_true, decide_eq_true_eq, Bool.and_eq_true, w, hz, Int.toNat_natCast, Int.ofNat_lt, List.length_map, g, g2, hi, hi2, and_self, List.getD_cons_zero, List.getD_cons_succ, C.toStr, C.toInt, C.is, List.length_cons, List.length_nil, Nat.zero_add, Nat.reduceAdd, Nat.reduceLT, decide_true, beq_self_eq_true]
      by_cases hxy : x.getD i ⟨0, [], [], []⟩ = y.getD i ⟨0, [], [], []⟩
      · have e := ih (i + 1) (by omega) (by omega) (take_eq_step ⟨0, [], [], []⟩ hi hi2 h3 hxy)
        have he : eqOpx (x.getD i ⟨0, [], [], []⟩).kind (x.getD i ⟨0, [], [], []⟩).name (x.getD i ⟨0, [], [], []⟩).to (x.getD i ⟨0, [], [], []⟩).text (y.getD i ⟨0, [], [], []⟩).kind (y.getD i ⟨0, [], [], []⟩).name (y.getD i ⟨0, [], [], []⟩).to (y.getD i ⟨0, [], [], []⟩).text = true := decide_eq_true hxy
        simp only [he, if_true]
        exact e
      · have : x ≠ y := fun h => hxy (by rw [h])
        have hne : eqOpx (x.getD i ⟨0, [], [], []⟩).kind (x.getD i ⟨0, [], [], []⟩).name (x.getD i ⟨0, [], [], []⟩).to (x.getD i ⟨0, [], [], []⟩).text (y.getD i ⟨0, [], [], []⟩).kind (y.getD i ⟨0, [], [], []⟩).name (y.getD i ⟨0, [], [], []⟩).to (y.getD i ⟨0, [], [], []⟩).text = false := decide_eq_false hxy
        simp only [hne, decide_false, Bool.false_eq_true, if_false, this]
    · have e1 : i = x.length := by omega
      have : x = y := by
        rw [e1, List.take_length, hl, List.take_length] at h3
        exact h3
      have e2 : decide (x = y) = true := by simp [this]
      simp only [eval_must', eval_ask', eval_ret', decide_eq_true_eq, List.length_map, Int.ofNat_lt, hi, if_false, if_true, e2]
theorem eqOpS_E : EnvSound Tryd.prog E_eqOpS := mkE_sound (by simp [eqOp_sound])
theorem eqOpS_sound : Sound Tryd.prog 6 (sg [pSl 29, pSl 29] [rB]) eqOpSSpec := vBody_sound eqOpS_E noInl_ok Tryd.func6 (by kernel_rfl) fun cs outs hk h => by
  unfold eqOpSSpec at h
  split at h
  · simp only [Option.some.injEq, Prod.mk.injEq, Bool.and_eq_true, decide_eq_true_eq] at h
    obtain ⟨⟨h1, h2, h3⟩, rfl⟩ := h
    rename_i x y
    have hx := rows_ops h2
    have hy := rows_ops h3
    generalize ops x = l at hx ⊢
    generalize ops y = m at hy ⊢
    subst hx; subst hy
    rw [List.length_map] at h1
    rw [vBody_L, eqOpS_tree]
    simp only [eval_must', eval_ask', eval_ret', if_true, bne_iff_ne, ne_eq, List.length_map, Int.ofNat_inj]
    by_cases hl : l.length = m.length
    · simp only [hl, not_true_eq_false, if_false]
      exact eqOpS_loop l m h1 hl _ 0 (by omega) (by omega) rfl
    · have : l ≠ m := fun h => hl (by rw [h])
      simp [hl, this]
  · cases h

theorem lMarkO_loop (rows : List (List C)) (k : Int) (hr : rowsOk kOp rows = true) (hl : rows.length ≤ 1048576) (h0 : 0 ≤ k) (h1 : k ≤ 1099511627776) : ∀ (n i : Nat), i ≤ rows.length → rows.length < i + n →
    (vLoop E_lMarkO noInl (sg [.wr false [(.slice 29, true)], pI] [rI]) Tryd.f7 [.r, .l, .r, .b] n (H_lMarkO rows.length (mk mkOp 4 k i ++ rows.drop i) (k + 4 * i) i)).eval = some [.int .i64 (k + 4 * rows.length), .sl (mk mkOp 4 k rows.length)] := by
  intro n
  induction n with
  | zero => intro i a b; omega
  | succ n ih =>
    intro i a b
    rw [vLoop_L _ _ _ _ _ _ _ (by kernel_rfl), lMarkO_round0]
    by_cases hi : i < rows.length
    · have w : IntKind.i64.wrap ((i : Int) + 1) = ((i + 1 : Nat) : Int) := by rw [wrap64] <;> omega
      have w1 : IntKind.i64.wrap (k + 4 * (i : Int) + 1) = k + 4 * (i : Int) + 1 := by rw [wrap64] <;> omega
      have w2 : IntKind.i64.wrap (k + 4 * (i : Int) + 1 + 1) = k + 4 * (i : Int) + 2 := by rw [wrap64] <;> omega
      have w3 : IntKind.i64.wrap (k + 4 * (i : Int) + 2 + 1) = k + 4 * (i : Int) + 3 := by rw [wrap64] <;> omega
      have w4 : IntKind.i64.wrap (k + 4 * (i : Int) + 3 + 1) = k + 4 * (i : Int) + 4 := by rw [wrap64] <;> omega
      have hk2 : k + 4 * (i : Int) + 2 ≤ 4611686018427387904 := by omega
      have hk3 : k + 4 * (i : Int) + 3 ≤ 4611686018427387904 := by omega
      have wk : k + 4 * (i : Int) + 4 = k + 4 * ((i + 1 : Nat) : Int) := by omega
      have hz : (0 : Int) ≤ i := by omega
      have hi' : (i : Int) < rows.length := by omega
      have hk : k + 4 * (i : Int) ≤ 4611686018427387904 := by omega
      have hk1 : k + 4 * (i : Int) + 1 ≤ 4611686018427387904 := by omega
      have g := row_op (rowsOk_getD hr i hi)
      have hlen : i < (mk mkOp 4 k i ++ rows.drop i).length := by simp [mk_len]; omega
      simp only [Nat.zero_add, Nat.add_zero, Int.toNat_natCast, List.set_set, List.length_set, getD_set_self _ _ _ _ hlen, w, w1, w2, w3, w4, List.append_eq]
      simp only [getD_mid _ _ _ _ (mk_len _ _ _ _), set_mid _ _ _ _ (mk_len _ _ _ _) hi]
      rw [g]
      simp only [List.drop_succ_cons, List.drop_zero, List.take_succ_cons, List.take_zero, List.cons_append, List.nil_append, List.drop_nil, List.append_nil, List.append_assoc]
      have e : mk mkOp 4 k i ++ [[C.int .i64 (k + 4 * (i : Int)), C.str (markT (k + 4 * (i : Int) + 1)), C.str (markT (k + 4 * (i : Int) + 2)), C.str (markT (k + 4 * (i : Int) + 3))]] = mk mkOp 4 k (i + 1) := (mk_succ mkOp 4 k i).symm
      simp only [eval_must', eval_ask', decide_eq_true_eq, Bool.and_eq_true, hz, hi', hk, hk1, hk2, hk3, hlen, and_self, if_true]
      have := ih (i + 1) (by omega) (by omega)
      rw [← e, ← wk, List.append_assoc] at this
      exact this
    · have e : i = rows.length := by omega
      subst e
      have hi' : ¬ ((rows.length : Int) < (rows.length : Int)) := by omega
      have hf : ((mk mkOp 4 k rows.length).all fun r => r.all C.flat) = true := mk_all _ _ _ _ _ fun k => rfl
      simp only [eval_ask', eval_must', eval_ret', decide_eq_true_eq, hi', if_false, List.drop_length, List.append_nil, hf, Bool.false_or, Bool.or_true, Bool.and_true, Bool.and_self, if_true]
theorem lMarkO_E : EnvSound Tryd.prog E_lMarkO := mkE_sound (by simp [lMarkText_sound])
theorem lMarkO_sound : Sound Tryd.prog 7 (sg [.wr false [(.slice 29, true)], pI] [rI]) markOSpec := vBody_sound lMarkO_E noInl_ok Tryd.func7 (by kernel_rfl) fun cs outs hk h => by
  unfold markOSpec at h
  split at h
  · simp only [Option.some.injEq, Prod.mk.injEq, Bool.and_eq_true, decide_eq_true_eq] at h
    obtain ⟨⟨h1, h2, h3, h4⟩, rfl⟩ := h
    rename_i rows k
    rw [vBody_L, lMarkO_tree]
    have := lMarkO_loop rows k h1 h2 h3 h4 9223372036854775808 0 (by omega) (by omega)
    rw [show mk mkOp 4 k 0 ++ rows.drop 0 = rows by simp [mk], show k + 4 * ((0 : Nat) : Int) = k by omega] at this
    have r1 := rowsOk_len h1 4 rfl
    simp only [eval_must', r1, Bool.and_true, Bool.true_and, Nat.zero_lt_one, decide_true, if_true]
    exact this
  · cases h
theorem lHeldO_loop (l : List Opx) (hl : l.length ≤ 1048576) : ∀ (n i : Nat) (k : Int), 0 ≤ k → k ≤ 1099511627776 + 4 * i → i ≤ l.length → l.length < i + n →
    (vLoop E_lHeldO noInl (sg [pSl 29, pI] [rI]) Tryd.f8 [.r, .l, .r, .b] n (H_lHeldO (l.map eOp) k i)).eval = some [.int .i64 (heldOp (l.drop i) k)] := by
  intro n
  induction n with
  | zero => intro i k _ _ a b; omega
  | succ n ih =>
    intro i k k0 k1 a b
    rw [vLoop_L _ _ _ _ _ _ _ (by kernel_rfl), lHeldO_round0]
    by_cases hi : i < l.length
    · have g := map_getD eOp l ⟨0, [], [], []⟩ i hi
      have w : IntKind.i64.wrap ((i : Int) + 1) = ((i + 1 : Nat) : Int) := by rw [wrap64] <;> omega
      have w1 : IntKind.i64.wrap (k + 1) = k + 1 := by rw [wrap64] <;> omega
      have w2 : IntKind.i64.wrap (k + 1 + 1) = k + 2 := by rw [wrap64] <;> omega
      have w3 : IntKind.i64.wrap (k + 2 + 1) = k + 3 := by rw [wrap64] <;> omega
      have w4 : IntKind.i64.wrap (k + 3 + 1) = k + 4 := by rw [wrap64] <;> omega
      have hz : (0 : Int) ≤ i := by omega
      have hi' : (i : Int) < l.length := by omega
      have hk1 : k + 1 ≤ 4611686018427387904 := by omega
      have hk2 : k + 2 ≤ 4611686018427387904 := by omega
      have hk3 : k + 3 ≤ 4611686018427387904 := by omega
      rw [drop_cons l i ⟨0, [], [], []⟩ hi]
      generalize l.getD i ⟨0, [], [], []⟩ = y at g ⊢
      have e := ih (i + 1) (k + 4) (by omega) (by omega) (by omega) (by omega)
      simp only [eval_must', eval_ask', eval_ret', if_true, decide_eq_true_eq, Bool.and_eq_true, w, w1, w2, w3, w4, hz, hi', hk1, hk2, hk3, Int.toNat_natCast, List.length_map, g, and_self, List.getD_cons_zero, List.getD_cons_succ, C.toStr, C.toInt, C.is, List.length_cons, List.length_nil, Nat.zero_add, Nat.reduceAdd, Nat.reduceLT, Nat.zero_lt_succ, decide_true, Bool.not_eq_true', beq_eq_false_iff_ne, beq_self_eq_true, bne_iff_ne, ne_eq, heldOp]
      by_cases h1 : y.kind = k
      · by_cases h2 : y.name = markT (k + 1)
        · by_cases h3 : y.to = markT (k + 2)
          · by_cases h4 : y.text = markT (k + 3)
            · simp only [h1, h2, h3, h4, not_true_eq_false, if_false, if_true, and_self]
              exact e
            · simp only [h1, h2, h3, h4, not_true_eq_false, not_false_eq_true, if_false, if_true, and_false, and_true]
          · simp only [h1, h2, h3, not_true_eq_false, not_false_eq_true, if_false, if_true, and_false, false_and]
        · simp only [h1, h2, not_true_eq_false, not_false_eq_true, if_false, if_true, and_false, false_and]
      · simp only [h1, not_false_eq_true, if_true, false_and, if_false]
    · have e : i = l.length := by omega
      subst e
      have hi' : ¬ ((l.length : Int) < (l.length : Int)) := by omega
      simp only [eval_ask', eval_ret', decide_eq_true_eq, List.length_map, hi', if_false, List.drop_length, heldOp]
theorem lHeldO_E : EnvSound Tryd.prog E_lHeldO := mkE_sound (by simp [lMarkText_sound])
theorem lHeldO_sound : Sound Tryd.prog 8 (sg [pSl 29, pI] [rI]) heldOSpec := vBody_sound lHeldO_E noInl_ok Tryd.func8 (by kernel_rfl) fun cs outs hk h => by
  unfold heldOSpec at h
  split at h
  · simp only [Option.some.injEq, Prod.mk.injEq, Bool.and_eq_true, decide_eq_true_eq] at h
    obtain ⟨⟨h1, h2, h3, h4⟩, rfl⟩ := h
    rename_i rows k
    have hr := rows_ops h1
    generalize ops rows = l at hr ⊢
    subst hr
    rw [List.length_map] at h2
    rw [vBody_L, lHeldO_tree]
    exact lHeldO_loop l h2 9223372036854775808 0 k h3 (by omega) (by omega) (by omega)
  · cases h
theorem heldO_mk (k : Int) : ∀ (n i : Nat), heldOp ((List.range' i n).map fun (j : Nat) => (⟨k + 4 * (j : Int), markT (k + 4 * (j : Int) + 1), markT (k + 4 * (j : Int) + 2), markT (k + 4 * (j : Int) + 3)⟩ : Opx)) (k + 4 * (i : Int)) = k + 4 * (i : Int) + 4 * n := by
  intro n
  induction n with
  | zero => intro i; simp [heldOp]
  | succ n ih =>
    intro i
    have := ih (i + 1)
    have e : k + 4 * ((i + 1 : Nat) : Int) = k + 4 * (i : Int) + 4 := by omega
    rw [e] at this
    simp only [List.range'_succ, List.map_cons, heldOp, and_self, if_true] at this ⊢
    rw [this]
    omega
theorem heldO_marks (k : Int) (n : Nat) : heldOp (ops (mk mkOp 4 k n)) k = k + 4 * n := by
  have := heldO_mk k n 0
  rw [show ops (mk mkOp 4 k n) = (List.range' 0 n).map fun (j : Nat) => (⟨k + 4 * (j : Int), markT (k + 4 * (j : Int) + 1), markT (k + 4 * (j : Int) + 2), markT (k + 4 * (j : Int) + 3)⟩ : Opx) by simp [ops, mk, rowOp, mkOp, C.toStr, C.toInt, List.range_eq_range', Function.comp_def]]
  have e : k + 4 * ((0 : Nat) : Int) = k := by omega
  rw [e] at this
  exact this

theorem seg_len (n : Int) : (segName n).length ≤ 100 := by
  unfold segName
  split
  · simp [digK_len]
  · simp
theorem sTempName_E : EnvSound Tryd.prog E_sTempName := mkE_sound (by simp [sSegmentName_sound])
theorem sTempName_sound : Sound Tryd.prog 9 (sg [pI] [rS]) tempSpec := vBody_sound sTempName_E noInl_ok Tryd.func9 (by kernel_rfl) fun cs outs hk h => by
  unfold tempSpec at h
  split at h
  · simp only [Option.some.injEq, Prod.mk.injEq, true_and] at h
    subst h
    rename_i n
    rw [vBody_L, sTempName_tree]
    have hl := seg_len n
    have h4 : (segName n).length + 4 ≤ 9223372036854775807 := by omega
    by_cases hb : inB n 0 1000000000 = true
    · have hne : (segName n == []) = false := by unfold segName; rw [if_pos hb]; rfl
      simp only [eval_ask', eval_must', eval_ret', hne, h4, hb, Bool.false_eq_true, if_false, if_true, decide_true, tempName]
    · have hs : segName n = [] := by unfold segName; rw [if_neg hb]
      simp only [eval_ask', eval_must', eval_ret', hs, hb, beq_self_eq_true, if_true, if_false, tempName, Bool.false_eq_true]
  · cases h
theorem iTempName_E : EnvSound Tryd.prog E_iTempName := mkE_sound (by simp [iIsNumber_sound, iSegmentName_sound])
theorem iTempName_sound : Sound Tryd.prog 11 (sg [pI] [rS]) tempSpec := vBody_sound iTempName_E noInl_ok Tryd.func11 (by kernel_rfl) fun cs outs hk h => by
  unfold tempSpec at h
  split at h
  · simp only [Option.some.injEq, Prod.mk.injEq, true_and] at h
    subst h
    rename_i n
    rw [vBody_L, iTempName_tree]
    have hl := seg_len n
    have h4 : (segName n).length + 4 ≤ 9223372036854775807 := by omega
    by_cases hb : inB n 0 1000000000 = true
    · simp only [eval_ask', eval_must', eval_ret', h4, hb, if_true, decide_true, tempName]
    · simp only [eval_ask', eval_must', eval_ret', hb, if_false, tempName, Bool.false_eq_true]
  · cases h
theorem sFresh_E : EnvSound Tryd.prog E_sFresh := mkE_sound (by simp [sSegmentName_sound, sTempName_sound])
theorem sFresh_sound : Sound Tryd.prog 4 (sg [pI, pS] [rSl 29]) freshSpec := vBody_sound sFresh_E noInl_ok Tryd.func4 (by kernel_rfl) fun cs outs hk h => by
  unfold freshSpec at h
  split at h
  · simp only [Option.some.injEq, Prod.mk.injEq, true_and] at h
    subst h
    rw [vBody_L, sFresh_tree]
    rfl
  · cases h
theorem iFresh_E : EnvSound Tryd.prog E_iFresh := mkE_sound (by simp [iSegmentName_sound, iTempName_sound])
theorem iFresh_sound : Sound Tryd.prog 5 (sg [pI, pS] [rSl 29]) freshSpec := vBody_sound iFresh_E noInl_ok Tryd.func5 (by kernel_rfl) fun cs outs hk h => by
  unfold freshSpec at h
  split at h
  · simp only [Option.some.injEq, Prod.mk.injEq, true_and] at h
    subst h
    rw [vBody_L, iFresh_tree]
    rfl
  · cases h
theorem lFresh_E : EnvSound Tryd.prog E_lFresh := mkE_sound (by simp [eqOpS_sound, lMarkO_sound, lHeldO_sound, sFresh_sound, iFresh_sound])
theorem lFresh_sound : Sound Tryd.prog 3 (sg [pI, pS] [rB]) freshLaw := vBody_sound lFresh_E noInl_ok Tryd.func3 (by kernel_rfl) fun cs outs hk h => by
  unfold freshLaw at h
  split at h
  · simp only [Option.some.injEq, Prod.mk.injEq, decide_eq_true_eq] at h
    obtain ⟨_, rfl⟩ := h
    rw [vBody_L, lFresh_tree]
    simp only [eval_ask', eval_must', eval_ret', decide_true, if_true, ite_self]
  · cases h

end Go.Proofs.YthpamcbipmkimaaDoor.V
