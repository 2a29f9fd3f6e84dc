/- Functions of the given program and of its reference: what each returns, as an equation over data; by the interpreter. -/
import Derived.Test.YthpcgbnochcbcaaVG
import Derived.Test.YthpcgbnochcbcaaProg
import Derived.KernelRfl
set_option linter.unusedVariables false
set_option linter.unusedSimpArgs false
set_option linter.unusedSectionVars false
set_option linter.deprecated false
namespace Go.Proofs.Ythpcgbnochcbcaa.V
noncomputable section
def tyTab : List (TypeId × TI) := [(2, ⟨false, [.int .i64], [], 8, false⟩),
  (3, ⟨false, [.int .i64], [], 8, false⟩),
  (4, ⟨false, [.bool], [], 1, false⟩),
  (5, ⟨false, [.int .u8], [], 1, false⟩),
  (6, ⟨false, [.int .u8], [], 1, false⟩),
  (7, ⟨true, [.int .i64, .int .i64, .bool, .int .u8], [(0, 2), (1, 3), (2, 4), (3, 6)], 24, false⟩),
  (8, ⟨true, [.int .i64, .int .i64, .bool, .int .u8], [(0, 2), (1, 3), (2, 4), (3, 6)], 24, false⟩),
  (9, ⟨false, [.str], [], 16, false⟩),
  (10, ⟨false, [.str], [], 16, false⟩),
  (11, ⟨false, [.str], [], 16, false⟩),
  (12, ⟨false, [.int .u64], [], 8, false⟩),
  (13, ⟨true, [.str, .int .u64], [(0, 9), (1, 12)], 24, false⟩),
  (14, ⟨true, [.str, .int .u64], [(0, 9), (1, 12)], 24, false⟩),
  (21, ⟨false, [.int .i32], [], 4, false⟩),
  (22, ⟨false, [.slice 5], [], 24, false⟩),
  (24, ⟨false, [.slice 9], [], 24, false⟩),
  (27, ⟨false, [.slice 24], [], 24, false⟩),
  (43, ⟨false, [.slice 3], [], 24, false⟩),
  (49, ⟨true, [.int .i64, .int .i64, .int .i64, .int .i64], [(0, 3), (1, 3), (2, 3), (3, 3)], 32, false⟩),
  (50, ⟨true, [.int .i64, .int .i64, .int .i64, .int .i64], [(0, 3), (1, 3), (2, 3), (3, 3)], 32, true⟩),
  (81, ⟨false, [.int .u64], [], 8, false⟩),
  (89, ⟨true, [.bool, .int .i64, .int .i64, .int .i64, .int .i64, .slice 9, .slice 3, .int .i64, .bool], [(0, 4), (1, 50), (5, 24), (6, 43), (7, 3), (8, 4)], 104, false⟩),
  (90, ⟨true, [.bool, .int .i64, .int .i64, .int .i64, .int .i64, .slice 9, .slice 3, .int .i64, .bool], [(0, 4), (1, 50), (5, 24), (6, 43), (7, 3), (8, 4)], 104, false⟩),
  (95, ⟨true, [.slice 5, .int .i64, .int .i64], [(0, 22), (1, 3), (2, 3)], 40, false⟩),
  (96, ⟨true, [.slice 5, .int .i64, .int .i64], [(0, 22), (1, 3), (2, 3)], 40, false⟩),
  (103, ⟨false, [.slice 109], [], 24, false⟩),
  (106, ⟨false, [.int .u32], [], 4, false⟩),
  (108, ⟨true, [.int .i64, .int .i64], [(0, 3), (1, 3)], 16, false⟩),
  (109, ⟨true, [.int .i64, .int .i64], [(0, 3), (1, 3)], 16, true⟩),
  (117, ⟨false, [.int .u8], [], 1, false⟩),
  (118, ⟨false, [.int .u8], [], 1, false⟩),
  (121, ⟨false, [.int .i32], [], 4, false⟩),
  (122, ⟨false, [.int .i32], [], 4, false⟩)]
def arrTab : List (TypeId × Nat × TypeId) := []
def glTab : List (Nat × String) := []
abbrev Laws := List (FuncId × Sig × Spec)
def mkE (lv : List (Nat × List Nat)) (gs : Laws) : Env := { Ty := tyOf tyTab, Γ := fun g => gs.lookup g, inl := fun _ => none, lv := fun h => (lv.lookup h).getD [], ren := true, fuel := 9223372036854775808, nt := 0, Arr := fun t => arrTab.lookup t, gl := glOf glTab }
abbrev pI : PTy := .val false [.int .i64]
abbrev pU8 : PTy := .val false [.int .u8]
abbrev pU32 : PTy := .val false [.int .u32]
abbrev pS : PTy := .val false [.str]
abbrev pB : PTy := .val false [.bool]
abbrev rI : RTy := ⟨false, [(.int .i64, false)]⟩
abbrev rU8 : RTy := ⟨false, [(.int .u8, false)]⟩
abbrev rU32 : RTy := ⟨false, [(.int .u32, false)]⟩
abbrev rB : RTy := ⟨false, [(.bool, false)]⟩
abbrev rS : RTy := ⟨false, [(.str, false)]⟩
abbrev sg (ps : List PTy) (rs : List RTy) : Sig := ⟨ps, rs, false⟩
abbrev int64 (n : Int) : W := .l (.i .i64 n)
abbrev wstr (s : List UInt8) : W := .l (.s s)
abbrev st0 (slots : List (Nat × W)) : St := { slots, heap := [], next := 0, pins := [] }
abbrev st1 (slots : List (Nat × W)) (sz : Nat) (rows : List (List C)) : St := { slots, heap := [(0, .arr sz rows)], next := 1, pins := [] }
theorem tyTab_ok : (tyTab.all fun p => tyB Try.prog p.1 p.2) = true := by kernel_rfl
theorem arrTab_ok : arrTabB Try.prog tyTab arrTab = true := by kernel_rfl
theorem glTab_ok : glB Try.prog glTab = true := by kernel_rfl
theorem mkE_sound {lv : List (Nat × List Nat)} {gs : Laws} (h : ∀ p, p ∈ gs → Sound Try.prog p.1 p.2.1 p.2.2) : EnvSound Try.prog (mkE lv gs) :=
  ⟨⟨(tys_ok tyTab_ok).1, fun g fn h => (by cases h), fun t m e te h1 h2 => arrs_ok arrTab_ok t m e te h1 h2, gls_ok glTab_ok⟩, fun g sig spec hl => h (g, sig, spec) (lookup_mem hl), fun g fn h => (by cases h), by kernel_rfl⟩
def E0 : Env := mkE [] []
theorem E0_sound : EnvSound Try.prog E0 := mkE_sound (by simp)
end
end Go.Proofs.Ythpcgbnochcbcaa.V

namespace Go.Proofs.Ythpcgbnochcbcaa.V
noncomputable section

/-- the kinds of a row's leaves -/
def rowsOk (ks : List K) (rows : List (List C)) : Bool := rows.all fun r => kindsOk r ks
abbrev eInt (n : Int) : List C := [.int .i64 n]
def rowInt (r : List C) : Int := (r.getD 0 (.fn 0 [])).toInt
def ints (rows : List (List C)) : List Int := rows.map rowInt
abbrev eStr (s : List UInt8) : List C := [.str s]
def rowStr (r : List C) : List UInt8 := (r.getD 0 (.fn 0 [])).toStr
def strs (rows : List (List C)) : List (List UInt8) := rows.map rowStr
abbrev pSl (t : TypeId) : PTy := .val false [.slice t]
abbrev rSl (t : TypeId) : RTy := ⟨false, [(.slice t, true)]⟩

end
end Go.Proofs.Ythpcgbnochcbcaa.V

namespace Go.Proofs.Ythpcgbnochcbcaa.V
set_option maxRecDepth 100000

end Go.Proofs.Ythpcgbnochcbcaa.V

namespace Go.Proofs.Ythpcgbnochcbcaa.V

theorem row_int {r : List C} (h : kindsOk r [.int .i64] = true) : r = eInt (rowInt r) := by
  cases r with
  | nil => simp [kindsOk] at h
  | cons c r =>
    cases r with
    | cons d r => simp [kindsOk] at h
    | nil =>
      cases c with
      | int k n => simp [kindsOk, C.is] at h; subst h; rfl
      | _ => simp [kindsOk, C.is] at h
theorem row_str {r : List C} (h : kindsOk r [.str] = true) : r = eStr (rowStr r) := by
  cases r with
  | nil => simp [kindsOk] at h
  | cons c r =>
    cases r with
    | cons d r => simp [kindsOk] at h
    | nil =>
      cases c with
      | str s => rfl
      | _ => simp [kindsOk, C.is] at h
theorem rows_ints {rows : List (List C)} (h : rowsOk [.int .i64] rows = true) : rows = (ints rows).map eInt := by
  simp only [rowsOk, List.all_eq_true] at h
  simp only [ints, List.map_map]
  rw [List.map_congr_left (g := id)]
  · simp
  · intro r hr; exact (row_int (h r hr)).symm
theorem rows_strs {rows : List (List C)} (h : rowsOk [.str] rows = true) : rows = (strs rows).map eStr := by
  simp only [rowsOk, List.all_eq_true] at h
  simp only [strs, List.map_map]
  rw [List.map_congr_left (g := id)]
  · simp
  · intro r hr; exact (row_str (h r hr)).symm
@[simp] theorem ints_map (l : List Int) : ints (l.map eInt) = l := by simp [ints, rowInt, Function.comp_def, C.toInt]
@[simp] theorem strs_map (l : List (List UInt8)) : strs (l.map eStr) = l := by simp [strs, rowStr, Function.comp_def, C.toStr]
@[simp] theorem rowsOk_ints (l : List Int) : rowsOk [.int .i64] (l.map eInt) = true := by simp [rowsOk, kindsOk, C.is]
@[simp] theorem rowsOk_strs (l : List (List UInt8)) : rowsOk [.str] (l.map eStr) = true := by simp [rowsOk, kindsOk, C.is]
theorem flat_ints (l : List Int) : ((l.map eInt).all fun r => r.all C.flat) = true := by simp [C.flat]
theorem flat_strs (l : List (List UInt8)) : ((l.map eStr).all fun r => r.all C.flat) = true := by simp [C.flat]
theorem map_getD {A : Type} (e : A → List C) (l : List A) (d : A) (i : Nat) (h : i < l.length) : (l.map e).getD i [] = e (l.getD i d) := by
  simp [List.getD_eq_getElem?_getD, h]
theorem copy_set {A : Type} (l : List A) (z : A) (d : A) (i : Nat) (h : i < l.length) : (l.take i ++ List.replicate (l.length - i) z).set i (l.getD i d) = l.take (i + 1) ++ List.replicate (l.length - (i + 1)) z := by
  have hlen : (l.take i).length = i := by simp; omega
  rw [List.set_append_right _ _ (by omega), hlen, Nat.sub_self]
  obtain ⟨m, hm⟩ : ∃ m, l.length - i = m + 1 := ⟨l.length - i - 1, by omega⟩
  have hm2 : l.length - (i + 1) = m := by omega
  rw [hm, hm2, List.replicate_succ, List.set_cons_zero, List.take_succ_eq_append_getElem h, List.append_assoc]
  simp [List.getD_eq_getElem?_getD, h]
/- what is known of data that fit -/
theorem fit_i64 {E : Env} {x : C} (h : Fit E (.int .i64) x) : ∃ n, x = .int .i64 n ∧ -9223372036854775808 ≤ n ∧ n ≤ 9223372036854775807 := by
  cases h with
  | int a b => exact ⟨_, rfl, a, b⟩
theorem fit_bool {E : Env} {x : C} (h : Fit E .bool x) : ∃ t, x = .bool t := by
  cases h with
  | bool => exact ⟨_, rfl⟩
theorem fit_str {E : Env} {x : C} (h : Fit E .str x) : ∃ s, x = .str s ∧ s.length ≤ 140737488351232 := by
  cases h with
  | str a => exact ⟨_, rfl, a⟩
theorem fit_sl {E : Env} {e : TypeId} {x : C} (h : Fit E (.slice e) x) : ∃ rows, x = .sl rows ∧ ∀ te, E.Ty e = some te → 1 ≤ te.bytes → rows.length ≤ 140737488351232 ∧ rowsOk te.leaves rows = true := by
  cases h with
  | @sl _ te rows h1 h2 h3 h4 =>
    refine ⟨rows, rfl, fun te' ht hb => ?_⟩
    rw [h1] at ht
    obtain rfl := Option.some.inj ht
    refine ⟨Nat.le_trans (Nat.le_mul_of_pos_right _ hb) h2, ?_⟩
    simp only [rowsOk, List.all_eq_true]
    intro r hr
    exact FitAll.kinds (E := E) ⟨h3 r hr, fun j kd y hj hy => h4 r hr j kd y hj hy⟩
theorem byte_lt (l : List UInt8) (j : Nat) : (l.getD j 0).toNat < 256 := (l.getD j 0).toNat_lt
theorem drop_cons {A : Type} (l : List A) (i : Nat) (d : A) (hi : i < l.length) : l.drop i = l.getD i d :: l.drop (i + 1) := by
  rw [List.drop_eq_getElem_cons hi]; simp [List.getD_eq_getElem?_getD, hi]
theorem row_append (l : List UInt8) (v : Nat) (h : v < 256) : (rowsOfStr l).append [[C.int .u8 (v : Int)]] = rowsOfStr (l ++ [UInt8.ofNat v]) := by
  have := rows_one (v : Int) (by omega) (by omega)
  rw [Int.toNat_natCast] at this
  rw [this, List.append_eq, rowsStr_append]
theorem iand8_one (x : Int) : iand .u8 x 1 = x % 2 := by
  show IntKind.u8.wrap (((BitVec.ofInt 8 x &&& BitVec.ofInt 8 1).toNat : Nat) : Int) = _
  rw [BitVec.toNat_and]
  have h1 : (BitVec.ofInt 8 1).toNat = 1 := by decide
  have h2 : (BitVec.ofInt 8 x).toNat = (x % 256).toNat := by simp [BitVec.toNat_ofInt]
  rw [h1, h2, Nat.and_one_is_mod, wrapU8] <;> omega
theorem ishr8 (x : Int) (n : Nat) (hn : n < 8) : ishr .u8 x (n : Int) = x / 2 ^ n := by
  show x.fdiv (2 ^ (min ((n : Int).toNat) 8)) = _
  have : min ((n : Int).toNat) 8 = n := by omega
  rw [this, Int.fdiv_eq_ediv_of_nonneg]
  exact Int.pow_nonneg (by omega)
theorem ixor8_nat (a b : Nat) (ha : a < 256) (hb : b < 256) : ixor .u8 (a : Int) (b : Int) = ((a ^^^ b : Nat) : Int) := by
  show IntKind.u8.wrap (((BitVec.ofInt 8 (a : Int) ^^^ BitVec.ofInt 8 (b : Int)).toNat : Nat) : Int) = _
  rw [BitVec.toNat_xor]
  have h1 : (BitVec.ofInt 8 (a : Int)).toNat = a := by simp [BitVec.toNat_ofInt]; omega
  have h2 : (BitVec.ofInt 8 (b : Int)).toNat = b := by simp [BitVec.toNat_ofInt]; omega
  have h3 : a ^^^ b < 256 := Nat.xor_lt_two_pow (n := 8) ha hb
  rw [h1, h2, wrapU8] <;> omega
theorem ixor8_zero (x y : UInt8) : ixor .u8 (x.toNat : Int) (y.toNat : Int) = 0 ↔ x = y := by
  rw [ixor8_nat _ _ x.toNat_lt y.toNat_lt, Int.natCast_eq_zero]
  constructor
  · intro h
    have h2 : (x.toNat ^^^ y.toNat) ^^^ y.toNat = 0 ^^^ y.toNat := by rw [h]
    rw [Nat.xor_assoc, Nat.xor_self, Nat.xor_zero, Nat.zero_xor] at h2
    exact UInt8.toNat_inj.1 h2
  · rintro rfl; exact Nat.xor_self _


end Go.Proofs.Ythpcgbnochcbcaa.V

namespace Go.Proofs.Ythpcgbnochcbcaa.V
noncomputable section

def inB (n lo hi : Int) : Bool := decide (lo ≤ n) && decide (n ≤ hi)
def inSpec : Spec := fun cs => match cs with
  | [.int .i64 n, .int .i64 lo, .int .i64 hi] => some (true, [.bool (inB n lo hi)])
  | _ => none
def E_sIn : Env := mkE [] []
def E_iIn : Env := mkE [] []

def isVersionSpec : Spec := fun cs => match cs with
  | [.int .i64 n] => some (true, [.bool (inB n 1 2)])
  | _ => none
def E_iIsVersion : Env := mkE [] []

end
end Go.Proofs.Ythpcgbnochcbcaa.V

namespace Go.Proofs.Ythpcgbnochcbcaa.V
set_option maxRecDepth 100000
theorem sIn_tree (H : List Pt → Nat → St → T (List C)) (n : Int) (a : Int) (b : Int) : vBodyL E_sIn noInl (sg [pI, pI, pI] [rB]) Try.f80 H [C.int IntKind.i64 n, C.int IntKind.i64 a, C.int IntKind.i64 b] =
 (.must true
 (.ask (decide (a ≤ n))
  (.ask (decide (n ≤ b))
   (.must true
    (.ret [C.bool true]))
   (.must true
    (.ret [C.bool false])))
  (.must true
   (.ret [C.bool false])))) := by kernel_rfl
theorem iIn_tree (H : List Pt → Nat → St → T (List C)) (n : Int) (a : Int) (b : Int) : vBodyL E_iIn noInl (sg [pI, pI, pI] [rB]) Try.f79 H [C.int IntKind.i64 n, C.int IntKind.i64 a, C.int IntKind.i64 b] =
 (.must true
 (.ask (decide (a ≤ n))
  (.ask (decide (n ≤ b))
   (.must true
    (.ret [C.bool true]))
   (.must true
    (.ret [C.bool false])))
  (.must true
   (.ret [C.bool false])))) := by kernel_rfl
theorem iIsVersion_tree (H : List Pt → Nat → St → T (List C)) (n : Int) : vBodyL E_iIsVersion noInl (sg [pI] [rB]) Try.f66 H [C.int IntKind.i64 n] =
 (.must true
 (.ask (decide (n = (1 : Int)))
  (.must true
   (.ret [C.bool true]))
  (.ask (decide (n = (2 : Int)))
   (.must true
    (.ret [C.bool true]))
   (.must true
    (.ret [C.bool false]))))) := by kernel_rfl
end Go.Proofs.Ythpcgbnochcbcaa.V

namespace Go.Proofs.Ythpcgbnochcbcaa.V

theorem sIn_E : EnvSound Try.prog E_sIn := mkE_sound (by simp [])
theorem sIn_sound : Sound Try.prog 80 (sg [pI, pI, pI] [rB]) inSpec := vBody_sound sIn_E noInl_ok Try.func80 (by kernel_rfl) fun cs outs hk h => by
  unfold inSpec at h
  split at h
  · simp only [Option.some.injEq, Prod.mk.injEq, true_and] at h
    rw [← h, vBody_L, sIn_tree]
    simp only [eval_must', eval_ask', eval_ret', decide_eq_true_eq, if_true, inB]
    repeat' split
    all_goals first | rfl | (simp_all; done) | (simp_all; omega)
  · cases h
theorem iIn_E : EnvSound Try.prog E_iIn := mkE_sound (by simp [])
theorem iIn_sound : Sound Try.prog 79 (sg [pI, pI, pI] [rB]) inSpec := vBody_sound iIn_E noInl_ok Try.func79 (by kernel_rfl) fun cs outs hk h => by
  unfold inSpec at h
  split at h
  · simp only [Option.some.injEq, Prod.mk.injEq, true_and] at h
    rw [← h, vBody_L, iIn_tree]
    simp only [eval_must', eval_ask', eval_ret', decide_eq_true_eq, if_true, inB]
    repeat' split
    all_goals first | rfl | (simp_all; done) | (simp_all; omega)
  · cases h

theorem iIsVersion_E : EnvSound Try.prog E_iIsVersion := mkE_sound (by simp [])
theorem iIsVersion_sound : Sound Try.prog 66 (sg [pI] [rB]) isVersionSpec := vBody_sound iIsVersion_E noInl_ok Try.func66 (by kernel_rfl) fun cs outs hk h => by
  unfold isVersionSpec at h
  split at h
  · simp only [Option.some.injEq, Prod.mk.injEq, true_and] at h
    rw [← h, vBody_L, iIsVersion_tree]
    simp only [eval_must', eval_ask', eval_ret', decide_eq_true_eq, if_true, inB]
    repeat' split
    all_goals first | rfl | (simp_all; done) | (simp; omega)
  · cases h

end Go.Proofs.Ythpcgbnochcbcaa.V

namespace Go.Proofs.Ythpcgbnochcbcaa.V
noncomputable section

def ss_spec (f : List UInt8 → List UInt8 → Int) : Spec := fun cs => match cs with
  | [.str b, .str c] => some (decide (b.length ≤ 1048576) && decide (c.length ≤ 1048576), [.int .i64 (f b c)])
  | _ => none
def siLaw : Spec := fun cs => match cs with
  | [.str _, .int .i64 _] => some (true, [.bool true])
  | _ => none
def ssLaw : Spec := fun cs => match cs with
  | [.str _, .str _] => some (true, [.bool true])
  | _ => none
def siiLaw : Spec := fun cs => match cs with
  | [.str _, .int .i64 a, .int .i64 _] => some (decide (-9223372036854775808 ≤ a) && decide (a ≤ 9223372036854775807), [.bool true])
  | _ => none

/-- bit i of 'bits' turned at bit place at + i -/
def turnStep (at' bits : Int) (l : List UInt8) (i : Nat) : List UInt8 :=
  if iand .i64 (ishr .i64 bits i) 1 = 1 ∧ 0 ≤ at' ∧ at' + i < 8 * l.length then
    l.set ((at' + i) / 8).toNat (UInt8.ofNat (ixor .u8 ((l.getD ((at' + i) / 8).toNat 0).toNat : Int) (ishl .u8 1 ((at' + i) % 8))).toNat)
  else l
def turnOf (b : List UInt8) (at' bits : Int) : List UInt8 := (List.range 32).foldl (turnStep at' bits) b
def turnTo (b : List UInt8) (a m : Int) (i : Nat) : List UInt8 := (List.range i).foldl (turnStep a m) b
def turnSpec : Spec := fun cs => match cs with
  | [.str b, .int .i64 a, .int .i64 m] => some (decide (b.length ≤ 1048576) && decide (-9223372036854775808 ≤ a) && decide (a ≤ 9223372036854775807), [.str (turnOf b a m)])
  | _ => none

def H_sTurnBits (at' bits : Int) (rows : List (List C)) (n : Nat) (i : Int) : St := st1 [(1, int64 at'), (2, int64 bits), (7, .l (.ref 0 0 n)), (8, int64 i)] 1 rows
def E_sTurnBits : Env := mkE [(5, [1, 2, 7, 8])] []

def lastDiff (b c : List UInt8) : Nat → Nat
  | 0 => 0
  | i + 1 => if b.getD i 0 = c.getD i 0 then lastDiff b c i else i + 1
def endOf (b c : List UInt8) : Int := if b.length = c.length then (lastDiff b c b.length : Int) else imax b.length c.length

def H_sChangeEnd (b c : List UInt8) (n i : Int) : St := st0 [(0, wstr b), (1, wstr c), (5, int64 n), (6, int64 i)]
def E_sChangeEnd : Env := mkE [(7, [0, 1, 5, 6])] []

/-- how far two texts are alike -/
def common : List UInt8 → List UInt8 → Nat
  | x :: xs, y :: ys => if x = y then common xs ys + 1 else 0
  | _, _ => 0
def firstOf (b c : List UInt8) : Int := if b = c then -1 else common b c

def H_sFirstChange (b c : List UInt8) (i : Int) : St := st0 [(0, wstr b), (1, wstr c), (5, int64 i)]
def E_sFirstChange : Env := mkE [(2, [0, 1, 5])] []

end
end Go.Proofs.Ythpcgbnochcbcaa.V

namespace Go.Proofs.Ythpcgbnochcbcaa.V
set_option maxRecDepth 100000
theorem sTurnBits_tree (H : List Pt → Nat → St → T (List C)) (b : List UInt8) (a : Int) (m : Int) : vBodyL E_sTurnBits noInl (sg [pS, pI, pI] [rS]) Try.f30 H [C.str b, C.int IntKind.i64 a, C.int IntKind.i64 m] =
 (.must true
 (.ask (decide (a < (0 : Int)))
  (.must true
   (.ret [C.str b]))
  (H [Pt.r, Pt.r, Pt.r, Pt.l, Pt.r, Pt.b] (9223372036854775808 : Nat) (H_sTurnBits (a) (m) (rowsOfStr b) (b.length) ((0 : Int)))))) := by kernel_rfl
theorem sTurnBits_round0 (H : List Pt → Nat → St → T (List C)) (a : Int) (q : Int) (r : List (List C)) (l : Nat) (i : Int) (k : Nat) : vRound E_sTurnBits noInl (sg [pS, pI, pI] [rS]) Try.f30 H [Pt.r, Pt.r, Pt.r, Pt.l, Pt.r, Pt.b] k (H_sTurnBits a q r l i) =
 (.ask (decide (i < (32 : Int)))
 (.must (decide ((0 : Int) ≤ IntKind.u64.wrap i))
  (.ask (decide (iand IntKind.i64 (ishr IntKind.i64 q (IntKind.u64.wrap i)) (1 : Int) = (1 : Int)))
   (.ask (decide (a < IntKind.i64.wrap (IntKind.i64.wrap ((8 : Int) * (↑l : Int)) - i)))
    (.must true
     (.must true
      (.must (decide ((0 : Int) ≤ IntKind.i64.wrap ((IntKind.i64.wrap (a + i)).tdiv (8 : Int))) &&
  decide (IntKind.i64.wrap ((IntKind.i64.wrap (a + i)).tdiv (8 : Int)) < (↑l : Int)))
       (.must (decide ((0 : Nat) + (IntKind.i64.wrap ((IntKind.i64.wrap (a + i)).tdiv (8 : Int))).toNat < r.length) &&
  (decide
        ((0 : Nat) <
          (r.getD ((0 : Nat) + (IntKind.i64.wrap ((IntKind.i64.wrap (a + i)).tdiv (8 : Int))).toNat) []).length) &&
      C.is (K.int IntKind.u8)
        ((r.getD ((0 : Nat) + (IntKind.i64.wrap ((IntKind.i64.wrap (a + i)).tdiv (8 : Int))).toNat) []).getD (0 : Nat)
          (C.fn (0 : FuncId) [])) &&
    true))
        (.must true
         (.must (decide ((0 : Int) ≤ IntKind.u64.wrap ((IntKind.i64.wrap (a + i)).tmod (8 : Int))))
          (.must (decide ((0 : Int) ≤ IntKind.i64.wrap ((IntKind.i64.wrap (a + i)).tdiv (8 : Int))) &&
  decide (IntKind.i64.wrap ((IntKind.i64.wrap (a + i)).tdiv (8 : Int)) < (↑l : Int)))
           (.must (decide ((0 : Nat) + (IntKind.i64.wrap ((IntKind.i64.wrap (a + i)).tdiv (8 : Int))).toNat < r.length))
            (H [Pt.r, Pt.r, Pt.r, Pt.l, Pt.r, Pt.b] k (H_sTurnBits (a) (q) (r.set ((0 : Nat) + (IntKind.i64.wrap ((IntKind.i64.wrap (a + i)).tdiv (8 : Int))).toNat)
  (C.int IntKind.u8
      (ixor IntKind.u8
        ((r.getD ((0 : Nat) + (IntKind.i64.wrap ((IntKind.i64.wrap (a + i)).tdiv (8 : Int))).toNat) []).getD (0 : Nat)
            (C.fn (0 : FuncId) [])).toInt
        (ishl IntKind.u8 (1 : Int) (IntKind.u64.wrap ((IntKind.i64.wrap (a + i)).tmod (8 : Int))))) ::
    List.drop ((0 : Nat) + (1 : Nat))
      (r.getD ((0 : Nat) + (IntKind.i64.wrap ((IntKind.i64.wrap (a + i)).tdiv (8 : Int))).toNat) []))) (l) (IntKind.i64.wrap (i + (1 : Int)))))))))))))
    (H [Pt.r, Pt.r, Pt.r, Pt.l, Pt.r, Pt.b] k (H_sTurnBits (a) (q) (r) (l) (IntKind.i64.wrap (i + (1 : Int))))))
   (H [Pt.r, Pt.r, Pt.r, Pt.l, Pt.r, Pt.b] k (H_sTurnBits (a) (q) (r) (l) (IntKind.i64.wrap (i + (1 : Int)))))))
 (.must ((List.take l r).all byteRow)
  (.must true
   (.ret [C.str (strOfRows (List.take l r))])))) := by kernel_rfl
theorem sChangeEnd_tree (H : List Pt → Nat → St → T (List C)) (b : List UInt8) (c : List UInt8) : vBodyL E_sChangeEnd noInl (sg [pS, pS] [rI]) Try.f55 H [C.str b, C.str c] =
 (.must true
 (.ask ((↑b.length : Int) != (↑c.length : Int))
  (.ask (decide ((↑c.length : Int) < (↑b.length : Int)))
   (.must true
    (.ret [C.int IntKind.i64 (↑b.length : Int)]))
   (.must true
    (.ret [C.int IntKind.i64 (↑c.length : Int)])))
  (H [Pt.r, Pt.r, Pt.r, Pt.l, Pt.r, Pt.b] (9223372036854775808 : Nat) (H_sChangeEnd (b) (c) ((0 : Int)) ((0 : Int)))))) := by kernel_rfl
theorem sChangeEnd_round0 (H : List Pt → Nat → St → T (List C)) (b : List UInt8) (c : List UInt8) (n : Int) (i : Int) (k : Nat) : vRound E_sChangeEnd noInl (sg [pS, pS] [rI]) Try.f55 H [Pt.r, Pt.r, Pt.r, Pt.l, Pt.r, Pt.b] k (H_sChangeEnd b c n i) =
 (.ask (decide (i < (↑b.length : Int)))
 (.must (decide ((0 : Int) ≤ i) && decide (i < (↑b.length : Int)))
  (.must (decide ((0 : Int) ≤ i) && decide (i < (↑c.length : Int)))
   (.ask ((↑(b.getD i.toNat (0 : UInt8)).toNat : Int) != (↑(c.getD i.toNat (0 : UInt8)).toNat : Int))
    (H [Pt.r, Pt.r, Pt.r, Pt.l, Pt.r, Pt.b] k (H_sChangeEnd (b) (c) (IntKind.i64.wrap (i + (1 : Int))) (IntKind.i64.wrap (i + (1 : Int)))))
    (H [Pt.r, Pt.r, Pt.r, Pt.l, Pt.r, Pt.b] k (H_sChangeEnd (b) (c) (n) (IntKind.i64.wrap (i + (1 : Int))))))))
 (.must true
  (.ret [C.int IntKind.i64 n]))) := by kernel_rfl
theorem sFirstChange_tree (H : List Pt → Nat → St → T (List C)) (b : List UInt8) (c : List UInt8) : vBodyL E_sFirstChange noInl (sg [pS, pS] [rI]) Try.f54 H [C.str b, C.str c] =
 (.must true
 (H [Pt.r, Pt.l, Pt.r, Pt.b] (9223372036854775808 : Nat) (H_sFirstChange (b) (c) ((0 : Int))))) := by kernel_rfl
theorem sFirstChange_round0 (H : List Pt → Nat → St → T (List C)) (b : List UInt8) (c : List UInt8) (i : Int) (k : Nat) : vRound E_sFirstChange noInl (sg [pS, pS] [rI]) Try.f54 H [Pt.r, Pt.l, Pt.r, Pt.b] k (H_sFirstChange b c i) =
 (.ask (decide (i < (↑b.length : Int)))
 (.ask (decide (i < (↑c.length : Int)))
  (.must (decide ((0 : Int) ≤ i) && decide (i < (↑b.length : Int)))
   (.must (decide ((0 : Int) ≤ i) && decide (i < (↑c.length : Int)))
    (.ask ((↑(b.getD i.toNat (0 : UInt8)).toNat : Int) != (↑(c.getD i.toNat (0 : UInt8)).toNat : Int))
     (.must true
      (.ret [C.int IntKind.i64 i]))
     (H [Pt.r, Pt.l, Pt.r, Pt.b] k (H_sFirstChange (b) (c) (IntKind.i64.wrap (i + (1 : Int))))))))
  (.ask (decide ((↑b.length : Int) < (↑c.length : Int)))
   (.must true
    (.ret [C.int IntKind.i64 (↑b.length : Int)]))
   (.ask (decide ((↑c.length : Int) < (↑b.length : Int)))
    (.must true
     (.ret [C.int IntKind.i64 (↑c.length : Int)]))
    (.must true
     (.ret [C.int IntKind.i64 (-1 : Int)])))))
 (.ask (decide ((↑b.length : Int) < (↑c.length : Int)))
  (.must true
   (.ret [C.int IntKind.i64 (↑b.length : Int)]))
  (.ask (decide ((↑c.length : Int) < (↑b.length : Int)))
   (.must true
    (.ret [C.int IntKind.i64 (↑c.length : Int)]))
   (.must true
    (.ret [C.int IntKind.i64 (-1 : Int)]))))) := by kernel_rfl
end Go.Proofs.Ythpcgbnochcbcaa.V

namespace Go.Proofs.Ythpcgbnochcbcaa.V

theorem u8_ne (x y : UInt8) : (((x.toNat : Int) != (y.toNat : Int)) = true) ↔ x ≠ y := by
  rw [bne_iff_ne, ne_eq, Int.ofNat_inj, UInt8.toNat_inj]
theorem u8_eq (x y : UInt8) : ((x.toNat : Int) = (y.toNat : Int)) ↔ x = y := by
  rw [Int.ofNat_inj, UInt8.toNat_inj]
theorem imin_nat (a b : Nat) : imin (a : Int) (b : Int) = ((min a b : Nat) : Int) := by unfold imin; split <;> omega
theorem imax_nat (a b : Nat) : imax (a : Int) (b : Int) = ((max a b : Nat) : Int) := by unfold imax; split <;> omega
theorem iand_one (x : Int) : iand .i64 x 1 = x % 2 := by
  show IntKind.i64.wrap (((BitVec.ofInt 64 x &&& BitVec.ofInt 64 1).toNat : Nat) : Int) = _
  rw [BitVec.toNat_and]
  have h1 : (BitVec.ofInt 64 1).toNat = 1 := by decide
  have h2 : (BitVec.ofInt 64 x).toNat = (x % 18446744073709551616).toNat := by simp [BitVec.toNat_ofInt]
  rw [h1, h2, Nat.and_one_is_mod, wrap64] <;> omega
theorem ishr_one (x : Int) : ishr .i64 x 1 = x / 2 := by
  show x.fdiv (2 ^ (min (Int.toNat 1) 64)) = _
  rw [Int.fdiv_eq_ediv_of_nonneg] <;> simp

theorem turnTo_succ (b : List UInt8) (a m : Int) (i : Nat) : turnTo b a m (i + 1) = turnStep a m (turnTo b a m i) i := by
  simp [turnTo, List.range_succ, List.foldl_append]
theorem turnStep_length (l : List UInt8) (a m : Int) (i : Nat) : (turnStep a m l i).length = l.length := by
  unfold turnStep; split <;> simp
theorem turnTo_length (b : List UInt8) (a m : Int) : ∀ i, (turnTo b a m i).length = b.length
  | 0 => rfl
  | i + 1 => by rw [turnTo_succ, turnStep_length, turnTo_length b a m i]
theorem turn_store (l : List UInt8) (a m : Int) (i : Nat) (h1 : iand .i64 (ishr .i64 m i) 1 = 1) (h2 : 0 ≤ a) (h3 : a + i < 8 * l.length) :
    (rowsOfStr l).set ((a + i) / 8).toNat (C.int .u8 (ixor .u8 (((rowsOfStr l).getD ((a + i) / 8).toNat []).getD 0 (C.fn 0 [])).toInt (ishl .u8 1 ((a + i) % 8))) :: List.drop (0 + 1) ((rowsOfStr l).getD ((a + i) / 8).toNat [])) = rowsOfStr (turnStep a m l i) := by
  have hj : ((a + i) / 8).toNat < l.length := by omega
  rw [rows_get l _ hj]
  simp only [List.getD_cons_zero, C.toInt, List.drop_succ_cons, List.drop_nil, Nat.zero_add]
  rw [rows_set _ _ _ (ixor8_range _ _).1 (ixor8_range _ _).2]
  simp only [turnStep, h1, h2, h3, and_self, if_true]
theorem turn_neg (b : List UInt8) (a m : Int) (h : a < 0) : turnOf b a m = b := by
  have : ∀ i, turnTo b a m i = b := by
    intro i
    induction i with
    | zero => rfl
    | succ i ih => rw [turnTo_succ, ih]; unfold turnStep; rw [if_neg (by omega)]
  exact this 32

theorem sTurnBits_loop (b : List UInt8) (a m : Int) (ha : 0 ≤ a) (hb : b.length ≤ 1048576) (ha2 : a ≤ 9223372036854775807) : ∀ (n i : Nat), i ≤ 32 → 32 < i + n →
    (vLoop E_sTurnBits noInl (sg [pS, pI, pI] [rS]) Try.f30 [.r, .r, .r, .l, .r, .b] n (H_sTurnBits a m (rowsOfStr (turnTo b a m i)) b.length i)).eval = some [.str (turnOf b a m)] := by
  intro n
  induction n with
  | zero => intro i h1 h2; omega
  | succ n ih =>
    intro i h1 h2
    have hl := turnTo_length b a m i
    rw [vLoop_L _ _ _ _ _ _ _ (by kernel_rfl), sTurnBits_round0]
    by_cases hi : i < 32
    · have hi' : (i : Int) < 32 := by omega
      have e := ih (i + 1) (by omega) (by omega)
      rw [turnTo_succ] at e
      have w1 : IntKind.i64.wrap ((i : Int) + 1) = ((i + 1 : Nat) : Int) := by rw [wrap64] <;> omega
      have w2 : IntKind.u64.wrap (i : Int) = i := by rw [wrapU64] <;> omega
      have w3 : IntKind.i64.wrap (8 * (b.length : Int)) = 8 * (b.length : Int) := by rw [wrap64] <;> omega
      have w4 : IntKind.i64.wrap (8 * (b.length : Int) - i) = 8 * (b.length : Int) - i := by rw [wrap64] <;> omega
      have hz : (0 : Int) ≤ i := by omega
      simp only [eval_must', eval_ask', decide_eq_true_eq, if_true, w1, w2, w3, w4, hi', hz, rows_length, hl, Bool.and_eq_true, Nat.zero_add]
      by_cases h3 : iand .i64 (ishr .i64 m i) 1 = 1
      · by_cases h4 : a < 8 * (b.length : Int) - i
        · have w5 : IntKind.i64.wrap (a + i) = a + i := by rw [wrap64] <;> omega
          have w6 : (a + i).tdiv 8 = (a + i) / 8 := by rw [Int.tdiv_eq_ediv_of_nonneg (by omega)]
          have w7 : (a + i).tmod 8 = (a + i) % 8 := by rw [Int.tmod_eq_emod_of_nonneg (by omega)]
          have w8 : IntKind.i64.wrap ((a + i) / 8) = (a + i) / 8 := by rw [wrap64] <;> omega
          have w9 : IntKind.u64.wrap ((a + i) % 8) = (a + i) % 8 := by rw [wrapU64] <;> omega
          have c1 : (0 : Int) ≤ (a + i) / 8 := by omega
          have c2 : (a + i) / 8 < (b.length : Int) := by omega
          have c3 : ((a + i) / 8).toNat < b.length := by omega
          have c4 : (0 : Int) ≤ (a + i) % 8 := by omega
          have st := turn_store (turnTo b a m i) a m i h3 ha (by omega)
          have hg := rows_get (turnTo b a m i) ((a + i) / 8).toNat (by omega)
          have hg1 : 0 < ((rowsOfStr (turnTo b a m i)).getD ((a + i) / 8).toNat []).length := by rw [hg]; exact Nat.zero_lt_one
          have hg2 : C.is (K.int .u8) (((rowsOfStr (turnTo b a m i)).getD ((a + i) / 8).toNat []).getD 0 (C.fn 0 [])) = true := by rw [hg]; rfl
          simp only [Nat.zero_add] at st
          simp only [h3, h4, if_true, w5, w6, w7, w8, w9, c1, c2, c3, c4, hg1, hg2, and_self, st]
          exact e
        · have : turnStep a m (turnTo b a m i) i = turnTo b a m i := by
            unfold turnStep; rw [if_neg (by rw [hl]; omega)]
          rw [this] at e
          simp only [h3, h4, if_true, if_false]
          exact e
      · have : turnStep a m (turnTo b a m i) i = turnTo b a m i := by
          unfold turnStep; rw [if_neg (fun h => h3 h.1)]
        rw [this] at e
        simp only [h3, if_false]
        exact e
    · have hi2 : i = 32 := by omega
      subst hi2
      simp only [eval_must', eval_ask', eval_ret', decide_eq_true_eq]
      rw [if_neg (by omega), List.take_of_length_le (by rw [rows_length, hl]; omega), rows_bytes, str_rows]
      rfl
theorem sTurnBits_E : EnvSound Try.prog E_sTurnBits := mkE_sound (by simp [])
theorem sTurnBits_sound : Sound Try.prog 30 (sg [pS, pI, pI] [rS]) turnSpec := vBody_sound sTurnBits_E noInl_ok Try.func30 (by kernel_rfl) fun cs outs hk h => by
  unfold turnSpec at h
  split at h
  · simp only [Option.some.injEq, Prod.mk.injEq, Bool.and_eq_true, decide_eq_true_eq] at h
    obtain ⟨⟨⟨h1, h2⟩, h3⟩, rfl⟩ := h
    rename_i b a m
    rw [vBody_L, sTurnBits_tree]
    simp only [eval_must', eval_ask', eval_ret', if_true, decide_eq_true_eq]
    split
    · rename_i h; rw [turn_neg b a m h]
    · exact sTurnBits_loop b a m (by omega) h1 h3 _ 0 (by omega) (by omega)
  · cases h

theorem lastDiff_le (b c : List UInt8) : ∀ i, lastDiff b c i ≤ i
  | 0 => Nat.le_refl _
  | i + 1 => by simp only [lastDiff]; have := lastDiff_le b c i; split <;> omega

theorem sChangeEnd_loop (b c : List UInt8) (hl : b.length = c.length) (hb : b.length ≤ 1048576) : ∀ (n i : Nat), i ≤ b.length → b.length < i + n →
    (vLoop E_sChangeEnd noInl (sg [pS, pS] [rI]) Try.f55 [.r, .r, .r, .l, .r, .b] n (H_sChangeEnd b c (lastDiff b c i) i)).eval = some [.int .i64 (endOf b c)] := by
  intro n
  induction n with
  | zero => intro i h1 h2; omega
  | succ n ih =>
    intro i h1 h2
    rw [vLoop_L _ _ _ _ _ _ _ (by kernel_rfl), sChangeEnd_round0]
    simp only [eval_must', eval_ask', eval_ret', decide_eq_true_eq, if_true, Bool.and_eq_true, u8_ne, Int.toNat_natCast, Int.ofNat_lt, Int.ofNat_inj]
    have hz : (0 : Int) ≤ i := by omega
    by_cases hi : i < b.length
    · have hi2 : i < c.length := by omega
      have hw : IntKind.i64.wrap ((i : Int) + 1) = ((i + 1 : Nat) : Int) := by rw [wrap64] <;> omega
      have e := ih (i + 1) (by omega) (by omega)
      simp only [hi, hi2, hz, if_true, and_self, hw]
      by_cases hx : b.getD i 0 = c.getD i 0
      · simp only [lastDiff, hx, if_true] at e
        simp only [hx, ne_eq, not_true_eq_false, if_false]
        exact e
      · simp only [lastDiff, hx, if_false] at e
        simp only [hx, ne_eq, not_false_eq_true, if_true]
        exact e
    · have : i = b.length := by omega
      subst this
      simp only [Nat.lt_irrefl, if_false, endOf, hl, if_true]
theorem sChangeEnd_E : EnvSound Try.prog E_sChangeEnd := mkE_sound (by simp [])
theorem sChangeEnd_sound : Sound Try.prog 55 (sg [pS, pS] [rI]) (ss_spec endOf) := vBody_sound sChangeEnd_E noInl_ok Try.func55 (by kernel_rfl) fun cs outs hk h => by
  unfold ss_spec at h
  split at h
  · simp only [Option.some.injEq, Prod.mk.injEq, Bool.and_eq_true, decide_eq_true_eq] at h
    obtain ⟨⟨h1, h2⟩, rfl⟩ := h
    rename_i b c
    rw [vBody_L, sChangeEnd_tree]
    simp only [eval_must', eval_ask', eval_ret', if_true, bne_iff_ne, ne_eq, decide_eq_true_eq, Int.ofNat_inj, Int.ofNat_lt]
    by_cases hl : b.length = c.length
    · simp only [hl, not_true_eq_false, if_false]
      exact sChangeEnd_loop b c hl h1 _ 0 (by omega) (by omega)
    · simp only [hl, not_false_eq_true, if_true, endOf, if_false, imax]
      repeat' split
      all_goals first | rfl | omega
  · cases h

theorem common_le : ∀ (b c : List UInt8), common b c ≤ b.length ∧ common b c ≤ c.length
  | [], _ => by simp [common]
  | _ :: _, [] => by simp [common]
  | x :: xs, y :: ys => by
    simp only [common]
    have := common_le xs ys
    split <;> simp <;> omega
theorem common_lt : ∀ (b c : List UInt8) (i : Nat), i < common b c → b.getD i 0 = c.getD i 0
  | [], _, i => by simp [common]
  | _ :: _, [], i => by simp [common]
  | x :: xs, y :: ys, i => by
    simp only [common]
    split
    · rename_i h
      cases i with
      | zero => intro _; simpa using h
      | succ i => intro hi; have := common_lt xs ys i (by omega); simpa using this
    · intro h; omega
theorem common_ne : ∀ (b c : List UInt8), common b c < b.length → common b c < c.length → b.getD (common b c) 0 ≠ c.getD (common b c) 0
  | [], _ => by simp [common]
  | _ :: _, [] => by simp [common]
  | x :: xs, y :: ys => by
    simp only [common]
    split
    · intro h1 h2
      have := common_ne xs ys (by simpa using h1) (by simpa using h2)
      simpa using this
    · rename_i h; intro _ _; simpa using h
theorem common_self : ∀ (b : List UInt8), common b b = b.length
  | [] => rfl
  | x :: xs => by simp [common, common_self xs]
theorem common_eq : ∀ (b c : List UInt8), common b c = b.length → b.length = c.length → b = c
  | [], [] => by simp
  | [], _ :: _ => by simp
  | _ :: _, [] => by simp
  | x :: xs, y :: ys => by
    simp only [common]
    split
    · rename_i h
      intro h1 h2
      rw [h, common_eq xs ys (by simpa using h1) (by simpa using h2)]
    · intro h; simp at h

theorem sFirstChange_loop (b c : List UInt8) (hb : b.length ≤ 1048576) : ∀ (n i : Nat), i ≤ common b c → b.length < i + n →
    (vLoop E_sFirstChange noInl (sg [pS, pS] [rI]) Try.f54 [.r, .l, .r, .b] n (H_sFirstChange b c i)).eval = some [.int .i64 (firstOf b c)] := by
  intro n
  induction n with
  | zero => intro i h1 h2; have := common_le b c; omega
  | succ n ih =>
    intro i h1 h2
    have hle := common_le b c
    rw [vLoop_L _ _ _ _ _ _ _ (by kernel_rfl), sFirstChange_round0]
    simp only [eval_must', eval_ask', eval_ret', decide_eq_true_eq, if_true, Bool.and_eq_true, u8_ne, Int.toNat_natCast, Int.ofNat_lt]
    have hself := common_self b
    have heq := common_eq b c
    have hne := common_ne b c
    by_cases hbc : b = c
    · subst hbc
      have e1 : firstOf b b = -1 := by simp [firstOf]
      rw [e1]
      split
      · rename_i hi
        have hw : IntKind.i64.wrap ((i : Int) + 1) = ((i + 1 : Nat) : Int) := by rw [wrap64] <;> omega
        have e := ih (i + 1) (by omega) (by omega)
        rw [e1] at e
        rw [hw, e]
        simp [hi]
      · simp
    · have e1 : firstOf b c = common b c := by simp [firstOf, hbc]
      have hlt : ¬ (common b c = b.length ∧ b.length = c.length) := fun h => hbc (heq h.1 h.2)
      have hz : (0 : Int) ≤ i := by omega
      rw [e1]
      by_cases hi : i < b.length
      · by_cases hj : i < c.length
        · simp only [hi, hj, if_true, hz, true_and]
          by_cases hx : b.getD i 0 = c.getD i 0
          · have : i ≠ common b c := fun h => by rw [h] at hx; exact hne (by omega) (by omega) hx
            have hw : IntKind.i64.wrap ((i : Int) + 1) = ((i + 1 : Nat) : Int) := by rw [wrap64] <;> omega
            simp only [hx, ne_eq, not_true_eq_false, if_false, hw]
            rw [ih (i + 1) (by omega) (by omega), e1]
          · have : i = common b c := by
              by_cases h : i < common b c
              · exact absurd (common_lt b c i h) hx
              · omega
            simp only [hx, ne_eq, not_false_eq_true, if_true]
            rw [this]
        · simp only [hi, hj, if_true, if_false]
          repeat' split
          all_goals first | omega | (congr 3; omega)
      · simp only [hi, if_false]
        repeat' split
        all_goals first | omega | (congr 3; omega)
theorem sFirstChange_E : EnvSound Try.prog E_sFirstChange := mkE_sound (by simp [])
theorem sFirstChange_sound : Sound Try.prog 54 (sg [pS, pS] [rI]) (ss_spec firstOf) := vBody_sound sFirstChange_E noInl_ok Try.func54 (by kernel_rfl) fun cs outs hk h => by
  unfold ss_spec at h
  split at h
  · simp only [Option.some.injEq, Prod.mk.injEq, Bool.and_eq_true, decide_eq_true_eq] at h
    obtain ⟨⟨h1, h2⟩, rfl⟩ := h
    rename_i b c
    rw [vBody_L, sFirstChange_tree]
    simp only [eval_must', if_true]
    exact sFirstChange_loop b c h1 _ 0 (by omega) (by omega)
  · cases h

end Go.Proofs.Ythpcgbnochcbcaa.V

namespace Go.Proofs.Ythpcgbnochcbcaa.V
noncomputable section

def crcStep (x : Nat) : Nat := if x % 2 = 1 then (x / 2) ^^^ 2197175160 else x / 2
def crcIter : Nat → Nat → Nat
  | 0, x => x
  | n + 1, x => crcIter n (crcStep x)
def crcByte (s b : Nat) : Nat := crcIter 8 (s ^^^ b)
def low32 (s : Int) : Nat := (s % 4294967296).toNat
def crcFold (x : Nat) (t : List UInt8) : Nat := t.foldl (fun x c => crcByte x c.toNat) x
def crcMore (s : Nat) (t : List UInt8) : Nat := crcFold (s ^^^ 4294967295) t ^^^ 4294967295
def sumByteSpec : Spec := fun cs => match cs with
  | [.int .i64 s, .int .i64 b] => some (true, [.int .i64 (crcByte (low32 s) (b % 256).toNat : Nat)])
  | _ => none
def sumByte32Spec : Spec := fun cs => match cs with
  | [.int .u32 s, .int .u8 b] => some (decide (0 ≤ s ∧ s ≤ 4294967295) && decide (0 ≤ b ∧ b ≤ 255), [.int .u32 (crcByte s.toNat b.toNat : Nat)])
  | _ => none
def sumMoreSpec : Spec := fun cs => match cs with
  | [.int .i64 s, .str t] => some (decide (t.length ≤ 281474976710656), [.int .i64 (crcMore (low32 s) t : Nat)])
  | _ => none
def sumOfSpec : Spec := fun cs => match cs with
  | [.str t] => some (decide (t.length ≤ 281474976710656), [.int .i64 (crcMore 0 t : Nat)])
  | _ => none
def H_sSumByte (x i : Int) : St := st0 [(5, int64 x), (6, int64 i)]
def H_iSumByte32 (x i : Int) : St := st0 [(0, .l (.i .u32 x)), (10, int64 i)]
def H_sSumMore (t : List UInt8) (x i : Int) : St := st0 [(1, wstr t), (5, int64 x), (6, int64 i)]
def H_iSumMore (t : List UInt8) (x n i : Int) : St := st0 [(1, wstr t), (5, .l (.i .u32 x)), (11, int64 n), (12, int64 i)]
def E_sSumByte : Env := mkE [(3, [5, 6])] []
def E_iSumByte32 : Env := mkE [(3, [0, 10])] []
def E_sSumMore : Env := mkE [(3, [1, 5, 6])] [(112, (sg [pI, pI] [rI]), sumByteSpec)]
def E_iSumMore : Env := mkE [(3, [1, 5, 11, 12])] [(111, (sg [pU32, pU8] [rU32]), sumByte32Spec)]
def E_sSumOf : Env := mkE [] [(101, (sg [pI, pS] [rI]), sumMoreSpec)]
def E_iSumOf : Env := mkE [] [(99, (sg [pI, pS] [rI]), sumMoreSpec)]

end
end Go.Proofs.Ythpcgbnochcbcaa.V

namespace Go.Proofs.Ythpcgbnochcbcaa.V
set_option maxRecDepth 100000
theorem sSumByte_tree (H : List Pt → Nat → St → T (List C)) (s : Int) (b : Int) : vBodyL E_sSumByte noInl (sg [pI, pI] [rI]) Try.f112 H [C.int IntKind.i64 s, C.int IntKind.i64 b] =
 (.must true
 (H [Pt.r, Pt.r, Pt.l, Pt.r, Pt.b] (9223372036854775808 : Nat) (H_sSumByte (ixor IntKind.i64 (iand IntKind.i64 s (4294967295 : Int)) (iand IntKind.i64 b (255 : Int))) ((0 : Int))))) := by kernel_rfl
theorem iSumByte32_tree (H : List Pt → Nat → St → T (List C)) (s : Int) (b : Int) : vBodyL E_iSumByte32 noInl (sg [pU32, pU8] [rU32]) Try.f111 H [C.int IntKind.u32 s, C.int IntKind.u8 b] =
 (.must true
 (H [Pt.r, Pt.r, Pt.l, Pt.r, Pt.b] (9223372036854775808 : Nat) (H_iSumByte32 (ixor IntKind.u32 s (IntKind.u32.wrap b)) ((0 : Int))))) := by kernel_rfl
theorem sSumByte_round0 (H : List Pt → Nat → St → T (List C)) (x : Int) (i : Int) (k : Nat) : vRound E_sSumByte noInl (sg [pI, pI] [rI]) Try.f112 H [Pt.r, Pt.r, Pt.l, Pt.r, Pt.b] k (H_sSumByte x i) =
 (.ask (decide (i < (8 : Int)))
 (.ask (decide (iand IntKind.i64 x (1 : Int) = (1 : Int)))
  (.must true
   (H [Pt.r, Pt.r, Pt.l, Pt.r, Pt.b] k (H_sSumByte (ixor IntKind.i64 (ishr IntKind.i64 x (1 : Int)) (2197175160 : Int)) (IntKind.i64.wrap (i + (1 : Int))))))
  (.must true
   (H [Pt.r, Pt.r, Pt.l, Pt.r, Pt.b] k (H_sSumByte (ishr IntKind.i64 x (1 : Int)) (IntKind.i64.wrap (i + (1 : Int)))))))
 (.must true
  (.ret [C.int IntKind.i64 x]))) := by kernel_rfl
theorem iSumByte32_round0 (H : List Pt → Nat → St → T (List C)) (x : Int) (i : Int) (k : Nat) : vRound E_iSumByte32 noInl (sg [pU32, pU8] [rU32]) Try.f111 H [Pt.r, Pt.r, Pt.l, Pt.r, Pt.b] k (H_iSumByte32 x i) =
 (.ask (decide (i < (8 : Int)))
 (.ask (decide (iand IntKind.u32 x (1 : Int) = (1 : Int)))
  (.must true
   (H [Pt.r, Pt.r, Pt.l, Pt.r, Pt.b] k (H_iSumByte32 (ixor IntKind.u32 (ishr IntKind.u32 x (1 : Int)) (2197175160 : Int)) (IntKind.i64.wrap (i + (1 : Int))))))
  (.must true
   (H [Pt.r, Pt.r, Pt.l, Pt.r, Pt.b] k (H_iSumByte32 (ishr IntKind.u32 x (1 : Int)) (IntKind.i64.wrap (i + (1 : Int)))))))
 (.must true
  (.ret [C.int IntKind.u32 x]))) := by kernel_rfl
theorem sSumMore_round0 (H : List Pt → Nat → St → T (List C)) (t : List UInt8) (x : Int) (i : Int) (k : Nat) : vRound E_sSumMore noInl (sg [pI, pS] [rI]) Try.f101 H [Pt.r, Pt.r, Pt.l, Pt.r, Pt.b] k (H_sSumMore t x i) =
 (.ask (decide (i < (↑t.length : Int)))
 (.must (decide ((0 : Int) ≤ i) && decide (i < (↑t.length : Int)))
  (.must true
   (.must true
    (.must true
     (H [Pt.r, Pt.r, Pt.l, Pt.r, Pt.b] k (H_sSumMore (t) (Int.ofNat (crcByte (low32 x) (IntKind.i64.wrap (↑(t.getD i.toNat (0 : UInt8)).toNat : Int) % (256 : Int)).toNat)) (IntKind.i64.wrap (i + (1 : Int)))))))))
 (.must true
  (.ret [C.int IntKind.i64 (ixor IntKind.i64 x (4294967295 : Int))]))) := by kernel_rfl
theorem iSumMore_round0 (H : List Pt → Nat → St → T (List C)) (t : List UInt8) (x : Int) (n : Int) (i : Int) (k : Nat) : vRound E_iSumMore noInl (sg [pI, pS] [rI]) Try.f99 H [Pt.r, Pt.r, Pt.l, Pt.r, Pt.b] k (H_iSumMore t x n i) =
 (.ask (decide (i < n))
 (.must (decide ((0 : Int) ≤ i) && decide (i < (↑t.length : Int)))
  (.must true
   (.must (decide ((0 : Int) ≤ x ∧ x ≤ (4294967295 : Int)) &&
  decide
    ((0 : Int) ≤ (↑(t.getD i.toNat (0 : UInt8)).toNat : Int) ∧
      (↑(t.getD i.toNat (0 : UInt8)).toNat : Int) ≤ (255 : Int)))
    (.must true
     (H [Pt.r, Pt.r, Pt.l, Pt.r, Pt.b] k (H_iSumMore (t) (Int.ofNat (crcByte x.toNat (↑(t.getD i.toNat (0 : UInt8)).toNat : Int).toNat)) (n) (IntKind.i64.wrap (i + (1 : Int)))))))))
 (.must true
  (.ret [C.int IntKind.i64 (IntKind.i64.wrap (ixor IntKind.u32 x (4294967295 : Int)))]))) := by kernel_rfl
theorem sSumMore_tree (H : List Pt → Nat → St → T (List C)) (s : Int) (t : List UInt8) : vBodyL E_sSumMore noInl (sg [pI, pS] [rI]) Try.f101 H [C.int IntKind.i64 s, C.str t] =
 (.must true
 (H [Pt.r, Pt.r, Pt.l, Pt.r, Pt.b] (9223372036854775808 : Nat) (H_sSumMore (t) (ixor IntKind.i64 (iand IntKind.i64 s (4294967295 : Int)) (4294967295 : Int)) ((0 : Int))))) := by kernel_rfl
theorem iSumMore_tree (H : List Pt → Nat → St → T (List C)) (s : Int) (t : List UInt8) : vBodyL E_iSumMore noInl (sg [pI, pS] [rI]) Try.f99 H [C.int IntKind.i64 s, C.str t] =
 (.must true
 (H [Pt.r, Pt.r, Pt.l, Pt.r, Pt.b] (9223372036854775808 : Nat) (H_iSumMore (t) (ixor IntKind.u32 (IntKind.u32.wrap s) (4294967295 : Int)) ((↑t.length : Int)) ((0 : Int))))) := by kernel_rfl
theorem sSumOf_tree (H : List Pt → Nat → St → T (List C)) (t : List UInt8) : vBodyL E_sSumOf noInl (sg [pS] [rI]) Try.f78 H [C.str t] =
 (.must true
 (.must true
  (.must (decide (t.length ≤ (281474976710656 : Nat)))
   (.must true
    (.must true
     (.ret [C.int IntKind.i64 (Int.ofNat (crcMore (low32 (0 : Int)) t))])))))) := by kernel_rfl
theorem iSumOf_tree (H : List Pt → Nat → St → T (List C)) (t : List UInt8) : vBodyL E_iSumOf noInl (sg [pS] [rI]) Try.f72 H [C.str t] =
 (.must true
 (.must true
  (.must (decide (t.length ≤ (281474976710656 : Nat)))
   (.must true
    (.must true
     (.ret [C.int IntKind.i64 (Int.ofNat (crcMore (low32 (0 : Int)) t))])))))) := by kernel_rfl
end Go.Proofs.Ythpcgbnochcbcaa.V

namespace Go.Proofs.Ythpcgbnochcbcaa.V

theorem iand32 (s : Int) : iand .i64 s 4294967295 = (low32 s : Int) := by
  show IntKind.i64.wrap (((BitVec.ofInt 64 s &&& BitVec.ofInt 64 4294967295).toNat : Nat) : Int) = _
  rw [BitVec.toNat_and]
  have h1 : (BitVec.ofInt 64 4294967295).toNat = 2 ^ 32 - 1 := by decide
  have h2 : (BitVec.ofInt 64 s).toNat = (s % 18446744073709551616).toNat := by simp [BitVec.toNat_ofInt]
  rw [h1, h2, Nat.and_two_pow_sub_one_eq_mod]
  unfold low32
  rw [wrap64] <;> omega
theorem iand255 (s : Int) : iand .i64 s 255 = s % 256 := by
  show IntKind.i64.wrap (((BitVec.ofInt 64 s &&& BitVec.ofInt 64 255).toNat : Nat) : Int) = _
  rw [BitVec.toNat_and]
  have h1 : (BitVec.ofInt 64 255).toNat = 2 ^ 8 - 1 := by decide
  have h2 : (BitVec.ofInt 64 s).toNat = (s % 18446744073709551616).toNat := by simp [BitVec.toNat_ofInt]
  rw [h1, h2, Nat.and_two_pow_sub_one_eq_mod, wrap64] <;> omega
theorem ixor64_nat (a b : Nat) (ha : a < 4294967296) (hb : b < 4294967296) : ixor .i64 (a : Int) (b : Int) = ((a ^^^ b : Nat) : Int) := by
  show IntKind.i64.wrap (((BitVec.ofInt 64 (a : Int) ^^^ BitVec.ofInt 64 (b : Int)).toNat : Nat) : Int) = _
  rw [BitVec.toNat_xor]
  have h1 : (BitVec.ofInt 64 (a : Int)).toNat = a := by simp [BitVec.toNat_ofInt]; omega
  have h2 : (BitVec.ofInt 64 (b : Int)).toNat = b := by simp [BitVec.toNat_ofInt]; omega
  have h3 : a ^^^ b < 4294967296 := Nat.xor_lt_two_pow (n := 32) ha hb
  rw [h1, h2, wrap64] <;> omega
theorem ixor32_nat (a b : Nat) (ha : a < 4294967296) (hb : b < 4294967296) : ixor .u32 (a : Int) (b : Int) = ((a ^^^ b : Nat) : Int) := by
  show IntKind.u32.wrap (((BitVec.ofInt 32 (a : Int) ^^^ BitVec.ofInt 32 (b : Int)).toNat : Nat) : Int) = _
  rw [BitVec.toNat_xor]
  have h1 : (BitVec.ofInt 32 (a : Int)).toNat = a := by simp [BitVec.toNat_ofInt]; omega
  have h2 : (BitVec.ofInt 32 (b : Int)).toNat = b := by simp [BitVec.toNat_ofInt]; omega
  have h3 : a ^^^ b < 4294967296 := Nat.xor_lt_two_pow (n := 32) ha hb
  rw [h1, h2, wrapU32] <;> omega
theorem iand32_one (x : Int) : iand .u32 x 1 = x % 2 := by
  show IntKind.u32.wrap (((BitVec.ofInt 32 x &&& BitVec.ofInt 32 1).toNat : Nat) : Int) = _
  rw [BitVec.toNat_and]
  have h1 : (BitVec.ofInt 32 1).toNat = 1 := by decide
  have h2 : (BitVec.ofInt 32 x).toNat = (x % 4294967296).toNat := by simp [BitVec.toNat_ofInt]
  rw [h1, h2, Nat.and_one_is_mod, wrapU32] <;> omega
theorem ishr32_one (x : Int) : ishr .u32 x 1 = x / 2 := by
  show x.fdiv (2 ^ (min (Int.toNat 1) 32)) = _
  rw [Int.fdiv_eq_ediv_of_nonneg] <;> simp
theorem wrapU32_low (s : Int) : IntKind.u32.wrap s = (low32 s : Int) := by
  unfold low32
  simp only [IntKind.wrap, IntKind.bits, IntKind.signed]
  simp
  omega
theorem low32_lt (s : Int) : low32 s < 4294967296 := by unfold low32; omega
theorem crcStep_lt (x : Nat) (h : x < 4294967296) : crcStep x < 4294967296 := by
  unfold crcStep
  split
  · exact Nat.xor_lt_two_pow (n := 32) (by omega) (by omega)
  · omega
theorem crcIter_lt : ∀ (n x : Nat), x < 4294967296 → crcIter n x < 4294967296
  | 0, x, h => h
  | n + 1, x, h => crcIter_lt n _ (crcStep_lt x h)
theorem crcByte_lt (s b : Nat) (hs : s < 4294967296) (hb : b < 256) : crcByte s b < 4294967296 :=
  crcIter_lt 8 _ (Nat.xor_lt_two_pow (n := 32) hs (by omega))
theorem crcFold_lt : ∀ (t : List UInt8) (x : Nat), x < 4294967296 → crcFold x t < 4294967296
  | [], x, h => h
  | c :: t, x, h => crcFold_lt t _ (crcByte_lt x c.toNat h c.toNat_lt)
theorem crcMore_lt (s : Nat) (t : List UInt8) (hs : s < 4294967296) : crcMore s t < 4294967296 :=
  Nat.xor_lt_two_pow (n := 32) (crcFold_lt t _ (Nat.xor_lt_two_pow (n := 32) hs (by omega))) (by omega)

theorem sSumByte_loop : ∀ (n i x : Nat), x < 4294967296 → i ≤ 8 → 8 < i + n →
    (vLoop E_sSumByte noInl (sg [pI, pI] [rI]) Try.f112 [.r, .r, .l, .r, .b] n (H_sSumByte x i)).eval = some [.int .i64 (crcIter (8 - i) x : Nat)] := by
  intro n
  induction n with
  | zero => intro i x hx h1 h2; omega
  | succ n ih =>
    intro i x hx h1 h2
    rw [vLoop_L _ _ _ _ _ _ _ (by kernel_rfl), sSumByte_round0]
    by_cases hi : i < 8
    · have e := ih (i + 1) (crcStep x) (crcStep_lt x hx) (by omega) (by omega)
      have hs : 8 - i = (8 - (i + 1)) + 1 := by omega
      have w : IntKind.i64.wrap ((i : Int) + 1) = ((i + 1 : Nat) : Int) := by rw [wrap64] <;> omega
      have hi' : (i : Int) < 8 := by omega
      have d : (x : Int) / 2 = ((x / 2 : Nat) : Int) := by omega
      have m : (x : Int) % 2 = ((x % 2 : Nat) : Int) := by omega
      have hx2 : ixor .i64 ((x / 2 : Nat) : Int) 2197175160 = ((x / 2 ^^^ 2197175160 : Nat) : Int) := ixor64_nat (x / 2) 2197175160 (by omega) (by omega)
      rw [hs]
      simp only [crcIter]
      rw [← e]
      simp only [eval_must', eval_ask', eval_ret', if_true, decide_eq_true_eq, w, hi', iand_one, ishr_one, d, m, hx2]
      unfold crcStep
      by_cases ho : x % 2 = 1
      · simp [ho]
      · simp only [ho, if_false]; rw [if_neg (by omega)]
    · have : i = 8 := by omega
      subst this
      simp [eval_must', eval_ask', eval_ret', crcIter]
theorem sSumByte_E : EnvSound Try.prog E_sSumByte := mkE_sound (by simp [])
theorem sSumByte_sound : Sound Try.prog 112 (sg [pI, pI] [rI]) sumByteSpec := vBody_sound sSumByte_E noInl_ok Try.func112 (by kernel_rfl) fun cs outs hk h => by
  unfold sumByteSpec at h
  split at h
  · simp only [Option.some.injEq, Prod.mk.injEq, true_and] at h
    rename_i s b
    rw [← h, vBody_L, sSumByte_tree]
    have e : b % 256 = ((b % 256).toNat : Int) := by omega
    have hb : (b % 256).toNat < 256 := by omega
    simp only [eval_must', if_true, iand32, iand255]
    rw [e, ixor64_nat _ _ (low32_lt s) (by omega)]
    exact sSumByte_loop _ 0 _ (Nat.xor_lt_two_pow (n := 32) (low32_lt s) (by omega)) (by omega) (by omega)
  · cases h

theorem iSumByte32_loop : ∀ (n i x : Nat), x < 4294967296 → i ≤ 8 → 8 < i + n →
    (vLoop E_iSumByte32 noInl (sg [pU32, pU8] [rU32]) Try.f111 [.r, .r, .l, .r, .b] n (H_iSumByte32 x i)).eval = some [.int .u32 (crcIter (8 - i) x : Nat)] := by
  intro n
  induction n with
  | zero => intro i x hx h1 h2; omega
  | succ n ih =>
    intro i x hx h1 h2
    rw [vLoop_L _ _ _ _ _ _ _ (by kernel_rfl), iSumByte32_round0]
    by_cases hi : i < 8
    · have e := ih (i + 1) (crcStep x) (crcStep_lt x hx) (by omega) (by omega)
      have hs : 8 - i = (8 - (i + 1)) + 1 := by omega
      have w : IntKind.i64.wrap ((i : Int) + 1) = ((i + 1 : Nat) : Int) := by rw [wrap64] <;> omega
      have hi' : (i : Int) < 8 := by omega
      have d : (x : Int) / 2 = ((x / 2 : Nat) : Int) := by omega
      have m : (x : Int) % 2 = ((x % 2 : Nat) : Int) := by omega
      have hx2 : ixor .u32 ((x / 2 : Nat) : Int) 2197175160 = ((x / 2 ^^^ 2197175160 : Nat) : Int) := ixor32_nat (x / 2) 2197175160 (by omega) (by omega)
      rw [hs]
      simp only [crcIter]
      rw [← e]
      simp only [eval_must', eval_ask', eval_ret', if_true, decide_eq_true_eq, w, hi', iand32_one, ishr32_one, d, m, hx2]
      unfold crcStep
      by_cases ho : x % 2 = 1
      · simp [ho]
      · simp only [ho, if_false]; rw [if_neg (by omega)]
    · have : i = 8 := by omega
      subst this
      simp [eval_must', eval_ask', eval_ret', crcIter]
theorem iSumByte32_E : EnvSound Try.prog E_iSumByte32 := mkE_sound (by simp [])
theorem iSumByte32_sound : Sound Try.prog 111 (sg [pU32, pU8] [rU32]) sumByte32Spec := vBody_sound iSumByte32_E noInl_ok Try.func111 (by kernel_rfl) fun cs outs hk h => by
  unfold sumByte32Spec at h
  split at h
  · simp only [Option.some.injEq, Prod.mk.injEq, Bool.and_eq_true, decide_eq_true_eq] at h
    obtain ⟨⟨⟨h1, h2⟩, h3, h4⟩, rfl⟩ := h
    rename_i s b
    obtain ⟨s, rfl⟩ := Int.eq_ofNat_of_zero_le h1
    obtain ⟨b, rfl⟩ := Int.eq_ofNat_of_zero_le h3
    rw [vBody_L, iSumByte32_tree]
    simp only [eval_must', if_true, Int.toNat_natCast]
    rw [wrapU32 (by omega) (by omega), ixor32_nat _ _ (by omega) (by omega)]
    exact iSumByte32_loop _ 0 _ (Nat.xor_lt_two_pow (n := 32) (by omega) (by omega)) (by omega) (by omega)
  · cases h

theorem drop_step (t : List UInt8) (i : Nat) (h : i < t.length) : t.drop i = t.getD i 0 :: t.drop (i + 1) := by
  rw [List.drop_eq_getElem_cons h]; simp [List.getD_eq_getElem?_getD, h]
theorem sSumMore_loop (t : List UInt8) (ht : t.length ≤ 281474976710656) : ∀ (n i x : Nat), x < 4294967296 → i ≤ t.length → t.length < i + n →
    (vLoop E_sSumMore noInl (sg [pI, pS] [rI]) Try.f101 [.r, .r, .l, .r, .b] n (H_sSumMore t x i)).eval = some [.int .i64 (crcFold x (t.drop i) ^^^ 4294967295 : Nat)] := by
  intro n
  induction n with
  | zero => intro i x hx h1 h2; omega
  | succ n ih =>
    intro i x hx h1 h2
    rw [vLoop_L _ _ _ _ _ _ _ (by kernel_rfl), sSumMore_round0]
    by_cases hi : i < t.length
    · have hb := byte_lt t i
      have e := ih (i + 1) (crcByte x (t.getD i 0).toNat) (crcByte_lt _ _ hx hb) (by omega) (by omega)
      have w : IntKind.i64.wrap ((i : Int) + 1) = ((i + 1 : Nat) : Int) := by rw [wrap64] <;> omega
      have hz : (0 : Int) ≤ i := by omega
      have w2 : IntKind.i64.wrap ((t.getD i 0).toNat : Int) = ((t.getD i 0).toNat : Int) := by rw [wrap64] <;> omega
      have l1 : low32 (x : Int) = x := by unfold low32; omega
      have l2 : (((t.getD i 0).toNat : Int) % 256).toNat = (t.getD i 0).toNat := by omega
      rw [drop_step t i hi]
      simp only [crcFold, List.foldl_cons] at e ⊢
      simp only [eval_must', eval_ask', eval_ret', if_true, decide_eq_true_eq, Bool.and_eq_true, w, hz, Int.toNat_natCast, Int.ofNat_lt, hi, and_self, w2, l1, l2]
      exact e
    · have : i = t.length := by omega
      subst this
      have hx2 : ixor .i64 (x : Int) 4294967295 = ((x ^^^ 4294967295 : Nat) : Int) := ixor64_nat x 4294967295 hx (by omega)
      simp [eval_must', eval_ask', eval_ret', crcFold, hx2]
theorem sSumMore_E : EnvSound Try.prog E_sSumMore := mkE_sound (by simp [sSumByte_sound])
theorem sSumMore_sound : Sound Try.prog 101 (sg [pI, pS] [rI]) sumMoreSpec := vBody_sound sSumMore_E noInl_ok Try.func101 (by kernel_rfl) fun cs outs hk h => by
  unfold sumMoreSpec at h
  split at h
  · simp only [Option.some.injEq, Prod.mk.injEq, decide_eq_true_eq] at h
    obtain ⟨h1, rfl⟩ := h
    rename_i s t
    rw [vBody_L, sSumMore_tree]
    have hx2 : ixor .i64 (low32 s : Int) 4294967295 = ((low32 s ^^^ 4294967295 : Nat) : Int) := ixor64_nat _ 4294967295 (low32_lt s) (by omega)
    simp only [eval_must', if_true, iand32, hx2]
    exact sSumMore_loop t h1 _ 0 _ (Nat.xor_lt_two_pow (n := 32) (low32_lt s) (by omega)) (by omega) (by omega)
  · cases h
theorem iSumMore_loop (t : List UInt8) (ht : t.length ≤ 281474976710656) : ∀ (n i x : Nat), x < 4294967296 → i ≤ t.length → t.length < i + n →
    (vLoop E_iSumMore noInl (sg [pI, pS] [rI]) Try.f99 [.r, .r, .l, .r, .b] n (H_iSumMore t x t.length i)).eval = some [.int .i64 (crcFold x (t.drop i) ^^^ 4294967295 : Nat)] := by
  intro n
  induction n with
  | zero => intro i x hx h1 h2; omega
  | succ n ih =>
    intro i x hx h1 h2
    rw [vLoop_L _ _ _ _ _ _ _ (by kernel_rfl), iSumMore_round0]
    by_cases hi : i < t.length
    · have hb := byte_lt t i
      have e := ih (i + 1) (crcByte x (t.getD i 0).toNat) (crcByte_lt _ _ hx hb) (by omega) (by omega)
      have w : IntKind.i64.wrap ((i : Int) + 1) = ((i + 1 : Nat) : Int) := by rw [wrap64] <;> omega
      have hz : (0 : Int) ≤ i := by omega
      have hx1 : (0 : Int) ≤ x := by omega
      have hx2 : (x : Int) ≤ 4294967295 := by omega
      have hb1 : (0 : Int) ≤ ((t.getD i 0).toNat : Int) := by omega
      have hb2 : ((t.getD i 0).toNat : Int) ≤ 255 := by omega
      rw [drop_step t i hi]
      simp only [crcFold, List.foldl_cons] at e ⊢
      simp only [eval_must', eval_ask', eval_ret', if_true, decide_eq_true_eq, Bool.and_eq_true, w, hz, Int.toNat_natCast, Int.ofNat_lt, hi, and_self, hx1, hx2, hb1, hb2]
      exact e
    · have : i = t.length := by omega
      subst this
      have hx2 : ixor .u32 (x : Int) 4294967295 = ((x ^^^ 4294967295 : Nat) : Int) := ixor32_nat x 4294967295 hx (by omega)
      have hl : x ^^^ 4294967295 < 4294967296 := Nat.xor_lt_two_pow (n := 32) hx (by omega)
      have w : IntKind.i64.wrap ((x ^^^ 4294967295 : Nat) : Int) = ((x ^^^ 4294967295 : Nat) : Int) := by rw [wrap64] <;> omega
      simp [eval_must', eval_ask', eval_ret', crcFold, hx2, w]
theorem iSumMore_E : EnvSound Try.prog E_iSumMore := mkE_sound (by simp [iSumByte32_sound])
theorem iSumMore_sound : Sound Try.prog 99 (sg [pI, pS] [rI]) sumMoreSpec := vBody_sound iSumMore_E noInl_ok Try.func99 (by kernel_rfl) fun cs outs hk h => by
  unfold sumMoreSpec at h
  split at h
  · simp only [Option.some.injEq, Prod.mk.injEq, decide_eq_true_eq] at h
    obtain ⟨h1, rfl⟩ := h
    rename_i s t
    rw [vBody_L, iSumMore_tree]
    have hx2 : ixor .u32 (low32 s : Int) 4294967295 = ((low32 s ^^^ 4294967295 : Nat) : Int) := ixor32_nat _ 4294967295 (low32_lt s) (by omega)
    simp only [eval_must', if_true, wrapU32_low, hx2]
    exact iSumMore_loop t h1 _ 0 _ (Nat.xor_lt_two_pow (n := 32) (low32_lt s) (by omega)) (by omega) (by omega)
  · cases h
theorem sSumOf_E : EnvSound Try.prog E_sSumOf := mkE_sound (by simp [sSumMore_sound])
theorem sSumOf_sound : Sound Try.prog 78 (sg [pS] [rI]) sumOfSpec := vBody_sound sSumOf_E noInl_ok Try.func78 (by kernel_rfl) fun cs outs hk h => by
  unfold sumOfSpec at h
  split at h
  · simp only [Option.some.injEq, Prod.mk.injEq, decide_eq_true_eq] at h
    obtain ⟨h1, rfl⟩ := h
    rw [vBody_L, sSumOf_tree]
    simp [eval_must', eval_ret', h1]
    rfl
  · cases h
theorem iSumOf_E : EnvSound Try.prog E_iSumOf := mkE_sound (by simp [iSumMore_sound])
theorem iSumOf_sound : Sound Try.prog 72 (sg [pS] [rI]) sumOfSpec := vBody_sound iSumOf_E noInl_ok Try.func72 (by kernel_rfl) fun cs outs hk h => by
  unfold sumOfSpec at h
  split at h
  · simp only [Option.some.injEq, Prod.mk.injEq, decide_eq_true_eq] at h
    obtain ⟨h1, rfl⟩ := h
    rw [vBody_L, iSumOf_tree]
    simp [eval_must', eval_ret', h1]
    rfl
  · cases h

end Go.Proofs.Ythpcgbnochcbcaa.V

namespace Go.Proofs.Ythpcgbnochcbcaa.V
noncomputable section

/-- the drawing cursor: bytes, place, state -/
def curH (h : Int) : Int := IntKind.i64.wrap (IntKind.i64.wrap (h * 6364136223846793005) + 1442695040888963407)
def curX (h : Int) : Int := iand .i64 (ixor .i64 (ishr .i64 (curH h) 33) (ishr .i64 (curH h) 45)) 255
def rowByte (r : List C) : Int := (r.getD 0 (.fn 0 [])).toInt
def curByte (rows : List (List C)) (i h : Int) : Int := if i < rows.length then iand .i64 (IntKind.i64.wrap (curX h + IntKind.i64.wrap (rowByte (rows.getD i.toNat [])))) 255 else curX h
def curI (rows : List (List C)) (i : Int) : Int := if i < rows.length then i + 1 else i
def curOk (rows : List (List C)) (i : Int) : Bool := rowsOk [.int .u8] rows && (decide (rows.length ≤ 1048576) && (decide (0 ≤ i) && decide (i ≤ rows.length)))
def pCur : PTy := .box [.slice 5, .int .i64, .int .i64]
def byteSpec : Spec := fun cs => match cs with
  | [.sl rows, .int .i64 i, .int .i64 h] => some (curOk rows i, [.int .i64 (curByte rows i h), .sl rows, .int .i64 (curI rows i), .int .i64 (curH h)])
  | _ => none
def E_sByte : Env := mkE [] []

def below (rows : List (List C)) (i h n : Int) : Int :=
  if n ≤ 0 then 0 else if n ≤ 256 then (curByte rows i h).tmod n
  else (curByte rows i h * 16777216 + curByte rows (curI rows i) (curH h) * 65536 + curByte rows (curI rows (curI rows i)) (curH (curH h)) * 256 + curByte rows (curI rows (curI rows (curI rows i))) (curH (curH (curH h)))).tmod n
def belowI (rows : List (List C)) (i n : Int) : Int := if n ≤ 0 then i else if n ≤ 256 then curI rows i else curI rows (curI rows (curI rows (curI rows i)))
def belowH (h n : Int) : Int := if n ≤ 0 then h else if n ≤ 256 then curH h else curH (curH (curH (curH h)))
def belowSpec : Spec := fun cs => match cs with
  | [.sl rows, .int .i64 i, .int .i64 h, .int .i64 n] => some (curOk rows i, [.int .i64 (below rows i h n), .sl rows, .int .i64 (belowI rows i n), .int .i64 (belowH h n)])
  | _ => none
def onceSpec : Spec := fun cs => match cs with
  | [.sl rows, .int .i64 i, .int .i64 h, .int .i64 n] => some (curOk rows i, [.bool (decide (below rows i h n = 0)), .sl rows, .int .i64 (belowI rows i n), .int .i64 (belowH h n)])
  | _ => none
def E_sBelow : Env := mkE [] [(100, (⟨[pCur], [rI], true⟩), byteSpec)]
def E_sOnce : Env := mkE [] [(73, (⟨[pCur, pI], [rI], true⟩), belowSpec)]

def pickSpec : Spec := fun cs => match cs with
  | [.sl rows, .int .i64 i, .int .i64 h, .sl l] => some (curOk rows i && (rowsOk [.int .i64] l && (decide (0 < l.length) && decide (l.length ≤ 1048576))), [.int .i64 ((ints l).getD (below rows i h l.length).toNat 0), .sl rows, .int .i64 (belowI rows i l.length), .int .i64 (belowH h l.length)])
  | _ => none
def E_sPickInt : Env := mkE [] [(73, (⟨[pCur, pI], [rI], true⟩), belowSpec)]

def hashOf : Nat → Int → List (List C) → Int
  | 0, h, _ => h
  | _ + 1, h, [] => h
  | f + 1, h, r :: rows => hashOf f (iand .i64 (IntKind.i64.wrap (IntKind.i64.wrap (IntKind.i64.wrap (h * 131) + IntKind.i64.wrap (rowByte r)) + 7)) 1073741823) rows
def newH (rows : List (List C)) : Int := hashOf 4000 (94701 + rows.length) rows
def E_sNew : Env := mkE [(3, [0, 3, 4])] []
def H_sNew (r : List (List C)) (h i : Int) (hp : List (Nat × Blk)) (nx : Nat) (pn : List Nat) : St := { slots := [(0, .l (.sl r)), (3, int64 h), (4, int64 i)], heap := hp, next := nx, pins := pn }
def drawS : FuncId → List W → St → Option (Bool × W × St) := fun g ws σ => match ws with
  | [.l (.sl rows)] => if g = 57 then some (curOk rows 0, .l (.ptr σ.next 0), { σ with heap := (σ.next, .box [.sl rows, .i .i64 0, .i .i64 (newH rows)]) :: σ.heap, next := σ.next + 1 }) else none
  | _ => none
def drawInl : FuncId → Option Func := fun g => if g = 57 then some Try.f57 else none
def mkD (lv : List (Nat × List Nat)) (gs : Laws) : Env := { mkE lv gs with inl := drawInl }

def curText (rows : List (List C)) : Nat → Int → Int → List UInt8
  | 0, _, _ => []
  | m + 1, i, h => UInt8.ofNat (curByte rows i h).toNat :: curText rows m (curI rows i) (curH h)
def textI (rows : List (List C)) : Nat → Int → Int
  | 0, i => i
  | m + 1, i => textI rows m (curI rows i)
def textH : Nat → Int → Int
  | 0, h => h
  | m + 1, h => textH m (curH h)
def textN (n : Int) : Nat := (if n > 5000 then 5000 else n).toNat
def textSpec : Spec := fun cs => match cs with
  | [.sl rows, .int .i64 i, .int .i64 h, .int .i64 n] => some (curOk rows i, [.str (curText rows (textN n) i h), .sl rows, .int .i64 (textI rows (textN n) i), .int .i64 (textH (textN n) h)])
  | _ => none
def H_sText (r : List (List C)) (i h n : Int) (m : Nat) (o : List (List C)) (k : Int) : St := { slots := [(0, .l (.ptr 0 0)), (1, int64 n), (5, .l (.ref 1 0 m)), (6, int64 k)], heap := [(0, .box [.sl r, .i .i64 i, .i .i64 h]), (1, .arr 1 o)], next := 2, pins := [0] }
def E_sText : Env := mkE [(5, [0, 1, 5, 6])] [(100, (⟨[pCur], [rI], true⟩), byteSpec)]

end
end Go.Proofs.Ythpcgbnochcbcaa.V

namespace Go.Proofs.Ythpcgbnochcbcaa.V
set_option maxRecDepth 100000
theorem sByte_tree (H : List Pt → Nat → St → T (List C)) (r : List (List C)) (i : Int) (h : Int) : vBodyL E_sByte noInl { params := [pCur], results := [rI], nested := true } Try.f100 H
  [C.sl r, C.int IntKind.i64 i, C.int IntKind.i64 h] =
 (.must true
 (.must true
  (.must true
   (.ask (decide (i < (↑r.length : Int)))
    (.must (decide ((0 : Int) ≤ i) && decide (i < (↑r.length : Int)) && decide ((r.getD i.toNat []).length = (1 : Nat)))
     (.must (decide ((0 : Nat) < (r.getD i.toNat []).length) &&
    C.is (K.int IntKind.u8) ((r.getD i.toNat []).getD (0 : Nat) (C.fn (0 : FuncId) [])) &&
  true)
      (.must true
       (.ret [C.int IntKind.i64
    (iand IntKind.i64
      (IntKind.i64.wrap
        (iand IntKind.i64
            (ixor IntKind.i64
              (ishr IntKind.i64
                (IntKind.i64.wrap (IntKind.i64.wrap (h * (6364136223846793005 : Int)) + (1442695040888963407 : Int)))
                (33 : Int))
              (ishr IntKind.i64
                (IntKind.i64.wrap (IntKind.i64.wrap (h * (6364136223846793005 : Int)) + (1442695040888963407 : Int)))
                (45 : Int)))
            (255 : Int) +
          IntKind.i64.wrap ((r.getD i.toNat []).getD (0 : Nat) (C.fn (0 : FuncId) [])).toInt))
      (255 : Int)),
  C.sl r, C.int IntKind.i64 (IntKind.i64.wrap (i + (1 : Int))),
  C.int IntKind.i64
    (IntKind.i64.wrap (IntKind.i64.wrap (h * (6364136223846793005 : Int)) + (1442695040888963407 : Int)))]))))
    (.must true
     (.ret [C.int IntKind.i64
    (iand IntKind.i64
      (ixor IntKind.i64
        (ishr IntKind.i64
          (IntKind.i64.wrap (IntKind.i64.wrap (h * (6364136223846793005 : Int)) + (1442695040888963407 : Int)))
          (33 : Int))
        (ishr IntKind.i64
          (IntKind.i64.wrap (IntKind.i64.wrap (h * (6364136223846793005 : Int)) + (1442695040888963407 : Int)))
          (45 : Int)))
      (255 : Int)),
  C.sl r, C.int IntKind.i64 i,
  C.int IntKind.i64
    (IntKind.i64.wrap (IntKind.i64.wrap (h * (6364136223846793005 : Int)) + (1442695040888963407 : Int)))])))))) := by kernel_rfl
theorem sBelow_tree (H : List Pt → Nat → St → T (List C)) (r : List (List C)) (i : Int) (h : Int) (n : Int) : vBodyL E_sBelow noInl { params := [pCur, pI], results := [rI], nested := true } Try.f73 H
  [C.sl r, C.int IntKind.i64 i, C.int IntKind.i64 h, C.int IntKind.i64 n] =
 (.must true
 (.ask (decide (n ≤ (0 : Int)))
  (.must true
   (.ret [C.int IntKind.i64 (0 : Int), C.sl r, C.int IntKind.i64 i, C.int IntKind.i64 h]))
  (.ask (decide (n ≤ (256 : Int)))
   (.must true
    (.must (curOk r i)
     (.must true
      (.must (decide ¬n = (0 : Int))
       (.must true
        (.ret [C.int IntKind.i64 ((curByte r i h).tmod n), C.sl r, C.int IntKind.i64 (curI r i), C.int IntKind.i64 (curH h)]))))))
   (.must true
    (.must (curOk r i)
     (.must true
      (.must true
       (.must (curOk r (curI r i))
        (.must true
         (.must true
          (.must (curOk r (curI r (curI r i)))
           (.must true
            (.must true
             (.must (curOk r (curI r (curI r (curI r i))))
              (.must true
               (.must (decide ¬n = (0 : Int))
                (.must true
                 (.ret [C.int IntKind.i64
    ((IntKind.i64.wrap
          (IntKind.i64.wrap
              (IntKind.i64.wrap
                  (IntKind.i64.wrap (curByte r i h * (16777216 : Int)) +
                    IntKind.i64.wrap (curByte r (curI r i) (curH h) * (65536 : Int))) +
                IntKind.i64.wrap (curByte r (curI r (curI r i)) (curH (curH h)) * (256 : Int))) +
            curByte r (curI r (curI r (curI r i))) (curH (curH (curH h))))).tmod
      n),
  C.sl r, C.int IntKind.i64 (curI r (curI r (curI r (curI r i)))), C.int IntKind.i64 (curH (curH (curH (curH h))))])))))))))))))))))) := by kernel_rfl
theorem sOnce_tree (H : List Pt → Nat → St → T (List C)) (r : List (List C)) (i : Int) (h : Int) (n : Int) : vBodyL E_sOnce noInl { params := [pCur, pI], results := [rB], nested := true } Try.f96 H
  [C.sl r, C.int IntKind.i64 i, C.int IntKind.i64 h, C.int IntKind.i64 n] =
 (.must true
 (.must true
  (.must (curOk r i)
   (.must true
    (.ask (decide (below r i h n = (0 : Int)))
     (.must true
      (.ret [C.bool true, C.sl r, C.int IntKind.i64 (belowI r i n), C.int IntKind.i64 (belowH h n)]))
     (.must true
      (.ret [C.bool false, C.sl r, C.int IntKind.i64 (belowI r i n), C.int IntKind.i64 (belowH h n)]))))))) := by kernel_rfl
theorem sPickInt_tree (H : List Pt → Nat → St → T (List C)) (r : List (List C)) (i : Int) (h : Int) (l : List (List C)) : vBodyL E_sPickInt noInl { params := [pCur, pSl (3 : TypeId)], results := [rI], nested := true } Try.f59 H
  [C.sl r, C.int IntKind.i64 i, C.int IntKind.i64 h, C.sl l] =
 (.must true
 (.must true
  (.must (curOk r i)
   (.must true
    (.must (decide ((0 : Int) ≤ below r i h (↑l.length : Int)) && decide (below r i h (↑l.length : Int) < (↑l.length : Int)) &&
  decide ((l.getD (below r i h (↑l.length : Int)).toNat []).length = (1 : Nat)))
     (.must (decide ((0 : Nat) < (l.getD (below r i h (↑l.length : Int)).toNat []).length) &&
    C.is (K.int IntKind.i64)
      ((l.getD (below r i h (↑l.length : Int)).toNat []).getD (0 : Nat) (C.fn (0 : FuncId) [])) &&
  true)
      (.must true
       (.ret [C.int IntKind.i64 ((l.getD (below r i h (↑l.length : Int)).toNat []).getD (0 : Nat) (C.fn (0 : FuncId) [])).toInt,
  C.sl r, C.int IntKind.i64 (belowI r i (↑l.length : Int)), C.int IntKind.i64 (belowH h (↑l.length : Int))])))))))) := by kernel_rfl
theorem sNew_tree (H : List Pt → Nat → St → T (W × St)) (r : List (List C)) (hp : List (Nat × Blk)) (nx : Nat) (pn : List Nat) (sl : List (Nat × W)) : vInL E_sNew noInl Try.f57 H [W.l (L.sl r)] { slots := sl, heap := hp, next := nx, pins := pn } =
 (H [Pt.r, Pt.r, Pt.l, Pt.r, Pt.b] (9223372036854775808 : Nat) (H_sNew (r) (IntKind.i64.wrap ((94701 : Int) + (↑r.length : Int))) ((0 : Int)) (hp) (nx) (pn))) := by kernel_rfl
theorem sNew_round0 (H : List Pt → Nat → St → T (W × St)) (r : List (List C)) (h : Int) (i : Int) (hp : List (Nat × Blk)) (nx : Nat) (pn : List Nat) (sl : List (Nat × W)) (k : Nat) : vInRound E_sNew noInl Try.f57 { slots := sl, heap := hp, next := nx, pins := pn } H [Pt.r, Pt.r, Pt.l, Pt.r, Pt.b] k
  (H_sNew r h i hp nx pn) =
 (.ask (decide (i < (↑r.length : Int)))
 (.ask (decide (i < (4000 : Int)))
  (.must (decide ((0 : Int) ≤ i) && decide (i < (↑r.length : Int)) && decide ((r.getD i.toNat []).length = (1 : Nat)))
   (.must (decide ((0 : Nat) < (r.getD i.toNat []).length) &&
    C.is (K.int IntKind.u8) ((r.getD i.toNat []).getD (0 : Nat) (C.fn (0 : FuncId) [])) &&
  true)
    (H [Pt.r, Pt.r, Pt.l, Pt.r, Pt.b] k (H_sNew (r) (iand IntKind.i64
  (IntKind.i64.wrap
    (IntKind.i64.wrap
        (IntKind.i64.wrap (h * (131 : Int)) +
          IntKind.i64.wrap ((r.getD i.toNat []).getD (0 : Nat) (C.fn (0 : FuncId) [])).toInt) +
      (7 : Int)))
  (1073741823 : Int)) (IntKind.i64.wrap (i + (1 : Int))) (hp) (nx) (pn)))))
  (.ret (W.l (L.ptr nx (0 : Nat)),
  {
    slots :=
      [((2 : Nat), W.l (L.ptr nx (0 : Nat))), ((31 : Nat), W.l (L.ptr nx (0 : Nat))),
        ((30 : Nat), W.agg [L.sl r, L.i IntKind.i64 (0 : Int), L.i IntKind.i64 h]),
        ((29 : Nat), W.l (L.i IntKind.i64 h)), ((28 : Nat), W.l (L.sl r)), ((15 : Nat), W.l (L.b false)),
        ((14 : Nat), W.l (L.b false)), ((13 : Nat), W.l (L.i IntKind.i64 i)), ((12 : Nat), W.l (L.b true)),
        ((11 : Nat), W.l (L.b true)), ((10 : Nat), W.l (L.i IntKind.i64 (↑r.length : Int))), ((9 : Nat), W.l (L.sl r)),
        ((8 : Nat), W.l (L.i IntKind.i64 i)), ((0 : Nat), W.l (L.sl r)), ((3 : Nat), W.l (L.i IntKind.i64 h)),
        ((4 : Nat), W.l (L.i IntKind.i64 i))],
    heap := (nx, Blk.box [L.sl r, L.i IntKind.i64 (0 : Int), L.i IntKind.i64 h]) :: hp, next := nx + (1 : Nat),
    pins := pn })))
 (.ret (W.l (L.ptr nx (0 : Nat)),
  {
    slots :=
      [((2 : Nat), W.l (L.ptr nx (0 : Nat))), ((31 : Nat), W.l (L.ptr nx (0 : Nat))),
        ((30 : Nat), W.agg [L.sl r, L.i IntKind.i64 (0 : Int), L.i IntKind.i64 h]),
        ((29 : Nat), W.l (L.i IntKind.i64 h)), ((28 : Nat), W.l (L.sl r)), ((15 : Nat), W.l (L.b false)),
        ((14 : Nat), W.l L.und), ((13 : Nat), W.l L.und), ((12 : Nat), W.l (L.b false)), ((11 : Nat), W.l (L.b false)),
        ((10 : Nat), W.l (L.i IntKind.i64 (↑r.length : Int))), ((9 : Nat), W.l (L.sl r)),
        ((8 : Nat), W.l (L.i IntKind.i64 i)), ((0 : Nat), W.l (L.sl r)), ((3 : Nat), W.l (L.i IntKind.i64 h)),
        ((4 : Nat), W.l (L.i IntKind.i64 i))],
    heap := (nx, Blk.box [L.sl r, L.i IntKind.i64 (0 : Int), L.i IntKind.i64 h]) :: hp, next := nx + (1 : Nat),
    pins := pn }))) := by kernel_rfl
theorem sText_tree (H : List Pt → Nat → St → T (List C)) (r : List (List C)) (i : Int) (h : Int) (n : Int) : vBodyL E_sText noInl { params := [pCur, pI], results := [rS], nested := true } Try.f83 H
  [C.sl r, C.int IntKind.i64 i, C.int IntKind.i64 h, C.int IntKind.i64 n] =
 (.must true
 (.ask (decide ((5000 : Int) < n))
  (H [Pt.r, Pt.r, Pt.r, Pt.l, Pt.r, Pt.b] (9223372036854775808 : Nat) (H_sText (r) (i) (h) ((5000 : Int)) ((0 : Nat)) ([]) ((0 : Int))))
  (H [Pt.r, Pt.r, Pt.r, Pt.l, Pt.r, Pt.b] (9223372036854775808 : Nat) (H_sText (r) (i) (h) (n) ((0 : Nat)) ([]) ((0 : Int)))))) := by kernel_rfl
theorem sText_round0 (H : List Pt → Nat → St → T (List C)) (r : List (List C)) (i : Int) (h : Int) (n : Int) (q : Nat) (o : List (List C)) (j : Int) (k : Nat) : vRound E_sText noInl { params := [pCur, pI], results := [rS], nested := true } Try.f83 H
  [Pt.r, Pt.r, Pt.r, Pt.l, Pt.r, Pt.b] k (H_sText r i h n q o j) =
 (.ask (decide (j < n))
 (.must true
  (.must (curOk r i)
   (.must true
    (.must (decide (q = o.length) && roomy (o.length + (1 : Nat)) (1 : Nat) && (decide ((1 : Nat) = (1 : Nat)) && true))
     (H [Pt.r, Pt.r, Pt.r, Pt.l, Pt.r, Pt.b] k (H_sText (r) (curI r i) (curH h) (n) (o.length + (1 : Nat)) (o.append [[C.int IntKind.u8 (IntKind.u8.wrap (curByte r i h))]]) (IntKind.i64.wrap (j + (1 : Int)))))))))
 (.must ((List.take q o).all byteRow)
  (.must true
   (.ret [C.str (strOfRows (List.take q o)), C.sl r, C.int IntKind.i64 i, C.int IntKind.i64 h])))) := by kernel_rfl
end Go.Proofs.Ythpcgbnochcbcaa.V

namespace Go.Proofs.Ythpcgbnochcbcaa.V

theorem row_u8 {r : List C} (h : kindsOk r [.int .u8] = true) : r = [C.int .u8 (rowByte r)] := by
  cases r with
  | nil => simp [kindsOk] at h
  | cons c r =>
    cases r with
    | cons d r => simp [kindsOk] at h
    | nil =>
      cases c with
      | int k n => simp [kindsOk, C.is] at h; subst h; rfl
      | _ => simp [kindsOk, C.is] at h
theorem rowsOk_at {ks : List K} {rows : List (List C)} (h : rowsOk ks rows = true) (i : Nat) (hi : i < rows.length) : kindsOk (rows.getD i []) ks = true := by
  simp only [rowsOk, List.all_eq_true] at h
  exact h _ (by simp [List.getD_eq_getElem?_getD, hi])
theorem curOk_iff (rows : List (List C)) (i : Int) : curOk rows i = true ↔ rowsOk [.int .u8] rows = true ∧ rows.length ≤ 1048576 ∧ 0 ≤ i ∧ i ≤ rows.length := by simp [curOk]
theorem curI_ok (rows : List (List C)) (i : Int) (h : curOk rows i = true) : curOk rows (curI rows i) = true := by
  have := (curOk_iff rows i).1 h
  rw [curOk_iff]
  unfold curI
  refine ⟨this.1, this.2.1, ?_⟩
  split <;> omega
theorem iand255_range (x : Int) : 0 ≤ iand .i64 x 255 ∧ iand .i64 x 255 ≤ 255 := by rw [iand255]; omega
theorem curByte_range (rows : List (List C)) (i h : Int) : 0 ≤ curByte rows i h ∧ curByte rows i h ≤ 255 := by
  unfold curByte curX; split <;> exact iand255_range _
theorem sByte_E : EnvSound Try.prog E_sByte := mkE_sound (by simp [])
theorem sByte_sound : Sound Try.prog 100 (⟨[pCur], [rI], true⟩) byteSpec := vBody_sound sByte_E noInl_ok Try.func100 (by kernel_rfl) fun cs outs hk h => by
  unfold byteSpec at h
  split at h
  · simp only [Option.some.injEq, Prod.mk.injEq] at h
    obtain ⟨h1, rfl⟩ := h
    rename_i rows i hh
    obtain ⟨a1, a2, a3, a4⟩ := (curOk_iff rows i).1 h1
    rw [vBody_L, sByte_tree]
    by_cases hi : i < rows.length
    · have hr := row_u8 (rowsOk_at a1 i.toNat (by omega))
      have w : IntKind.i64.wrap (i + 1) = i + 1 := by rw [wrap64] <;> omega
      have e1 : ((rows.getD i.toNat []).length) = 1 := by rw [hr]; rfl
      have e2 : C.is (K.int .u8) ((rows.getD i.toNat []).getD 0 (C.fn 0 [])) = true := by rw [hr]; rfl
      simp only [eval_must', eval_ask', eval_ret', if_true, decide_eq_true_eq, Bool.and_eq_true, hi, a3, e1, e2, w, curByte, curI, and_self, Nat.zero_lt_one]
      rfl
    · simp only [eval_must', eval_ask', eval_ret', if_true, decide_eq_true_eq, hi, if_false, curByte, curI]
      rfl
  · cases h

theorem below_range (rows : List (List C)) (i h n : Int) (hn : 0 < n) : 0 ≤ below rows i h n ∧ below rows i h n < n := by
  have r1 := curByte_range rows i h
  have r2 := curByte_range rows (curI rows i) (curH h)
  have r3 := curByte_range rows (curI rows (curI rows i)) (curH (curH h))
  have r4 := curByte_range rows (curI rows (curI rows (curI rows i))) (curH (curH (curH h)))
  unfold below
  rw [if_neg (by omega)]
  split
  · rw [Int.tmod_eq_emod_of_nonneg (by omega)]
    exact ⟨Int.emod_nonneg _ (by omega), Int.emod_lt_of_pos _ hn⟩
  · rw [Int.tmod_eq_emod_of_nonneg (by omega)]
    exact ⟨Int.emod_nonneg _ (by omega), Int.emod_lt_of_pos _ hn⟩
theorem sBelow_E : EnvSound Try.prog E_sBelow := mkE_sound (by simp [sByte_sound])
theorem sBelow_sound : Sound Try.prog 73 (⟨[pCur, pI], [rI], true⟩) belowSpec := vBody_sound sBelow_E noInl_ok Try.func73 (by kernel_rfl) fun cs outs hk h => by
  unfold belowSpec at h
  split at h
  · simp only [Option.some.injEq, Prod.mk.injEq] at h
    obtain ⟨h1, rfl⟩ := h
    rename_i rows i hh n
    have o1 := curI_ok rows i h1
    have o2 := curI_ok rows _ o1
    have o3 := curI_ok rows _ o2
    have r1 := curByte_range rows i hh
    have r2 := curByte_range rows (curI rows i) (curH hh)
    have r3 := curByte_range rows (curI rows (curI rows i)) (curH (curH hh))
    have r4 := curByte_range rows (curI rows (curI rows (curI rows i))) (curH (curH (curH hh)))
    rw [vBody_L, sBelow_tree]
    by_cases p1 : n ≤ 0
    · simp [eval_must', eval_ask', eval_ret', p1, below, belowI, belowH]
    · by_cases p2 : n ≤ 256
      · have hn : n ≠ 0 := by omega
        simp [eval_must', eval_ask', eval_ret', p1, p2, below, belowI, belowH, h1, hn]
      · have hn : n ≠ 0 := by omega
        have w1 : IntKind.i64.wrap (curByte rows i hh * 16777216) = curByte rows i hh * 16777216 := by rw [wrap64] <;> omega
        have w2 : IntKind.i64.wrap (curByte rows (curI rows i) (curH hh) * 65536) = curByte rows (curI rows i) (curH hh) * 65536 := by rw [wrap64] <;> omega
        have w3 : IntKind.i64.wrap (curByte rows (curI rows (curI rows i)) (curH (curH hh)) * 256) = curByte rows (curI rows (curI rows i)) (curH (curH hh)) * 256 := by rw [wrap64] <;> omega
        have w4 : IntKind.i64.wrap (curByte rows i hh * 16777216 + curByte rows (curI rows i) (curH hh) * 65536) = curByte rows i hh * 16777216 + curByte rows (curI rows i) (curH hh) * 65536 := by rw [wrap64] <;> omega
        have w5 : IntKind.i64.wrap (curByte rows i hh * 16777216 + curByte rows (curI rows i) (curH hh) * 65536 + curByte rows (curI rows (curI rows i)) (curH (curH hh)) * 256) = curByte rows i hh * 16777216 + curByte rows (curI rows i) (curH hh) * 65536 + curByte rows (curI rows (curI rows i)) (curH (curH hh)) * 256 := by rw [wrap64] <;> omega
        have w6 : IntKind.i64.wrap (curByte rows i hh * 16777216 + curByte rows (curI rows i) (curH hh) * 65536 + curByte rows (curI rows (curI rows i)) (curH (curH hh)) * 256 + curByte rows (curI rows (curI rows (curI rows i))) (curH (curH (curH hh)))) = curByte rows i hh * 16777216 + curByte rows (curI rows i) (curH hh) * 65536 + curByte rows (curI rows (curI rows i)) (curH (curH hh)) * 256 + curByte rows (curI rows (curI rows (curI rows i))) (curH (curH (curH hh))) := by rw [wrap64] <;> omega
        simp [eval_must', eval_ask', eval_ret', p1, p2, below, belowI, belowH, h1, o1, o2, o3, hn, w1, w2, w3, w4, w5, w6]
  · cases h
theorem sOnce_E : EnvSound Try.prog E_sOnce := mkE_sound (by simp [sBelow_sound])
theorem sOnce_sound : Sound Try.prog 96 (⟨[pCur, pI], [rB], true⟩) onceSpec := vBody_sound sOnce_E noInl_ok Try.func96 (by kernel_rfl) fun cs outs hk h => by
  unfold onceSpec at h
  split at h
  · simp only [Option.some.injEq, Prod.mk.injEq] at h
    obtain ⟨h1, rfl⟩ := h
    rename_i rows i hh n
    rw [vBody_L, sOnce_tree]
    by_cases p : below rows i hh n = 0 <;> simp [eval_must', eval_ask', eval_ret', h1, p]
  · cases h

theorem sPickInt_E : EnvSound Try.prog E_sPickInt := mkE_sound (by simp [sBelow_sound])
theorem sPickInt_sound : Sound Try.prog 59 (⟨[pCur, pSl 3], [rI], true⟩) pickSpec := vBody_sound sPickInt_E noInl_ok Try.func59 (by kernel_rfl) fun cs outs hk h => by
  unfold pickSpec at h
  split at h
  · simp only [Option.some.injEq, Prod.mk.injEq, Bool.and_eq_true, decide_eq_true_eq] at h
    obtain ⟨⟨h1, h2, h3, h4⟩, rfl⟩ := h
    rename_i rows i hh l
    have hr := rows_ints h2
    generalize ints l = m at hr ⊢
    subst hr
    rw [List.length_map] at h3 h4
    rw [vBody_L, sPickInt_tree]
    simp only [List.length_map]
    obtain ⟨b1, b2⟩ := below_range rows i hh m.length (by omega)
    have hlt : (below rows i hh m.length).toNat < m.length := by omega
    have g := map_getD eInt m 0 _ hlt
    simp only [eval_must', eval_ask', eval_ret', if_true, decide_eq_true_eq, Bool.and_eq_true, h1, b1, b2, g, List.length_map, and_self]
    simp [C.is, C.toInt]
  · cases h

theorem hash_step (f : Nat) (h : Int) (rows : List (List C)) (i : Nat) (hi : i < rows.length) : hashOf (f + 1) h (rows.drop i) = hashOf f (iand .i64 (IntKind.i64.wrap (IntKind.i64.wrap (IntKind.i64.wrap (h * 131) + IntKind.i64.wrap (rowByte (rows.getD i []))) + 7)) 1073741823) (rows.drop (i + 1)) := by
  rw [List.drop_eq_getElem_cons hi]
  simp [hashOf, List.getD_eq_getElem?_getD, hi]
theorem hash_nil (f : Nat) (h : Int) : hashOf f h [] = h := by cases f <;> rfl
theorem sNew_loop (rows : List (List C)) (hok : curOk rows 0 = true) (hp : List (Nat × Blk)) (nx : Nat) (pn : List Nat) (sl : List (Nat × W)) : ∀ (n i : Nat) (h : Int), i ≤ rows.length → i ≤ 4000 → 4000 < i + n →
    ∃ s, (vInLoop E_sNew noInl Try.f57 { slots := sl, heap := hp, next := nx, pins := pn } [.r, .r, .l, .r, .b] n (H_sNew rows h i hp nx pn)).eval = some (.l (.ptr nx 0), s) ∧ s.heap = (nx, .box [.sl rows, .i .i64 0, .i .i64 (hashOf (4000 - i) h (rows.drop i))]) :: hp ∧ s.next = nx + 1 ∧ s.pins = pn := by
  obtain ⟨a1, a2, a3, a4⟩ := (curOk_iff rows 0).1 hok
  intro n
  induction n with
  | zero => intro i h h1 h2 h3; omega
  | succ n ih =>
    intro i h h1 h2 h3
    rw [vInLoop_L _ _ _ _ _ _ _ (by kernel_rfl), sNew_round0]
    by_cases hi : i < rows.length
    · by_cases hj : i < 4000
      · have hr := row_u8 (rowsOk_at a1 i hi)
        have w : IntKind.i64.wrap ((i : Int) + 1) = ((i + 1 : Nat) : Int) := by rw [wrap64] <;> omega
        have hi' : (i : Int) < rows.length := by omega
        have hj' : (i : Int) < 4000 := by omega
        have hz : (0 : Int) ≤ i := by omega
        have e1 : ((rows.getD i []).length) = 1 := by rw [hr]; rfl
        have e2 : C.is (K.int .u8) ((rows.getD i []).getD 0 (C.fn 0 [])) = true := by rw [hr]; rfl
        have hs : 4000 - i = (4000 - (i + 1)) + 1 := by omega
        rw [hs, hash_step _ _ _ _ hi]
        simp only [eval_must', eval_ask', if_true, decide_eq_true_eq, Bool.and_eq_true, hi', hj', hz, Int.toNat_natCast, e1, e2, w, and_self, Nat.zero_lt_one]
        exact ih (i + 1) _ (by omega) (by omega) (by omega)
      · have : i = 4000 := by omega
        subst this
        have hi' : ((4000 : Nat) : Int) < rows.length := by omega
        simp only [eval_ask', eval_ret', decide_eq_true_eq, hi', if_true]
        rw [if_neg (by omega)]
        exact ⟨_, rfl, rfl, rfl, rfl⟩
    · have hd : rows.drop i = [] := List.drop_eq_nil_of_le (by omega)
      rw [hd, hash_nil]
      simp only [eval_ask', eval_ret', decide_eq_true_eq]
      rw [if_neg (by omega)]
      exact ⟨_, rfl, rfl, rfl, rfl⟩
theorem drawS_ok : SumOk Try.prog drawS := by
  intro g ws σ x σ' hs
  unfold drawS at hs
  split at hs
  · rename_i rows
    split at hs
    · rename_i hg
      subst hg
      simp only [Option.some.injEq, Prod.mk.injEq] at hs
      obtain ⟨hok, rfl, rfl⟩ := hs
      obtain ⟨sl, hp, nx, pn⟩ := σ
      have hlen := ((curOk_iff rows 0).1 hok).2.1
      obtain ⟨s, h1, h2, h3, h4⟩ := sNew_loop rows hok hp nx pn sl 9223372036854775808 0 (94701 + rows.length) (by omega) (by omega) (by omega)
      have w : IntKind.i64.wrap (94701 + (rows.length : Int)) = 94701 + rows.length := by rw [wrap64] <;> omega
      refine ⟨E_sNew, 1, s, Try.f57, Try.func57, mkE_sound (by simp), ?_, h2, h3, h4⟩
      rw [inlAt_L]
      show (vInL E_sNew noInl _ (vInLoop E_sNew noInl _ _) _ _).eval = _
      rw [sNew_tree, w]
      exact h1
    · cases hs
  · cases hs
theorem drawInl_eq {g : FuncId} {fn : Func} (h : drawInl g = some fn) : g = 57 ∧ fn = Try.f57 := by
  unfold drawInl at h
  split at h
  · rename_i hg; exact ⟨hg, (Option.some.inj h).symm⟩
  · cases h
theorem drawName : (Try.f57.name == "runtime.NumGoroutine") = false := by kernel_rfl
theorem mixedOk : Try.prog.follows .mixedOrders = true := by kernel_rfl
theorem mkD_sound {lv : List (Nat × List Nat)} {gs : Laws} (h : ∀ p, p ∈ gs → Sound Try.prog p.1 p.2.1 p.2.2) : EnvSound Try.prog (mkD lv gs) :=
  ⟨⟨(tys_ok tyTab_ok).1, fun g fn hh => by obtain ⟨rfl, rfl⟩ := drawInl_eq hh; exact Try.func57, fun t m e te h1 h2 => arrs_ok arrTab_ok t m e te h1 h2, gls_ok glTab_ok⟩, fun g sig spec hl => h (g, sig, spec) (lookup_mem hl), fun g fn hh => (by obtain ⟨rfl, rfl⟩ := drawInl_eq hh; exact drawName), mixedOk⟩

theorem curText_len (rows : List (List C)) : ∀ (m : Nat) (i h : Int), (curText rows m i h).length = m
  | 0, _, _ => rfl
  | m + 1, i, h => by simp [curText, curText_len rows m]
theorem textI_ok (rows : List (List C)) : ∀ (m : Nat) (i : Int), curOk rows i = true → curOk rows (textI rows m i) = true
  | 0, _, h => h
  | m + 1, i, h => textI_ok rows m _ (curI_ok rows i h)
theorem sText_loop (rows : List (List C)) (n : Nat) (hn : n ≤ 5000) : ∀ (f m j : Nat) (i h : Int) (l : List UInt8), curOk rows i = true → j + f = n → f < m → l.length = j →
    (vLoop E_sText noInl (⟨[pCur, pI], [rS], true⟩) Try.f83 [.r, .r, .r, .l, .r, .b] m (H_sText rows i h n l.length (rowsOfStr l) j)).eval = some [.str (l ++ curText rows f i h), .sl rows, .int .i64 (textI rows f i), .int .i64 (textH f h)] := by
  intro f
  induction f with
  | zero =>
    intro m j i h l hok h1 h2 h3
    obtain ⟨m, rfl⟩ : ∃ q, m = q + 1 := ⟨m - 1, by omega⟩
    rw [vLoop_L _ _ _ _ _ _ _ (by kernel_rfl), sText_round0]
    have c : ¬ ((j : Int) < n) := by omega
    have tk : (rowsOfStr l).take l.length = rowsOfStr l := List.take_of_length_le (by rw [rows_length]; omega)
    simp only [eval_must', eval_ask', eval_ret', decide_eq_true_eq, c, if_false, tk, rows_bytes, str_rows, curText, textI, textH, List.append_nil]
    simp
  | succ f ih =>
    intro m j i h l hok h1 h2 h3
    obtain ⟨m, rfl⟩ : ∃ q, m = q + 1 := ⟨m - 1, by omega⟩
    rw [vLoop_L _ _ _ _ _ _ _ (by kernel_rfl), sText_round0]
    have hr := curByte_range rows i h
    have c : (j : Int) < n := by omega
    have w : IntKind.i64.wrap ((j : Int) + 1) = ((j + 1 : Nat) : Int) := by rw [wrap64] <;> omega
    have u : IntKind.u8.wrap (curByte rows i h) = (((curByte rows i h).toNat : Nat) : Int) := by rw [wrapU8] <;> omega
    have ro : roomy (l.length + 1) 1 = true := by simp only [roomy, decide_eq_true_eq]; omega
    have ra : (rowsOfStr l).append [[C.int .u8 (((curByte rows i h).toNat : Nat) : Int)]] = rowsOfStr (l ++ [UInt8.ofNat (curByte rows i h).toNat]) := by
      have := rows_one (((curByte rows i h).toNat : Nat) : Int) (by omega) (by omega)
      rw [Int.toNat_natCast] at this
      rw [this, List.append_eq, rowsStr_append]
    have e := ih m (j + 1) (curI rows i) (curH h) (l ++ [UInt8.ofNat (curByte rows i h).toNat]) (curI_ok rows i hok) (by omega) (by omega) (by simp; omega)
    rw [List.length_append, List.append_assoc] at e
    simp only [eval_must', eval_ask', if_true, decide_eq_true_eq, Bool.and_eq_true, c, hok, w, u, ro, rows_length, ra, and_self, curText, textI, textH]
    exact e
theorem sText_E : EnvSound Try.prog E_sText := mkE_sound (by simp [sByte_sound])
theorem sText_sound : Sound Try.prog 83 (⟨[pCur, pI], [rS], true⟩) textSpec := vBody_sound sText_E noInl_ok Try.func83 (by kernel_rfl) fun cs outs hk h => by
  unfold textSpec at h
  split at h
  · simp only [Option.some.injEq, Prod.mk.injEq] at h
    obtain ⟨h1, rfl⟩ := h
    rename_i rows i hh n
    rw [vBody_L, sText_tree]
    have lp := fun (q : Nat) (hq : q ≤ 5000) => sText_loop rows q hq q 9223372036854775808 0 i hh [] h1 (by omega) (by omega) rfl
    by_cases p : (5000 : Int) < n
    · have en : textN n = 5000 := by unfold textN; rw [if_pos p]; rfl
      rw [en]
      simp only [eval_must', eval_ask', if_true, decide_eq_true_eq, p]
      exact lp 5000 (by omega)
    · have en : textN n = n.toNat := by unfold textN; rw [if_neg p]
      rw [en]
      simp only [eval_must', eval_ask', if_true, decide_eq_true_eq, p, if_false]
      by_cases p2 : 0 ≤ n
      · obtain ⟨n, rfl⟩ := Int.eq_ofNat_of_zero_le p2
        exact lp n (by omega)
      · have hz : n.toNat = 0 := by omega
        rw [hz]
        rw [vLoop_L _ _ _ _ _ 9223372036854775807 _ (by kernel_rfl), sText_round0]
        have c : ¬ ((0 : Int) < n) := by omega
        simp only [eval_must', eval_ask', eval_ret', decide_eq_true_eq, c, if_false, curText, textI, textH]
        simp [strOfRows]
  · cases h

end Go.Proofs.Ythpcgbnochcbcaa.V

namespace Go.Proofs.Ythpcgbnochcbcaa.V
noncomputable section

def pCode : PTy := .val false [.slice 5]
/-- a text of less than n bytes, from a cursor; the cursor behind it -/
def dtT (rows : List (List C)) (n i h : Int) : List UInt8 := curText rows (textN (below rows i h n)) (belowI rows i n) (belowH h n)
def dtI (rows : List (List C)) (n i h : Int) : Int := textI rows (textN (below rows i h n)) (belowI rows i n)
def dtH (rows : List (List C)) (n i h : Int) : Int := textH (textN (below rows i h n)) (belowH h n)

end
end Go.Proofs.Ythpcgbnochcbcaa.V

namespace Go.Proofs.Ythpcgbnochcbcaa.V
set_option maxRecDepth 100000

end Go.Proofs.Ythpcgbnochcbcaa.V

namespace Go.Proofs.Ythpcgbnochcbcaa.V

theorem belowI_ok (rows : List (List C)) (i n : Int) (h : curOk rows i = true) : curOk rows (belowI rows i n) = true := by
  unfold belowI
  split
  · exact h
  · split
    · exact curI_ok rows i h
    · exact curI_ok _ _ (curI_ok _ _ (curI_ok _ _ (curI_ok rows i h)))
theorem dtI_ok (rows : List (List C)) (n i h : Int) (ho : curOk rows i = true) : curOk rows (dtI rows n i h) = true := textI_ok rows _ _ (belowI_ok rows i n ho)
theorem dtT_len (rows : List (List C)) (n i h : Int) (hn : 0 < n) (hn2 : n ≤ 5000) : (dtT rows n i h).length < n := by
  unfold dtT
  rw [curText_len]
  have := below_range rows i h n hn
  unfold textN
  split <;> omega

end Go.Proofs.Ythpcgbnochcbcaa.V

namespace Go.Proofs.Ythpcgbnochcbcaa.V
noncomputable section

def bigSpec : Spec := fun cs => match cs with
  | [.sl rows] => some (true, [.bool (decide (1048576 < rows.length))])
  | _ => none
def codeLaw : Spec := fun cs => match cs with
  | [.sl rows] => some (rowsOk [.int .u8] rows, [.bool true])
  | _ => none
def E_lBig : Env := mkE [] []

end
end Go.Proofs.Ythpcgbnochcbcaa.V

namespace Go.Proofs.Ythpcgbnochcbcaa.V
set_option maxRecDepth 100000
theorem lBig_tree (H : List Pt → Nat → St → T (List C)) (r : List (List C)) : vBodyL E_lBig noInl (sg [pCode] [rB]) Try.f10 H [C.sl r] =
 (.must true
 (.ask (decide ((1048576 : Int) < (↑r.length : Int)))
  (.must true
   (.ret [C.bool true]))
  (.must true
   (.ret [C.bool false])))) := by kernel_rfl
end Go.Proofs.Ythpcgbnochcbcaa.V

namespace Go.Proofs.Ythpcgbnochcbcaa.V

theorem lBig_E : EnvSound Try.prog E_lBig := mkE_sound (by simp [])
theorem lBig_sound : Sound Try.prog 10 (sg [pCode] [rB]) bigSpec := vBody_sound lBig_E noInl_ok Try.func10 (by kernel_rfl) fun cs outs hk h => by
  unfold bigSpec at h
  split at h
  · simp only [Option.some.injEq, Prod.mk.injEq, true_and] at h
    rename_i rows
    rw [← h, vBody_L, lBig_tree]
    by_cases hb : 1048576 < rows.length
    · have : (1048576 : Int) < rows.length := by omega
      simp [eval_must', eval_ask', eval_ret', hb, this]
    · have : ¬ (1048576 : Int) < rows.length := by omega
      simp [eval_must', eval_ask', eval_ret', hb, this]
  · cases h

end Go.Proofs.Ythpcgbnochcbcaa.V

namespace Go.Proofs.Ythpcgbnochcbcaa.V
noncomputable section

def isNumberSpec : Spec := fun cs => match cs with
  | [.int .i64 n] => some (true, [.bool (inB n 0 1000000000)])
  | _ => none
def E_iIsNumber : Env := mkE [] [(79, (sg [pI, pI, pI] [rB]), inSpec)]

def leBytes : Nat → Nat → List UInt8
  | 0, _ => []
  | k + 1, n => UInt8.ofNat (n % 256) :: leBytes k (n / 256)
def fixOf (n w : Int) : List UInt8 := if 0 ≤ n ∧ 1 ≤ w ∧ w ≤ 8 ∧ n.toNat < 256 ^ w.toNat then leBytes w.toNat n.toNat else []
def leVal : List UInt8 → Nat
  | [] => 0
  | c :: t => c.toNat + 256 * leVal t
def fixVal (b : List UInt8) (at' w : Int) : Nat := leVal ((b.drop at'.toNat).take w.toNat)
def fixOk (b : List UInt8) (at' w : Int) : Bool := decide (1 ≤ w ∧ w ≤ 8 ∧ 0 ≤ at' ∧ at' ≤ b.length - w ∧ fixVal b at' w < 9223372036854775808)
def fixRead (b : List UInt8) (at' w : Int) : Int := if fixOk b at' w then (fixVal b at' w : Int) else 0

def fixSpec : Spec := fun cs => match cs with
  | [.int .i64 n, .int .i64 w] => some (decide (-9223372036854775808 ≤ n) && decide (n ≤ 9223372036854775807), [.str (fixOf n w)])
  | _ => none
def readFixSpec : Spec := fun cs => match cs with
  | [.str b, .int .i64 a, .int .i64 w] => some (decide (b.length ≤ 281474976710656) && (decide (-9223372036854775808 ≤ a) && decide (a ≤ 9223372036854775807)), [.int .i64 (fixRead b a w), .bool (fixOk b a w)])
  | _ => none
def E_sFixText : Env := mkE [(5, [0, 1, 5, 6])] [(80, (sg [pI, pI, pI] [rB]), inSpec)]
def E_iFixText : Env := mkE [(5, [0, 5, 28, 29])] [(79, (sg [pI, pI, pI] [rB]), inSpec)]
def E_sReadFix : Env := mkE [(7, [0, 1, 8, 9])] [(80, (sg [pI, pI, pI] [rB]), inSpec)]
def E_iReadFix : Env := mkE [(5, [0, 1, 8, 22, 23])] [(79, (sg [pI, pI, pI] [rB]), inSpec)]
def H_sFixText (n w : Int) (m : Nat) (r : List (List C)) (i : Int) : St := st1 [(0, int64 n), (1, int64 w), (5, .l (.ref 0 0 m)), (6, int64 i)] 1 r
def H_iFixText (n : Int) (m : Nat) (r : List (List C)) (e i : Int) : St := st1 [(0, int64 n), (5, .l (.ref 0 0 m)), (28, int64 e), (29, int64 i)] 1 r
def H_sReadFix (b : List UInt8) (a n i : Int) : St := st0 [(0, wstr b), (1, int64 a), (8, int64 n), (9, int64 i)]
def H_iReadFix (b : List UInt8) (a n e i : Int) : St := st0 [(0, wstr b), (1, int64 a), (8, int64 n), (22, int64 e), (23, int64 i)]

end
end Go.Proofs.Ythpcgbnochcbcaa.V

namespace Go.Proofs.Ythpcgbnochcbcaa.V
set_option maxRecDepth 100000
theorem iIsNumber_tree (H : List Pt → Nat → St → T (List C)) (n : Int) : vBodyL E_iIsNumber noInl (sg [pI] [rB]) Try.f67 H [C.int IntKind.i64 n] =
 (.must true
 (.must true
  (.must true
   (.must true
    (.ask (inB n (0 : Int) (1000000000 : Int))
     (.must true
      (.ret [C.bool true]))
     (.must true
      (.ret [C.bool false]))))))) := by kernel_rfl
theorem sFixText_tree (H : List Pt → Nat → St → T (List C)) (n : Int) (w : Int) : vBodyL E_sFixText noInl (sg [pI, pI] [rS]) Try.f77 H [C.int IntKind.i64 n, C.int IntKind.i64 w] =
 (.must true
 (.ask (decide (n < (0 : Int)))
  (.must true
   (.ret [C.str []]))
  (.must true
   (.must true
    (.must true
     (.ask (inB w (1 : Int) (8 : Int))
      (H [Pt.r, Pt.r, Pt.r, Pt.l, Pt.r, Pt.b] (9223372036854775808 : Nat) (H_sFixText (n) (w) ((0 : Nat)) ([]) ((0 : Int))))
      (.must true
       (.ret [C.str []])))))))) := by kernel_rfl
theorem sFixText_round0 (H : List Pt → Nat → St → T (List C)) (n : Int) (w : Int) (q : Nat) (r : List (List C)) (i : Int) (k : Nat) : vRound E_sFixText noInl (sg [pI, pI] [rS]) Try.f77 H [Pt.r, Pt.r, Pt.r, Pt.l, Pt.r, Pt.b] k (H_sFixText n w q r i) =
 (.ask (decide (i < w))
 (.must (decide (q = r.length) && roomy (r.length + (1 : Nat)) (1 : Nat) && (decide ((1 : Nat) = (1 : Nat)) && true))
  (.must true
   (H [Pt.r, Pt.r, Pt.r, Pt.l, Pt.r, Pt.b] k (H_sFixText (ishr IntKind.i64 n (8 : Int)) (w) (r.length + (1 : Nat)) (r.append [[C.int IntKind.u8 (IntKind.u8.wrap n)]]) (IntKind.i64.wrap (i + (1 : Int)))))))
 (.ask (decide ((0 : Int) < n))
  (.must true
   (.ret [C.str []]))
  (.must ((List.take q r).all byteRow)
   (.must true
    (.ret [C.str (strOfRows (List.take q r))]))))) := by kernel_rfl
theorem iFixText_tree (H : List Pt → Nat → St → T (List C)) (n : Int) (w : Int) : vBodyL E_iFixText noInl (sg [pI, pI] [rS]) Try.f71 H [C.int IntKind.i64 n, C.int IntKind.i64 w] =
 (.must true
 (.ask (decide (n < (0 : Int)))
  (.must true
   (.ret [C.str []]))
  (.must true
   (.must true
    (.must true
     (.ask (inB w (1 : Int) (8 : Int))
      (.ask (decide (w < (8 : Int)))
       (.must (decide ((0 : Int) ≤ IntKind.i64.wrap ((8 : Int) * w)))
        (.ask (ishr IntKind.i64 n (IntKind.i64.wrap ((8 : Int) * w)) != (0 : Int))
         (.must true
          (.ret [C.str []]))
         (.must (decide ((0 : Int) ≤ w) && decide (w ≤ w) && decide ((↑(1 : Nat) : Int) * w ≤ (281474976710656 : Int)))
          (H [Pt.r, Pt.r, Pt.r, Pt.l, Pt.r, Pt.b] (9223372036854775808 : Nat) (H_iFixText (n) (w.toNat) (List.replicate w.toNat [C.int IntKind.u8 (0 : Int)]) ((↑w.toNat : Int)) ((0 : Int)))))))
       (.must (decide ((0 : Int) ≤ w) && decide (w ≤ w) && decide ((↑(1 : Nat) : Int) * w ≤ (281474976710656 : Int)))
        (H [Pt.r, Pt.r, Pt.r, Pt.l, Pt.r, Pt.b] (9223372036854775808 : Nat) (H_iFixText (n) (w.toNat) (List.replicate w.toNat [C.int IntKind.u8 (0 : Int)]) ((↑w.toNat : Int)) ((0 : Int))))))
      (.must true
       (.ret [C.str []])))))))) := by kernel_rfl
theorem iFixText_round0 (H : List Pt → Nat → St → T (List C)) (n : Int) (q : Nat) (r : List (List C)) (e : Int) (i : Int) (k : Nat) : vRound E_iFixText noInl (sg [pI, pI] [rS]) Try.f71 H [Pt.r, Pt.r, Pt.r, Pt.l, Pt.r, Pt.b] k (H_iFixText n q r e i) =
 (.ask (decide (i < e))
 (.must (decide ((0 : Int) ≤ IntKind.i64.wrap ((8 : Int) * i)))
  (.must (decide ((0 : Int) ≤ i) && decide (i < (↑q : Int)))
   (.must (decide ((0 : Nat) + i.toNat < r.length))
    (H [Pt.r, Pt.r, Pt.r, Pt.l, Pt.r, Pt.b] k (H_iFixText (n) (q) (r.set ((0 : Nat) + i.toNat)
  (C.int IntKind.u8 (IntKind.u8.wrap (ishr IntKind.i64 n (IntKind.i64.wrap ((8 : Int) * i)))) ::
    List.drop ((0 : Nat) + (1 : Nat)) (r.getD ((0 : Nat) + i.toNat) []))) (e) (IntKind.i64.wrap (i + (1 : Int))))))))
 (.must ((List.take q r).all byteRow)
  (.must true
   (.ret [C.str (strOfRows (List.take q r))])))) := by kernel_rfl
theorem sReadFix_tree (H : List Pt → Nat → St → T (List C)) (b : List UInt8) (a : Int) (w : Int) : vBodyL E_sReadFix noInl (sg [pS, pI, pI] [rI, rB]) Try.f84 H [C.str b, C.int IntKind.i64 a, C.int IntKind.i64 w] =
 (.must true
 (.must true
  (.must true
   (.must true
    (.ask (inB w (1 : Int) (8 : Int))
     (.must true
      (.must true
       (.must true
        (.ask (inB a (0 : Int) (IntKind.i64.wrap ((↑b.length : Int) - w)))
         (.ask (decide (w = (8 : Int)))
          (.must (decide ((0 : Int) ≤ IntKind.i64.wrap (a + (7 : Int))) && decide (IntKind.i64.wrap (a + (7 : Int)) < (↑b.length : Int)))
           (.ask (decide ((127 : Int) < (↑(b.getD (IntKind.i64.wrap (a + (7 : Int))).toNat (0 : UInt8)).toNat : Int)))
            (.must true
             (.ret [C.int IntKind.i64 (0 : Int), C.bool false]))
            (H [Pt.r, Pt.r, Pt.r, Pt.r, Pt.l, Pt.r, Pt.b] (9223372036854775808 : Nat) (H_sReadFix (b) (a) ((0 : Int)) (IntKind.i64.wrap (w - (1 : Int)))))))
          (H [Pt.r, Pt.r, Pt.r, Pt.r, Pt.l, Pt.r, Pt.b] (9223372036854775808 : Nat) (H_sReadFix (b) (a) ((0 : Int)) (IntKind.i64.wrap (w - (1 : Int))))))
         (.must true
          (.ret [C.int IntKind.i64 (0 : Int), C.bool false]))))))
     (.must true
      (.ret [C.int IntKind.i64 (0 : Int), C.bool false]))))))) := by kernel_rfl
theorem sReadFix_round0 (H : List Pt → Nat → St → T (List C)) (b : List UInt8) (a : Int) (n : Int) (i : Int) (k : Nat) : vRound E_sReadFix noInl (sg [pS, pI, pI] [rI, rB]) Try.f84 H [Pt.r, Pt.r, Pt.r, Pt.r, Pt.l, Pt.r, Pt.b] k
  (H_sReadFix b a n i) =
 (.ask (decide ((0 : Int) ≤ i))
 (.must true
  (.must (decide ((0 : Int) ≤ IntKind.i64.wrap (a + i)) && decide (IntKind.i64.wrap (a + i) < (↑b.length : Int)))
   (H [Pt.r, Pt.r, Pt.r, Pt.r, Pt.l, Pt.r, Pt.b] k (H_sReadFix (b) (a) (ior IntKind.i64 (ishl IntKind.i64 n (8 : Int))
  (IntKind.i64.wrap (↑(b.getD (IntKind.i64.wrap (a + i)).toNat (0 : UInt8)).toNat : Int))) (IntKind.i64.wrap (i - (1 : Int)))))))
 (.must true
  (.ret [C.int IntKind.i64 n, C.bool true]))) := by kernel_rfl
theorem iReadFix_tree (H : List Pt → Nat → St → T (List C)) (b : List UInt8) (a : Int) (w : Int) : vBodyL E_iReadFix noInl (sg [pS, pI, pI] [rI, rB]) Try.f74 H [C.str b, C.int IntKind.i64 a, C.int IntKind.i64 w] =
 (.must true
 (.must true
  (.must true
   (.must true
    (.ask (inB w (1 : Int) (8 : Int))
     (.must true
      (.must true
       (.must true
        (.ask (inB a (0 : Int) (IntKind.i64.wrap ((↑b.length : Int) - w)))
         (H [Pt.r, Pt.r, Pt.r, Pt.l, Pt.r, Pt.b] (9223372036854775808 : Nat) (H_iReadFix (b) (a) ((0 : Int)) (w) ((0 : Int))))
         (.must true
          (.ret [C.int IntKind.i64 (0 : Int), C.bool false]))))))
     (.must true
      (.ret [C.int IntKind.i64 (0 : Int), C.bool false]))))))) := by kernel_rfl
theorem iReadFix_round0 (H : List Pt → Nat → St → T (List C)) (b : List UInt8) (a : Int) (n : Int) (e : Int) (i : Int) (k : Nat) : vRound E_iReadFix noInl (sg [pS, pI, pI] [rI, rB]) Try.f74 H [Pt.r, Pt.r, Pt.r, Pt.l, Pt.r, Pt.b] k
  (H_iReadFix b a n e i) =
 (.ask (decide (i < e))
 (.must (decide ((0 : Int) ≤ IntKind.i64.wrap (a + i)) && decide (IntKind.i64.wrap (a + i) < (↑b.length : Int)))
  (.must (decide ((0 : Int) ≤ IntKind.i64.wrap ((8 : Int) * i)))
   (H [Pt.r, Pt.r, Pt.r, Pt.l, Pt.r, Pt.b] k (H_iReadFix (b) (a) (ior IntKind.i64 n
  (ishl IntKind.i64 (IntKind.i64.wrap (↑(b.getD (IntKind.i64.wrap (a + i)).toNat (0 : UInt8)).toNat : Int))
    (IntKind.i64.wrap ((8 : Int) * i)))) (e) (IntKind.i64.wrap (i + (1 : Int)))))))
 (.ask (decide (n < (0 : Int)))
  (.must true
   (.ret [C.int IntKind.i64 (0 : Int), C.bool false]))
  (.must true
   (.ret [C.int IntKind.i64 n, C.bool true])))) := by kernel_rfl
end Go.Proofs.Ythpcgbnochcbcaa.V

namespace Go.Proofs.Ythpcgbnochcbcaa.V

theorem iIsNumber_E : EnvSound Try.prog E_iIsNumber := mkE_sound (by simp [iIn_sound])
theorem iIsNumber_sound : Sound Try.prog 67 (sg [pI] [rB]) isNumberSpec := vBody_sound iIsNumber_E noInl_ok Try.func67 (by kernel_rfl) fun cs outs hk h => by
  unfold isNumberSpec at h
  split at h
  · simp only [Option.some.injEq, Prod.mk.injEq, true_and] at h
    rw [← h, vBody_L, iIsNumber_tree]
    rename_i n
    by_cases hb : inB n 0 1000000000 = true <;> simp [eval_must', eval_ask', eval_ret', hb]
  · cases h

theorem ishr64 (x : Int) (k : Nat) (hk : k < 64) : ishr .i64 x (k : Int) = x / 2 ^ k := by
  show x.fdiv (2 ^ (min ((k : Int).toNat) 64)) = _
  have : min ((k : Int).toNat) 64 = k := by omega
  rw [this, Int.fdiv_eq_ediv_of_nonneg]
  exact Int.pow_nonneg (by omega)
theorem ishr64_nat (x k : Nat) (hk : k < 64) : ishr .i64 (x : Int) (k : Int) = ((x / 2 ^ k : Nat) : Int) := by
  rw [ishr64 _ _ hk]
  simp
theorem wrapU8_mod (x : Int) : IntKind.u8.wrap x = x % 256 := by
  simp only [IntKind.wrap, IntKind.bits, IntKind.signed]
  simp
theorem pow256 (i : Nat) : (2 : Nat) ^ (8 * i) = 256 ^ i := by rw [Nat.pow_mul]
theorem leBytes_length : ∀ (k n : Nat), (leBytes k n).length = k
  | 0, _ => rfl
  | k + 1, n => by simp [leBytes, leBytes_length k]
theorem leBytes_succ : ∀ (k n : Nat), leBytes (k + 1) n = leBytes k n ++ [UInt8.ofNat (n / 256 ^ k % 256)]
  | 0, n => by simp [leBytes]
  | k + 1, n => by
    rw [leBytes, leBytes_succ k (n / 256)]
    simp only [leBytes, List.cons_append]
    rw [Nat.div_div_eq_div_mul, Nat.pow_succ, Nat.mul_comm 256 (256 ^ k)]

theorem in_iff (n a b : Int) : inB n a b = true ↔ a ≤ n ∧ n ≤ b := by simp [inB]

theorem sFixText_loop (n0 w : Nat) (hw : w ≤ 8) (hn : n0 ≤ 9223372036854775807) : ∀ (n i : Nat), i ≤ w → w < i + n →
    (vLoop E_sFixText noInl (sg [pI, pI] [rS]) Try.f77 [.r, .r, .r, .l, .r, .b] n (H_sFixText (n0 / 256 ^ i : Nat) w i (rowsOfStr (leBytes i n0)) i)).eval = some [.str (if n0 < 256 ^ w then leBytes w n0 else [])] := by
  intro n
  induction n with
  | zero => intro i h1 h2; omega
  | succ n ih =>
    intro i h1 h2
    rw [vLoop_L _ _ _ _ _ _ _ (by kernel_rfl), sFixText_round0]
    by_cases hi : i < w
    · have e := ih (i + 1) (by omega) (by omega)
      have w1 : IntKind.i64.wrap ((i : Int) + 1) = ((i + 1 : Nat) : Int) := by rw [wrap64] <;> omega
      have hi' : (i : Int) < w := by omega
      have hr : roomy (i + 1) 1 = true := by simp only [roomy, decide_eq_true_eq]; omega
      have d : ishr .i64 ((n0 / 256 ^ i : Nat) : Int) 8 = ((n0 / 256 ^ (i + 1) : Nat) : Int) := by
        have := ishr64_nat (n0 / 256 ^ i) 8 (by omega)
        rw [show ((8 : Nat) : Int) = 8 from rfl] at this
        rw [this, Nat.div_div_eq_div_mul, show (2 : Nat) ^ 8 = 256 from rfl, ← Nat.pow_succ]
      have u : IntKind.u8.wrap ((n0 / 256 ^ i : Nat) : Int) = ((n0 / 256 ^ i % 256 : Nat) : Int) := by rw [wrapU8_mod]; omega
      have ro : [[C.int .u8 ((n0 / 256 ^ i % 256 : Nat) : Int)]] = rowsOfStr [UInt8.ofNat (n0 / 256 ^ i % 256)] := by
        have := rows_one ((n0 / 256 ^ i % 256 : Nat) : Int) (by omega) (by omega)
        rw [Int.toNat_natCast] at this
        exact this
      rw [leBytes_succ, ← rowsStr_append, ← ro] at e
      simp only [eval_must', eval_ask', eval_ret', if_true, decide_eq_true_eq, Bool.and_eq_true, w1, hi', rows_length, leBytes_length, hr, d, u, and_self, List.append_eq]
      exact e
    · have : i = w := by omega
      subst this
      have hlt : ¬ ((i : Int) < i) := by omega
      have z : (0 : Int) < ((n0 / 256 ^ i : Nat) : Int) ↔ ¬ n0 < 256 ^ i := by
        have hp : (256 : Nat) ^ i ≠ 0 := Nat.pos_iff_ne_zero.1 (Nat.pow_pos (by omega))
        have h0 : n0 / 256 ^ i = 0 ↔ n0 < 256 ^ i := by
          rw [Nat.div_eq_zero_iff]
          exact ⟨fun h => h.resolve_left hp, .inr⟩
        rw [← h0]
        generalize n0 / 256 ^ i = y
        omega
      have tk : (rowsOfStr (leBytes i n0)).take i = rowsOfStr (leBytes i n0) := List.take_of_length_le (by rw [rows_length, leBytes_length]; omega)
      simp only [eval_must', eval_ask', eval_ret', if_true, decide_eq_true_eq, hlt, if_false, z, tk, rows_bytes, str_rows]
      by_cases hc : n0 < 256 ^ i <;> simp [hc]
theorem fix_bad (n w : Int) (h : ¬ (0 ≤ n ∧ 1 ≤ w ∧ w ≤ 8)) : fixOf n w = [] := by
  unfold fixOf; rw [if_neg (fun h' => h ⟨h'.1, h'.2.1, h'.2.2.1⟩)]
theorem fix_good (n w : Nat) (h1 : 1 ≤ w) (h2 : w ≤ 8) : fixOf n w = if n < 256 ^ w then leBytes w n else [] := by
  unfold fixOf
  simp only [Int.toNat_natCast]
  by_cases h : n < 256 ^ w
  · rw [if_pos ⟨by omega, by omega, by omega, h⟩, if_pos h]
  · rw [if_neg (fun h' => h h'.2.2.2), if_neg h]
theorem sFixText_E : EnvSound Try.prog E_sFixText := mkE_sound (by simp [sIn_sound])
theorem sFixText_sound : Sound Try.prog 77 (sg [pI, pI] [rS]) fixSpec := vBody_sound sFixText_E noInl_ok Try.func77 (by kernel_rfl) fun cs outs hk h => by
  unfold fixSpec at h
  split at h
  · simp only [Option.some.injEq, Prod.mk.injEq, Bool.and_eq_true, decide_eq_true_eq] at h
    obtain ⟨⟨h1, h2⟩, rfl⟩ := h
    rename_i n w
    rw [vBody_L, sFixText_tree]
    by_cases hn : n < 0
    · simp [eval_must', eval_ask', eval_ret', hn, fix_bad n w (by omega)]
    · by_cases hw : inB w 1 8 = true
      · have hw' := (in_iff _ _ _).1 hw
        obtain ⟨n, rfl⟩ := Int.eq_ofNat_of_zero_le (show 0 ≤ n by omega)
        obtain ⟨w, rfl⟩ := Int.eq_ofNat_of_zero_le (show 0 ≤ w by omega)
        have := sFixText_loop n w (by omega) (by omega) 9223372036854775808 0 (by omega) (by omega)
        rw [← fix_good n w (by omega) (by omega)] at this
        simp only [eval_must', eval_ask', if_true, hn, decide_false, Bool.false_eq_true, if_false, hw, Bool.not_true]
        simpa [leBytes, rowsOfStr] using this
      · have : ¬ (1 ≤ w ∧ w ≤ 8) := fun h => hw ((in_iff _ _ _).2 h)
        simp [eval_must', eval_ask', eval_ret', hn, hw, fix_bad n w (by omega)]
  · cases h

theorem iFixText_loop (n0 w : Nat) (hw : w ≤ 8) (hn : n0 ≤ 9223372036854775807) : ∀ (n i : Nat), i ≤ w → w < i + n →
    (vLoop E_iFixText noInl (sg [pI, pI] [rS]) Try.f71 [.r, .r, .r, .l, .r, .b] n (H_iFixText n0 w (rowsOfStr (leBytes i n0 ++ List.replicate (w - i) 0)) w i)).eval = some [.str (leBytes w n0)] := by
  intro n
  induction n with
  | zero => intro i h1 h2; omega
  | succ n ih =>
    intro i h1 h2
    rw [vLoop_L _ _ _ _ _ _ _ (by kernel_rfl), iFixText_round0]
    by_cases hi : i < w
    · have e := ih (i + 1) (by omega) (by omega)
      have w1 : IntKind.i64.wrap ((i : Int) + 1) = ((i + 1 : Nat) : Int) := by rw [wrap64] <;> omega
      have w2 : IntKind.i64.wrap (8 * (i : Int)) = ((8 * i : Nat) : Int) := by rw [wrap64] <;> omega
      have hi' : (i : Int) < w := by omega
      have hz : (0 : Int) ≤ i := by omega
      have hz8 : (0 : Int) ≤ ((8 * i : Nat) : Int) := by omega
      have d : ishr .i64 (n0 : Int) ((8 * i : Nat) : Int) = ((n0 / 256 ^ i : Nat) : Int) := by rw [ishr64_nat _ _ (by omega), pow256]
      have u : IntKind.u8.wrap ((n0 / 256 ^ i : Nat) : Int) = ((n0 / 256 ^ i % 256 : Nat) : Int) := by rw [wrapU8_mod]; omega
      have hlen : (leBytes i n0 ++ List.replicate (w - i) (0 : UInt8)).length = w := by simp [leBytes_length]; omega
      have g := rows_get (leBytes i n0 ++ List.replicate (w - i) 0) i (by omega)
      have sset := rows_set (leBytes i n0 ++ List.replicate (w - i) 0) i ((n0 / 256 ^ i % 256 : Nat) : Int) (by omega) (by omega)
      have sl : (leBytes i n0 ++ List.replicate (w - i) (0 : UInt8)).set i (UInt8.ofNat (((n0 / 256 ^ i % 256 : Nat) : Int)).toNat) = leBytes (i + 1) n0 ++ List.replicate (w - (i + 1)) 0 := by
        obtain ⟨m, hm⟩ : ∃ m, w - i = m + 1 := ⟨w - i - 1, by omega⟩
        have hm2 : w - (i + 1) = m := by omega
        rw [List.set_append_right _ _ (by rw [leBytes_length]; omega), leBytes_length, Nat.sub_self, hm, hm2, List.replicate_succ, List.set_cons_zero, leBytes_succ, Int.toNat_natCast, List.append_assoc]
        rfl
      rw [sl] at sset
      simp only [eval_must', eval_ask', eval_ret', if_true, decide_eq_true_eq, Bool.and_eq_true, w1, w2, hi', hz, hz8, d, u, rows_length, hlen, Int.toNat_natCast, Nat.zero_add, hi, and_self, g, List.drop_succ_cons, List.drop_zero, sset]
      exact e
    · have : i = w := by omega
      subst this
      have hlt : ¬ ((i : Int) < i) := by omega
      have tk : (rowsOfStr (leBytes i n0)).take i = rowsOfStr (leBytes i n0) := List.take_of_length_le (by rw [rows_length, leBytes_length]; omega)
      simp only [eval_must', eval_ask', eval_ret', if_true, decide_eq_true_eq, hlt, if_false, Nat.sub_self, List.replicate_zero, List.append_nil, tk, rows_bytes, str_rows]
theorem iFixText_E : EnvSound Try.prog E_iFixText := mkE_sound (by simp [iIn_sound])
theorem iFixText_sound : Sound Try.prog 71 (sg [pI, pI] [rS]) fixSpec := vBody_sound iFixText_E noInl_ok Try.func71 (by kernel_rfl) fun cs outs hk h => by
  unfold fixSpec at h
  split at h
  · simp only [Option.some.injEq, Prod.mk.injEq, Bool.and_eq_true, decide_eq_true_eq] at h
    obtain ⟨⟨h1, h2⟩, rfl⟩ := h
    rename_i n w
    rw [vBody_L, iFixText_tree]
    by_cases hn : n < 0
    · simp [eval_must', eval_ask', eval_ret', hn, fix_bad n w (by omega)]
    · by_cases hw : inB w 1 8 = true
      · have hw' := (in_iff _ _ _).1 hw
        obtain ⟨n, rfl⟩ := Int.eq_ofNat_of_zero_le (show 0 ≤ n by omega)
        obtain ⟨w, rfl⟩ := Int.eq_ofNat_of_zero_le (show 0 ≤ w by omega)
        have lp := iFixText_loop n w (by omega) (by omega) 9223372036854775808 0 (by omega) (by omega)
        have rp : rowsOfStr (leBytes 0 n ++ List.replicate (w - 0) 0) = List.replicate w [C.int .u8 0] := by simp [leBytes, rowsOfStr]
        rw [rp] at lp
        have w2 : IntKind.i64.wrap (8 * (w : Int)) = ((8 * w : Nat) : Int) := by rw [wrap64] <;> omega
        have hz8 : (0 : Int) ≤ ((8 * w : Nat) : Int) := by omega
        have c1 : (0 : Int) ≤ w := by omega
        have c2 : ((1 : Nat) : Int) * (w : Int) ≤ 281474976710656 := by omega
        rw [fix_good n w (by omega) (by omega)]
        simp only [eval_must', eval_ask', eval_ret', if_true, hn, decide_false, Bool.false_eq_true, if_false, hw, Bool.not_true, w2, hz8, decide_true, decide_eq_true_eq, Bool.and_eq_true, c1, c2, Int.le_refl, and_self, Int.toNat_natCast]
        by_cases h8 : (w : Int) < 8
        · have d : ishr .i64 (n : Int) ((8 * w : Nat) : Int) = ((n / 256 ^ w : Nat) : Int) := by rw [ishr64_nat _ _ (by omega), pow256]
          have z : n / 256 ^ w = 0 ↔ n < 256 ^ w := by
            have hp : (256 : Nat) ^ w ≠ 0 := Nat.pos_iff_ne_zero.1 (Nat.pow_pos (by omega))
            rw [Nat.div_eq_zero_iff]
            exact ⟨fun h => h.resolve_left hp, .inr⟩
          simp only [h8, if_true, d, bne_iff_ne, ne_eq, Int.natCast_eq_zero, z]
          by_cases hc : n < 256 ^ w
          · simp only [hc, not_true_eq_false, if_false, if_true]; exact lp
          · simp only [hc, not_false_eq_true, if_true, if_false]
        · have : w = 8 := by omega
          subst this
          have hc : n < 256 ^ 8 := by omega
          simp only [h8, if_false, hc, if_true]
          exact lp
      · have : ¬ (1 ≤ w ∧ w ≤ 8) := fun h => hw ((in_iff _ _ _).2 h)
        simp [eval_must', eval_ask', eval_ret', hn, hw, fix_bad n w (by omega)]
  · cases h
theorem leVal_lt : ∀ l : List UInt8, leVal l < 256 ^ l.length
  | [] => by simp [leVal]
  | c :: t => by
    have := leVal_lt t
    have hc := c.toNat_lt
    simp only [leVal, List.length_cons, Nat.pow_succ]
    omega
theorem leVal_append : ∀ (l : List UInt8) (c : UInt8), leVal (l ++ [c]) = leVal l + c.toNat * 256 ^ l.length
  | [], c => by simp [leVal]
  | x :: t, c => by
    simp only [List.cons_append, leVal, leVal_append t c, List.length_cons, Nat.pow_succ]
    rw [Nat.mul_add, ← Nat.add_assoc, Nat.mul_left_comm, Nat.mul_comm 256 (256 ^ t.length)]
theorem leVal_drop_le : ∀ (j : Nat) (l : List UInt8), leVal (l.drop j) ≤ leVal l
  | 0, l => by simp
  | j + 1, [] => by simp
  | j + 1, c :: t => by
    have := leVal_drop_le j t
    simp only [List.drop_succ_cons, leVal]
    omega
theorem ior_shift (n c k : Nat) (hk : n < 2 ^ k) (h : n + c * 2 ^ k < 18446744073709551616) (x y : Int) (hx : (x % 18446744073709551616).toNat = n) (hy : (y % 18446744073709551616).toNat = c * 2 ^ k) :
    ior .i64 x y = IntKind.i64.wrap ((n + c * 2 ^ k : Nat) : Int) := by
  show IntKind.i64.wrap (((BitVec.ofInt 64 x ||| BitVec.ofInt 64 y).toNat : Nat) : Int) = _
  rw [BitVec.toNat_or]
  have h1 : (BitVec.ofInt 64 x).toNat = n := by rw [← hx]; simp [BitVec.toNat_ofInt]
  have h2 : (BitVec.ofInt 64 y).toNat = c * 2 ^ k := by rw [← hy]; simp [BitVec.toNat_ofInt]
  rw [h1, h2, ← Nat.shiftLeft_eq, Nat.or_comm, ← Nat.shiftLeft_add_eq_or_of_lt hk, Nat.add_comm]
theorem wrap64_mod (x : Int) : IntKind.i64.wrap x % 18446744073709551616 = x % 18446744073709551616 := by
  simp only [IntKind.wrap, IntKind.bits, IntKind.signed]
  first
    | (split <;> omega)
    | (simp; split <;> omega)
theorem ishl64_mod (x : Int) (k : Nat) (hk : k < 64) : ishl .i64 x (k : Int) % 18446744073709551616 = x * 2 ^ k % 18446744073709551616 := by
  show IntKind.i64.wrap (x * 2 ^ (min ((k : Int).toNat) 64)) % 18446744073709551616 = _
  have : min ((k : Int).toNat) 64 = k := by omega
  rw [this, wrap64_mod]

theorem sReadFix_loop (b : List UInt8) (a w : Nat) (hb : a + w ≤ b.length) (hbl : b.length ≤ 281474976710656) (hw : w ≤ 8) (hv : fixVal b a w < 9223372036854775808) : ∀ (n j : Nat), j ≤ w → j < n →
    (vLoop E_sReadFix noInl (sg [pS, pI, pI] [rI, rB]) Try.f84 [.r, .r, .r, .r, .l, .r, .b] n (H_sReadFix b a (leVal (((b.drop a).take w).drop j) : Nat) ((j : Int) - 1))).eval = some [.int .i64 (fixVal b a w : Nat), .bool true] := by
  intro n
  induction n with
  | zero => intro j h1 h2; omega
  | succ n ih =>
    intro j h1 h2
    rw [vLoop_L _ _ _ _ _ _ _ (by kernel_rfl), sReadFix_round0]
    cases j with
    | zero =>
      have : ¬ ((0 : Int) ≤ ((0 : Nat) : Int) - 1) := by omega
      simp only [eval_must', eval_ask', eval_ret', decide_eq_true_eq, this, if_false, if_true]
      simp [fixVal]
    | succ i =>
      have e := ih i (by omega) (by omega)
      have hl : ((b.drop a).take w).length = w := by simp; omega
      have hg : ((b.drop a).take w).getD i 0 = b.getD (a + i) 0 := by
        simp [List.getD_eq_getElem?_getD, List.getElem?_take, List.getElem?_drop, show i < w by omega]
      rw [drop_step _ i (by omega), hg] at e
      have hle : leVal (((b.drop a).take w).drop i) ≤ fixVal b a w := by
        have := leVal_drop_le i ((b.drop a).take w)
        simpa [fixVal] using this
      rw [drop_step _ i (by omega), hg] at hle
      simp only [leVal] at e hle
      generalize leVal (((b.drop a).take w).drop (i + 1)) = y at e hle
      have hc := byte_lt b (a + i)
      have w1 : IntKind.i64.wrap ((((i + 1 : Nat) : Int) - 1) - 1) = (i : Int) - 1 := by rw [wrap64] <;> omega
      have w2 : IntKind.i64.wrap ((a : Int) + (((i + 1 : Nat) : Int) - 1)) = ((a + i : Nat) : Int) := by rw [wrap64] <;> omega
      have w3 : IntKind.i64.wrap ((b.getD (a + i) 0).toNat : Int) = ((b.getD (a + i) 0).toNat : Int) := by rw [wrap64] <;> omega
      have z1 : (0 : Int) ≤ ((i + 1 : Nat) : Int) - 1 := by omega
      have z2 : (0 : Int) ≤ ((a + i : Nat) : Int) := by omega
      have z3 : a + i < b.length := by omega
      have hm := ishl64_mod (y : Int) 8 (by omega)
      rw [show ((8 : Nat) : Int) = 8 from rfl] at hm
      have ho : ior .i64 (ishl .i64 (y : Int) 8) ((b.getD (a + i) 0).toNat : Int) = (((b.getD (a + i) 0).toNat + 256 * y : Nat) : Int) := by
        have := ior_shift (b.getD (a + i) 0).toNat y 8 (by omega) (by omega) ((b.getD (a + i) 0).toNat : Int) (ishl .i64 (y : Int) 8) (by omega) (by rw [hm]; omega)
        rw [wrap64 (by omega) (by omega)] at this
        have hcomm : ior .i64 (ishl .i64 (y : Int) 8) ((b.getD (a + i) 0).toNat : Int) = ior .i64 ((b.getD (a + i) 0).toNat : Int) (ishl .i64 (y : Int) 8) := by
          unfold ior; rw [BitVec.or_comm]
        rw [hcomm, this]
        omega
      simp only [eval_must', eval_ask', eval_ret', decide_eq_true_eq, Bool.and_eq_true, if_true, w1, w2, z1, z2, Int.toNat_natCast, Int.ofNat_lt, z3, w3, ho, and_self]
      exact e
theorem fixVal_top (b : List UInt8) (a : Nat) (hb : a + 8 ≤ b.length) : fixVal b a (8 : Int) = leVal ((b.drop a).take 7) + (b.getD (a + 7) 0).toNat * 72057594037927936 ∧ leVal ((b.drop a).take 7) < 72057594037927936 := by
  have hl : ((b.drop a).take 7).length = 7 := by simp; omega
  have e : (b.drop a).take 8 = (b.drop a).take 7 ++ [b.getD (a + 7) 0] := by
    rw [List.take_add_one]
    simp [List.getElem?_drop, List.getD_eq_getElem?_getD, show a + 7 < b.length by omega]
  have h1 := leVal_append ((b.drop a).take 7) (b.getD (a + 7) 0)
  have h2 := leVal_lt ((b.drop a).take 7)
  rw [hl] at h1 h2
  refine ⟨?_, h2⟩
  show leVal ((b.drop (a : Int).toNat).take (8 : Int).toNat) = _
  rw [Int.toNat_natCast, show (8 : Int).toNat = 8 from rfl, e, h1]
theorem fixVal_small (b : List UInt8) (a w : Nat) (hw : w ≤ 7) : fixVal b a w < 72057594037927936 := by
  have h := leVal_lt ((b.drop a).take w)
  have hl : ((b.drop a).take w).length ≤ w := by simp; omega
  have : 256 ^ ((b.drop a).take w).length ≤ 256 ^ 7 := Nat.pow_le_pow_right (by omega) (by omega)
  show leVal ((b.drop (a : Int).toNat).take (w : Int).toNat) < _
  simp only [Int.toNat_natCast]
  omega
theorem fixOk_iff (b : List UInt8) (a w : Int) : fixOk b a w = true ↔ (1 ≤ w ∧ w ≤ 8 ∧ 0 ≤ a ∧ a ≤ b.length - w ∧ fixVal b a w < 9223372036854775808) := by simp [fixOk]
theorem sReadFix_E : EnvSound Try.prog E_sReadFix := mkE_sound (by simp [sIn_sound])
theorem sReadFix_sound : Sound Try.prog 84 (sg [pS, pI, pI] [rI, rB]) readFixSpec := vBody_sound sReadFix_E noInl_ok Try.func84 (by kernel_rfl) fun cs outs hk h => by
  unfold readFixSpec at h
  split at h
  · simp only [Option.some.injEq, Prod.mk.injEq, Bool.and_eq_true, decide_eq_true_eq] at h
    obtain ⟨⟨h1, h2, h3⟩, rfl⟩ := h
    rename_i b a w
    rw [vBody_L, sReadFix_tree]
    have bad : ¬ (1 ≤ w ∧ w ≤ 8 ∧ 0 ≤ a ∧ a ≤ b.length - w ∧ fixVal b a w < 9223372036854775808) → fixRead b a w = 0 ∧ fixOk b a w = false := fun h => by
      have : fixOk b a w = false := by
        cases hh : fixOk b a w with
        | true => exact absurd ((fixOk_iff b a w).1 hh) h
        | false => rfl
      exact ⟨by unfold fixRead; rw [this]; rfl, this⟩
    by_cases hw : inB w 1 8 = true
    · have hw' := (in_iff _ _ _).1 hw
      have wr : IntKind.i64.wrap ((b.length : Int) - w) = b.length - w := by rw [wrap64] <;> omega
      by_cases ha : inB a 0 ((b.length : Int) - w) = true
      · have ha' := (in_iff _ _ _).1 ha
        obtain ⟨a, rfl⟩ := Int.eq_ofNat_of_zero_le ha'.1
        obtain ⟨w, rfl⟩ := Int.eq_ofNat_of_zero_le (show 0 ≤ w by omega)
        have lp := fun hv => sReadFix_loop b a w (by omega) h1 (by omega) hv 9223372036854775808 w (by omega) (by omega)
        have w1 : IntKind.i64.wrap ((w : Int) - 1) = (w : Int) - 1 := by rw [wrap64] <;> omega
        have dr : ((b.drop a).take w).drop w = [] := by
          apply List.drop_eq_nil_of_le; simp; omega
        rw [dr] at lp
        have good : fixVal b a w < 9223372036854775808 → fixRead b a w = (fixVal b a w : Nat) ∧ fixOk b a w = true := fun h => by
          have : fixOk b a w = true := (fixOk_iff _ _ _).2 ⟨hw'.1, hw'.2, ha'.1, ha'.2, h⟩
          exact ⟨by unfold fixRead; rw [this]; rfl, this⟩
        by_cases h8 : (w : Int) = 8
        · have h8t : ((w : Int) = 8) = True := eq_true h8
          obtain ⟨t1, t2⟩ := fixVal_top b a (by omega)
          rw [← h8] at t1
          have w7 : IntKind.i64.wrap ((a : Int) + 7) = ((a + 7 : Nat) : Int) := by rw [wrap64] <;> omega
          have z1 : (0 : Int) ≤ ((a + 7 : Nat) : Int) := by omega
          have z2 : a + 7 < b.length := by omega
          by_cases hc : (127 : Int) < ((b.getD (a + 7) 0).toNat : Int)
          · obtain ⟨b1, b2⟩ := bad (fun h => by
              have := h.2.2.2.2
              rw [t1] at this
              omega)
            simp only [eval_must', eval_ask', eval_ret', if_true, hw, wr, ha, Bool.not_true, Bool.false_eq_true, if_false, h8t, w7, z1, z2, Bool.and_eq_true, decide_eq_true_eq, Int.toNat_natCast, Int.ofNat_lt, and_self, hc, b1, b2]
          · have hv : fixVal b a w < 9223372036854775808 := by rw [t1]; omega
            obtain ⟨b1, b2⟩ := good hv
            simp only [eval_must', eval_ask', eval_ret', if_true, hw, wr, ha, Bool.not_true, Bool.false_eq_true, if_false, h8t, w7, z1, z2, Bool.and_eq_true, decide_eq_true_eq, Int.toNat_natCast, Int.ofNat_lt, and_self, hc, w1, b1, b2]
            exact lp hv
        · have hv : fixVal b a w < 9223372036854775808 := by have := fixVal_small b a w (by omega); omega
          obtain ⟨b1, b2⟩ := good hv
          simp only [eval_must', eval_ask', eval_ret', if_true, hw, wr, ha, Bool.not_true, Bool.false_eq_true, if_false, h8, decide_false, w1, b1, b2]
          exact lp hv
      · obtain ⟨b1, b2⟩ := bad (fun h => ha ((in_iff _ _ _).2 ⟨h.2.2.1, h.2.2.2.1⟩))
        simp [eval_must', eval_ask', eval_ret', hw, wr, ha, b1, b2]
    · obtain ⟨b1, b2⟩ := bad (fun h => hw ((in_iff _ _ _).2 ⟨h.1, h.2.1⟩))
      simp [eval_must', eval_ask', eval_ret', hw, b1, b2]
  · cases h

theorem iReadFix_loop (b : List UInt8) (a w : Nat) (hb : a + w ≤ b.length) (hbl : b.length ≤ 281474976710656) (hw1 : 1 ≤ w) (hw : w ≤ 8) : ∀ (n i : Nat), i ≤ w → w < i + n →
    (vLoop E_iReadFix noInl (sg [pS, pI, pI] [rI, rB]) Try.f74 [.r, .r, .r, .l, .r, .b] n (H_iReadFix b a (IntKind.i64.wrap (leVal ((b.drop a).take i) : Nat)) w i)).eval = some [.int .i64 (fixRead b a w), .bool (fixOk b a w)] := by
  intro n
  induction n with
  | zero => intro i h1 h2; omega
  | succ n ih =>
    intro i h1 h2
    rw [vLoop_L _ _ _ _ _ _ _ (by kernel_rfl), iReadFix_round0]
    by_cases hi : i < w
    · have e := ih (i + 1) (by omega) (by omega)
      have hl : ((b.drop a).take i).length = i := by simp; omega
      have ee : (b.drop a).take (i + 1) = (b.drop a).take i ++ [b.getD (a + i) 0] := by
        rw [List.take_add_one]
        simp [List.getElem?_drop, List.getD_eq_getElem?_getD, show a + i < b.length by omega]
      rw [ee, leVal_append, hl] at e
      have hlt := leVal_lt ((b.drop a).take i)
      rw [hl] at hlt
      have h7 : 256 ^ i ≤ 256 ^ 7 := Nat.pow_le_pow_right (by omega) (by omega)
      generalize leVal ((b.drop a).take i) = y at e hlt
      have hc := byte_lt b (a + i)
      have w1 : IntKind.i64.wrap ((i : Int) + 1) = ((i + 1 : Nat) : Int) := by rw [wrap64] <;> omega
      have w2 : IntKind.i64.wrap ((a : Int) + i) = ((a + i : Nat) : Int) := by rw [wrap64] <;> omega
      have w3 : IntKind.i64.wrap ((b.getD (a + i) 0).toNat : Int) = ((b.getD (a + i) 0).toNat : Int) := by rw [wrap64] <;> omega
      have w4 : IntKind.i64.wrap (8 * (i : Int)) = ((8 * i : Nat) : Int) := by rw [wrap64] <;> omega
      have w5 : IntKind.i64.wrap (y : Int) = y := by rw [wrap64] <;> omega
      have z1 : (i : Int) < w := by omega
      have z2 : (0 : Int) ≤ ((a + i : Nat) : Int) := by omega
      have z3 : a + i < b.length := by omega
      have z4 : (0 : Int) ≤ ((8 * i : Nat) : Int) := by omega
      have hm := ishl64_mod ((b.getD (a + i) 0).toNat : Int) (8 * i) (by omega)
      have hpow : (b.getD (a + i) 0).toNat * 256 ^ i ≤ 255 * 256 ^ i := Nat.mul_le_mul_right _ (by omega)
      have hp2 : ((b.getD (a + i) 0).toNat : Int) * 2 ^ (8 * i) = (((b.getD (a + i) 0).toNat * 256 ^ i : Nat) : Int) := by
        rw [← pow256]; simp
      rw [hp2] at hm
      have ho := ior_shift y (b.getD (a + i) 0).toNat (8 * i) (by rw [pow256]; exact hlt) (by rw [pow256]; omega) (y : Int) (ishl .i64 ((b.getD (a + i) 0).toNat : Int) ((8 * i : Nat) : Int)) (by omega) (by rw [hm, pow256]; omega)
      rw [pow256] at ho
      simp only [eval_must', eval_ask', eval_ret', decide_eq_true_eq, Bool.and_eq_true, if_true, w1, w2, w3, w4, w5, z1, z2, Int.toNat_natCast, Int.ofNat_lt, z3, z4, ho, and_self, hi]
      exact e
    · have hiw : i = w := by omega
      subst hiw
      have hlt : ¬ ((i : Int) < i) := by omega
      have hfv : fixVal b a i = leVal ((b.drop a).take i) := by simp [fixVal]
      have hl : ((b.drop a).take i).length = i := by simp; omega
      have hb8 := leVal_lt ((b.drop a).take i)
      rw [hl] at hb8
      have h8 : 256 ^ i ≤ 256 ^ 8 := Nat.pow_le_pow_right (by omega) (by omega)
      rw [← hfv] at hb8 ⊢
      simp only [eval_must', eval_ask', eval_ret', decide_eq_true_eq, if_true, hlt, if_false]
      by_cases hv : fixVal b a i < 9223372036854775808
      · have hok : fixOk b a i = true := (fixOk_iff _ _ _).2 ⟨by omega, by omega, by omega, by omega, hv⟩
        have w5 : IntKind.i64.wrap ((fixVal b a i : Nat) : Int) = (fixVal b a i : Nat) := by rw [wrap64] <;> omega
        have hn : ¬ (((fixVal b a i : Nat) : Int) < 0) := by omega
        simp only [w5, hn, if_false, fixRead, hok, if_true]
      · have hok : fixOk b a i = false := by
          cases hh : fixOk b a i with
          | true => exact absurd ((fixOk_iff _ _ _).1 hh).2.2.2.2 hv
          | false => rfl
        have hr := wrap64_range ((fixVal b a i : Nat) : Int)
        have hm := wrap64_mod ((fixVal b a i : Nat) : Int)
        have hn : IntKind.i64.wrap ((fixVal b a i : Nat) : Int) < 0 := by omega
        simp only [hn, if_true, fixRead, hok, Bool.false_eq_true, if_false]
theorem iReadFix_E : EnvSound Try.prog E_iReadFix := mkE_sound (by simp [iIn_sound])
theorem iReadFix_sound : Sound Try.prog 74 (sg [pS, pI, pI] [rI, rB]) readFixSpec := vBody_sound iReadFix_E noInl_ok Try.func74 (by kernel_rfl) fun cs outs hk h => by
  unfold readFixSpec at h
  split at h
  · simp only [Option.some.injEq, Prod.mk.injEq, Bool.and_eq_true, decide_eq_true_eq] at h
    obtain ⟨⟨h1, h2, h3⟩, rfl⟩ := h
    rename_i b a w
    rw [vBody_L, iReadFix_tree]
    have bad : ¬ (1 ≤ w ∧ w ≤ 8 ∧ 0 ≤ a ∧ a ≤ b.length - w ∧ fixVal b a w < 9223372036854775808) → fixRead b a w = 0 ∧ fixOk b a w = false := fun h => by
      have : fixOk b a w = false := by
        cases hh : fixOk b a w with
        | true => exact absurd ((fixOk_iff b a w).1 hh) h
        | false => rfl
      exact ⟨by unfold fixRead; rw [this]; rfl, this⟩
    by_cases hw : inB w 1 8 = true
    · have hw' := (in_iff _ _ _).1 hw
      have wr : IntKind.i64.wrap ((b.length : Int) - w) = b.length - w := by rw [wrap64] <;> omega
      by_cases ha : inB a 0 ((b.length : Int) - w) = true
      · have ha' := (in_iff _ _ _).1 ha
        obtain ⟨a, rfl⟩ := Int.eq_ofNat_of_zero_le ha'.1
        obtain ⟨w, rfl⟩ := Int.eq_ofNat_of_zero_le (show 0 ≤ w by omega)
        have lp := iReadFix_loop b a w (by omega) h1 (by omega) (by omega) 9223372036854775808 0 (by omega) (by omega)
        simp only [eval_must', eval_ask', eval_ret', if_true, hw, wr, ha, Bool.not_true, Bool.false_eq_true, if_false]
        exact lp
      · obtain ⟨b1, b2⟩ := bad (fun h => ha ((in_iff _ _ _).2 ⟨h.2.2.1, h.2.2.2.1⟩))
        simp [eval_must', eval_ask', eval_ret', hw, wr, ha, b1, b2]
    · obtain ⟨b1, b2⟩ := bad (fun h => hw ((in_iff _ _ _).2 ⟨h.1, h.2.1⟩))
      simp [eval_must', eval_ask', eval_ret', hw, b1, b2]
  · cases h

end Go.Proofs.Ythpcgbnochcbcaa.V

namespace Go.Proofs.Ythpcgbnochcbcaa.V
noncomputable section

def headOk (v s b l : Int) : Bool := inB v 1 2 && inB s 1 20 && inB b 0 1000000000 && inB l 0 4294967295
def pHead : PTy := .val true [.int .i64, .int .i64, .int .i64, .int .i64]
def rHead : RTy := ⟨true, [(.int .i64, false), (.int .i64, false), (.int .i64, false), (.int .i64, false)]⟩
def headOkSpec : Spec := fun cs => match cs with
  | [.int .i64 v, .int .i64 s, .int .i64 b, .int .i64 l] => some (true, [.bool (headOk v s b l)])
  | _ => none
/-- a head's bytes ahead of the sum -/
def headPre (v s b l : Int) : List UInt8 := [83, 69, 71, 77] ++ fixOf v 1 ++ fixOf s 1 ++ [0, 0] ++ fixOf b 8 ++ fixOf l 4
def headText (v s b l : Int) : List UInt8 := if headOk v s b l then headPre v s b l ++ fixOf (crcMore 0 (headPre v s b l) : Nat) 4 else []
def headTextSpec : Spec := fun cs => match cs with
  | [.int .i64 v, .int .i64 s, .int .i64 b, .int .i64 l] => some (true, [.str (headText v s b l)])
  | _ => none
def E_sHeadOk : Env := mkE [] [(80, (sg [pI, pI, pI] [rB]), inSpec)]
def E_iHeadOk : Env := mkE [] [(79, (sg [pI, pI, pI] [rB]), inSpec), (66, (sg [pI] [rB]), isVersionSpec), (67, (sg [pI] [rB]), isNumberSpec)]
def E_sHeadText : Env := mkE [] [(78, (sg [pS] [rI]), sumOfSpec), (77, (sg [pI, pI] [rS]), fixSpec), (37, (sg [pHead] [rB]), headOkSpec)]
def E_iHeadText : Env := mkE [] [(72, (sg [pS] [rI]), sumOfSpec), (71, (sg [pI, pI] [rS]), fixSpec), (36, (sg [pHead] [rB]), headOkSpec)]

/-- what a text's first bytes say of a head -/
def rhV (b : List UInt8) : Int := (b.getD 4 0).toNat
def rhS (b : List UInt8) : Int := (b.getD 5 0).toNat
def rhB (b : List UInt8) : Int := fixRead b 8 8
def rhL (b : List UInt8) : Int := fixRead b 16 4
def readHeadOk (b : List UInt8) : Bool := decide (24 ≤ b.length) && fixOk b 8 8 && decide (headText (rhV b) (rhS b) (rhB b) (rhL b) = b.take 24)
def ifI (c : Bool) (x : Int) : Int := if c then x else 0
def readHeadSpec : Spec := fun cs => match cs with
  | [.str b] => some (decide (b.length ≤ 281474976710656), [.int .i64 (ifI (readHeadOk b) (rhV b)), .int .i64 (ifI (readHeadOk b) (rhS b)), .int .i64 (ifI (readHeadOk b) (rhB b)), .int .i64 (ifI (readHeadOk b) (rhL b)), .bool (readHeadOk b)])
  | _ => none
def E_sReadHead : Env := mkE [] [(84, (sg [pS, pI, pI] [rI, rB]), readFixSpec), (35, (sg [pHead] [rS]), headTextSpec)]
def E_iReadHead : Env := mkE [] [(74, (sg [pS, pI, pI] [rI, rB]), readFixSpec), (34, (sg [pHead] [rS]), headTextSpec)]

def meets (a b x y : Int) : Bool := decide (imax a x < imin b y)
def meetsSpec : Spec := fun cs => match cs with
  | [.int .i64 a, .int .i64 b, .int .i64 x, .int .i64 y] => some (true, [.bool (meets a b x y)])
  | _ => none
def E_iMeets : Env := mkE [] []

def headHit (b : List UInt8) (x y : Int) : Bool := readHeadOk b && meets 0 24 x y
def headHitSpec : Spec := fun cs => match cs with
  | [.str b, .int .i64 x, .int .i64 y] => some (decide (b.length ≤ 281474976710656), [.bool (headHit b x y)])
  | _ => none
def E_sHeadHit : Env := mkE [] [(40, (sg [pS] [rHead, rB]), readHeadSpec)]
def E_iHeadHit : Env := mkE [] [(39, (sg [pS] [rHead, rB]), readHeadSpec), (85, (sg [pI, pI, pI, pI] [rB]), meetsSpec)]

end
end Go.Proofs.Ythpcgbnochcbcaa.V

namespace Go.Proofs.Ythpcgbnochcbcaa.V
set_option maxRecDepth 100000
theorem sHeadOk_tree (H : List Pt → Nat → St → T (List C)) (v : Int) (s : Int) (b : Int) (l : Int) : vBodyL E_sHeadOk noInl (sg [pHead] [rB]) Try.f37 H
  [C.int IntKind.i64 v, C.int IntKind.i64 s, C.int IntKind.i64 b, C.int IntKind.i64 l] =
 (.must true
 (.must true
  (.must true
   (.must true
    (.ask (inB v (1 : Int) (2 : Int))
     (.must true
      (.must true
       (.must true
        (.ask (inB s (1 : Int) (20 : Int))
         (.must true
          (.must true
           (.must true
            (.ask (inB b (0 : Int) (1000000000 : Int))
             (.must true
              (.must true
               (.must true
                (.ask (inB l (0 : Int) (4294967295 : Int))
                 (.must true
                  (.ret [C.bool true]))
                 (.must true
                  (.ret [C.bool false]))))))
             (.must true
              (.ret [C.bool false]))))))
         (.must true
          (.ret [C.bool false]))))))
     (.must true
      (.ret [C.bool false]))))))) := by kernel_rfl
theorem iHeadOk_tree (H : List Pt → Nat → St → T (List C)) (v : Int) (s : Int) (b : Int) (l : Int) : vBodyL E_iHeadOk noInl (sg [pHead] [rB]) Try.f36 H
  [C.int IntKind.i64 v, C.int IntKind.i64 s, C.int IntKind.i64 b, C.int IntKind.i64 l] =
 (.must true
 (.must true
  (.must true
   (.must true
    (.ask (inB v (1 : Int) (2 : Int))
     (.must true
      (.must true
       (.must true
        (.ask (inB s (1 : Int) (20 : Int))
         (.must true
          (.must true
           (.must true
            (.ask (inB b (0 : Int) (1000000000 : Int))
             (.must true
              (.must true
               (.must true
                (.ask (inB l (0 : Int) (4294967295 : Int))
                 (.must true
                  (.ret [C.bool true]))
                 (.must true
                  (.ret [C.bool false]))))))
             (.must true
              (.ret [C.bool false]))))))
         (.must true
          (.ret [C.bool false]))))))
     (.must true
      (.ret [C.bool false]))))))) := by kernel_rfl
theorem sHeadText_tree (H : List Pt → Nat → St → T (List C)) (v : Int) (s : Int) (b : Int) (l : Int) : vBodyL E_sHeadText noInl (sg [pHead] [rS]) Try.f35 H
  [C.int IntKind.i64 v, C.int IntKind.i64 s, C.int IntKind.i64 b, C.int IntKind.i64 l] =
 (.must true
 (.must true
  (.must true
   (.must true
    (.ask (headOk v s b l)
     (.must true
      (.must (decide ((-9223372036854775808 : Int) ≤ v) && decide (v ≤ (9223372036854775807 : Int)))
       (.must true
        (.must (decide ((4 : Nat) + (fixOf v (1 : Int)).length ≤ (9223372036854775807 : Nat)))
         (.must true
          (.must (decide ((-9223372036854775808 : Int) ≤ s) && decide (s ≤ (9223372036854775807 : Int)))
           (.must true
            (.must (decide
  (([(83 : UInt8), (69 : UInt8), (71 : UInt8), (77 : UInt8)] ++ fixOf v (1 : Int)).length + (fixOf s (1 : Int)).length ≤
    (9223372036854775807 : Nat)))
             (.must (decide
  (([(83 : UInt8), (69 : UInt8), (71 : UInt8), (77 : UInt8)] ++ fixOf v (1 : Int) ++ fixOf s (1 : Int)).length +
      (2 : Nat) ≤
    (9223372036854775807 : Nat)))
              (.must true
               (.must (decide ((-9223372036854775808 : Int) ≤ b) && decide (b ≤ (9223372036854775807 : Int)))
                (.must true
                 (.must (decide
  (([(83 : UInt8), (69 : UInt8), (71 : UInt8), (77 : UInt8)] ++ fixOf v (1 : Int) ++ fixOf s (1 : Int) ++
          [(0 : UInt8), (0 : UInt8)]).length +
      (fixOf b (8 : Int)).length ≤
    (9223372036854775807 : Nat)))
                  (.must true
                   (.must (decide ((-9223372036854775808 : Int) ≤ l) && decide (l ≤ (9223372036854775807 : Int)))
                    (.must true
                     (.must (decide
  (([(83 : UInt8), (69 : UInt8), (71 : UInt8), (77 : UInt8)] ++ fixOf v (1 : Int) ++ fixOf s (1 : Int) ++
            [(0 : UInt8), (0 : UInt8)] ++
          fixOf b (8 : Int)).length +
      (fixOf l (4 : Int)).length ≤
    (9223372036854775807 : Nat)))
                      (.must true
                       (.must (decide
  (([(83 : UInt8), (69 : UInt8), (71 : UInt8), (77 : UInt8)] ++ fixOf v (1 : Int) ++ fixOf s (1 : Int) ++
            [(0 : UInt8), (0 : UInt8)] ++
          fixOf b (8 : Int) ++
        fixOf l (4 : Int)).length ≤
    (281474976710656 : Nat)))
                        (.must true
                         (.must true
                          (.must (decide
    ((-9223372036854775808 : Int) ≤
      Int.ofNat
        (crcMore (0 : Nat)
          ([(83 : UInt8), (69 : UInt8), (71 : UInt8), (77 : UInt8)] ++ fixOf v (1 : Int) ++ fixOf s (1 : Int) ++
                [(0 : UInt8), (0 : UInt8)] ++
              fixOf b (8 : Int) ++
            fixOf l (4 : Int)))) &&
  decide
    (Int.ofNat
        (crcMore (0 : Nat)
          ([(83 : UInt8), (69 : UInt8), (71 : UInt8), (77 : UInt8)] ++ fixOf v (1 : Int) ++ fixOf s (1 : Int) ++
                [(0 : UInt8), (0 : UInt8)] ++
              fixOf b (8 : Int) ++
            fixOf l (4 : Int))) ≤
      (9223372036854775807 : Int)))
                           (.must true
                            (.must (decide
  (([(83 : UInt8), (69 : UInt8), (71 : UInt8), (77 : UInt8)] ++ fixOf v (1 : Int) ++ fixOf s (1 : Int) ++
              [(0 : UInt8), (0 : UInt8)] ++
            fixOf b (8 : Int) ++
          fixOf l (4 : Int)).length +
      (fixOf
          (Int.ofNat
            (crcMore (0 : Nat)
              ([(83 : UInt8), (69 : UInt8), (71 : UInt8), (77 : UInt8)] ++ fixOf v (1 : Int) ++ fixOf s (1 : Int) ++
                    [(0 : UInt8), (0 : UInt8)] ++
                  fixOf b (8 : Int) ++
                fixOf l (4 : Int))))
          (4 : Int)).length ≤
    (9223372036854775807 : Nat)))
                             (.must true
                              (.ret [C.str
    ([(83 : UInt8), (69 : UInt8), (71 : UInt8), (77 : UInt8)] ++ fixOf v (1 : Int) ++ fixOf s (1 : Int) ++
            [(0 : UInt8), (0 : UInt8)] ++
          fixOf b (8 : Int) ++
        fixOf l (4 : Int) ++
      fixOf
        (Int.ofNat
          (crcMore (0 : Nat)
            ([(83 : UInt8), (69 : UInt8), (71 : UInt8), (77 : UInt8)] ++ fixOf v (1 : Int) ++ fixOf s (1 : Int) ++
                  [(0 : UInt8), (0 : UInt8)] ++
                fixOf b (8 : Int) ++
              fixOf l (4 : Int))))
        (4 : Int))]))))))))))))))))))))))))))
     (.must true
      (.ret [C.str []]))))))) := by kernel_rfl
theorem iHeadText_tree (H : List Pt → Nat → St → T (List C)) (v : Int) (s : Int) (b : Int) (l : Int) : vBodyL E_iHeadText noInl (sg [pHead] [rS]) Try.f34 H
  [C.int IntKind.i64 v, C.int IntKind.i64 s, C.int IntKind.i64 b, C.int IntKind.i64 l] =
 (.must true
 (.must true
  (.must true
   (.must true
    (.ask (headOk v s b l)
     (.must true
      (.must (decide ((-9223372036854775808 : Int) ≤ v) && decide (v ≤ (9223372036854775807 : Int)))
       (.must true
        (.must (decide ((4 : Nat) + (fixOf v (1 : Int)).length ≤ (9223372036854775807 : Nat)))
         (.must true
          (.must (decide ((-9223372036854775808 : Int) ≤ s) && decide (s ≤ (9223372036854775807 : Int)))
           (.must true
            (.must (decide
  (([(83 : UInt8), (69 : UInt8), (71 : UInt8), (77 : UInt8)] ++ fixOf v (1 : Int)).length + (fixOf s (1 : Int)).length ≤
    (9223372036854775807 : Nat)))
             (.must true
              (.must true
               (.must true
                (.must (decide
  (([(83 : UInt8), (69 : UInt8), (71 : UInt8), (77 : UInt8)] ++ fixOf v (1 : Int) ++ fixOf s (1 : Int)).length +
      ((1 : Nat) + (1 : Nat)) ≤
    (9223372036854775807 : Nat)))
                 (.must true
                  (.must (decide ((-9223372036854775808 : Int) ≤ b) && decide (b ≤ (9223372036854775807 : Int)))
                   (.must true
                    (.must (decide
  (([(83 : UInt8), (69 : UInt8), (71 : UInt8), (77 : UInt8)] ++ fixOf v (1 : Int) ++ fixOf s (1 : Int) ++
          fixOf (0 : Int) (2 : Int)).length +
      (fixOf b (8 : Int)).length ≤
    (9223372036854775807 : Nat)))
                     (.must true
                      (.must (decide ((-9223372036854775808 : Int) ≤ l) && decide (l ≤ (9223372036854775807 : Int)))
                       (.must true
                        (.must (decide
  (([(83 : UInt8), (69 : UInt8), (71 : UInt8), (77 : UInt8)] ++ fixOf v (1 : Int) ++ fixOf s (1 : Int) ++
            fixOf (0 : Int) (2 : Int) ++
          fixOf b (8 : Int)).length +
      (fixOf l (4 : Int)).length ≤
    (9223372036854775807 : Nat)))
                         (.must true
                          (.must (decide
  (([(83 : UInt8), (69 : UInt8), (71 : UInt8), (77 : UInt8)] ++ fixOf v (1 : Int) ++ fixOf s (1 : Int) ++
            fixOf (0 : Int) (2 : Int) ++
          fixOf b (8 : Int) ++
        fixOf l (4 : Int)).length ≤
    (281474976710656 : Nat)))
                           (.must true
                            (.must true
                             (.must (decide
    ((-9223372036854775808 : Int) ≤
      Int.ofNat
        (crcMore (0 : Nat)
          ([(83 : UInt8), (69 : UInt8), (71 : UInt8), (77 : UInt8)] ++ fixOf v (1 : Int) ++ fixOf s (1 : Int) ++
                fixOf (0 : Int) (2 : Int) ++
              fixOf b (8 : Int) ++
            fixOf l (4 : Int)))) &&
  decide
    (Int.ofNat
        (crcMore (0 : Nat)
          ([(83 : UInt8), (69 : UInt8), (71 : UInt8), (77 : UInt8)] ++ fixOf v (1 : Int) ++ fixOf s (1 : Int) ++
                fixOf (0 : Int) (2 : Int) ++
              fixOf b (8 : Int) ++
            fixOf l (4 : Int))) ≤
      (9223372036854775807 : Int)))
                              (.must true
                               (.must (decide
  (([(83 : UInt8), (69 : UInt8), (71 : UInt8), (77 : UInt8)] ++ fixOf v (1 : Int) ++ fixOf s (1 : Int) ++
              fixOf (0 : Int) (2 : Int) ++
            fixOf b (8 : Int) ++
          fixOf l (4 : Int)).length +
      (fixOf
          (Int.ofNat
            (crcMore (0 : Nat)
              ([(83 : UInt8), (69 : UInt8), (71 : UInt8), (77 : UInt8)] ++ fixOf v (1 : Int) ++ fixOf s (1 : Int) ++
                    fixOf (0 : Int) (2 : Int) ++
                  fixOf b (8 : Int) ++
                fixOf l (4 : Int))))
          (4 : Int)).length ≤
    (9223372036854775807 : Nat)))
                                (.must true
                                 (.ret [C.str
    ([(83 : UInt8), (69 : UInt8), (71 : UInt8), (77 : UInt8)] ++ fixOf v (1 : Int) ++ fixOf s (1 : Int) ++
            fixOf (0 : Int) (2 : Int) ++
          fixOf b (8 : Int) ++
        fixOf l (4 : Int) ++
      fixOf
        (Int.ofNat
          (crcMore (0 : Nat)
            ([(83 : UInt8), (69 : UInt8), (71 : UInt8), (77 : UInt8)] ++ fixOf v (1 : Int) ++ fixOf s (1 : Int) ++
                  fixOf (0 : Int) (2 : Int) ++
                fixOf b (8 : Int) ++
              fixOf l (4 : Int))))
        (4 : Int))])))))))))))))))))))))))))))))
     (.must true
      (.ret [C.str []]))))))) := by kernel_rfl
theorem sReadHead_tree (H : List Pt → Nat → St → T (List C)) (b : List UInt8) : vBodyL E_sReadHead noInl (sg [pS] [rHead, rB]) Try.f40 H [C.str b] =
 (.must true
 (.ask (decide ((↑b.length : Int) < (24 : Int)))
  (.must true
   (.ret [C.int IntKind.i64 (0 : Int), C.int IntKind.i64 (0 : Int), C.int IntKind.i64 (0 : Int), C.int IntKind.i64 (0 : Int),
  C.bool false]))
  (.must true
   (.must (decide (b.length ≤ (281474976710656 : Nat)) &&
  (decide ((-9223372036854775808 : Int) ≤ (8 : Int)) && decide ((8 : Int) ≤ (9223372036854775807 : Int))))
    (.must true
     (.ask (fixOk b (8 : Int) (8 : Int))
      (.must true
       (.must (decide (b.length ≤ (281474976710656 : Nat)) &&
  (decide ((-9223372036854775808 : Int) ≤ (16 : Int)) && decide ((16 : Int) ≤ (9223372036854775807 : Int))))
        (.must true
         (.ask (fixOk b (16 : Int) (4 : Int))
          (.must (decide ((0 : Int) ≤ (4 : Int)) && decide ((4 : Int) < (↑b.length : Int)))
           (.must (decide ((0 : Int) ≤ (5 : Int)) && decide ((5 : Int) < (↑b.length : Int)))
            (.must true
             (.must true
              (.must true
               (.must (decide ((0 : Int) ≤ (24 : Int)) && decide ((24 : Int) ≤ (↑b.length : Int)))
                (.ask (!headText (IntKind.i64.wrap (↑(b.getD (Int.toNat (4 : Int)) (0 : UInt8)).toNat : Int))
      (IntKind.i64.wrap (↑(b.getD (Int.toNat (5 : Int)) (0 : UInt8)).toNat : Int)) (fixRead b (8 : Int) (8 : Int))
      (fixRead b (16 : Int) (4 : Int)) ==
    List.drop (0 : Nat) (List.take (Int.toNat (24 : Int)) b))
                 (.must true
                  (.ret [C.int IntKind.i64 (0 : Int), C.int IntKind.i64 (0 : Int), C.int IntKind.i64 (0 : Int), C.int IntKind.i64 (0 : Int),
  C.bool false]))
                 (.must true
                  (.ret [C.int IntKind.i64 (IntKind.i64.wrap (↑(b.getD (Int.toNat (4 : Int)) (0 : UInt8)).toNat : Int)),
  C.int IntKind.i64 (IntKind.i64.wrap (↑(b.getD (Int.toNat (5 : Int)) (0 : UInt8)).toNat : Int)),
  C.int IntKind.i64 (fixRead b (8 : Int) (8 : Int)), C.int IntKind.i64 (fixRead b (16 : Int) (4 : Int)), C.bool true])))))))))
          (.must (decide ((0 : Int) ≤ (4 : Int)) && decide ((4 : Int) < (↑b.length : Int)))
           (.must (decide ((0 : Int) ≤ (5 : Int)) && decide ((5 : Int) < (↑b.length : Int)))
            (.must true
             (.must true
              (.must true
               (.must (decide ((0 : Int) ≤ (24 : Int)) && decide ((24 : Int) ≤ (↑b.length : Int)))
                (.ask (!headText (IntKind.i64.wrap (↑(b.getD (Int.toNat (4 : Int)) (0 : UInt8)).toNat : Int))
      (IntKind.i64.wrap (↑(b.getD (Int.toNat (5 : Int)) (0 : UInt8)).toNat : Int)) (fixRead b (8 : Int) (8 : Int))
      (fixRead b (16 : Int) (4 : Int)) ==
    List.drop (0 : Nat) (List.take (Int.toNat (24 : Int)) b))
                 (.must true
                  (.ret [C.int IntKind.i64 (0 : Int), C.int IntKind.i64 (0 : Int), C.int IntKind.i64 (0 : Int), C.int IntKind.i64 (0 : Int),
  C.bool false]))
                 (.must true
                  (.ret [C.int IntKind.i64 (IntKind.i64.wrap (↑(b.getD (Int.toNat (4 : Int)) (0 : UInt8)).toNat : Int)),
  C.int IntKind.i64 (IntKind.i64.wrap (↑(b.getD (Int.toNat (5 : Int)) (0 : UInt8)).toNat : Int)),
  C.int IntKind.i64 (fixRead b (8 : Int) (8 : Int)), C.int IntKind.i64 (fixRead b (16 : Int) (4 : Int)), C.bool true])))))))))))))
      (.must true
       (.must (decide (b.length ≤ (281474976710656 : Nat)) &&
  (decide ((-9223372036854775808 : Int) ≤ (16 : Int)) && decide ((16 : Int) ≤ (9223372036854775807 : Int))))
        (.must true
         (.ask (fixOk b (16 : Int) (4 : Int))
          (.must (decide ((0 : Int) ≤ (4 : Int)) && decide ((4 : Int) < (↑b.length : Int)))
           (.must (decide ((0 : Int) ≤ (5 : Int)) && decide ((5 : Int) < (↑b.length : Int)))
            (.must true
             (.ret [C.int IntKind.i64 (0 : Int), C.int IntKind.i64 (0 : Int), C.int IntKind.i64 (0 : Int), C.int IntKind.i64 (0 : Int),
  C.bool false]))))
          (.must (decide ((0 : Int) ≤ (4 : Int)) && decide ((4 : Int) < (↑b.length : Int)))
           (.must (decide ((0 : Int) ≤ (5 : Int)) && decide ((5 : Int) < (↑b.length : Int)))
            (.must true
             (.ret [C.int IntKind.i64 (0 : Int), C.int IntKind.i64 (0 : Int), C.int IntKind.i64 (0 : Int), C.int IntKind.i64 (0 : Int),
  C.bool false])))))))))))))) := by kernel_rfl
theorem iReadHead_tree (H : List Pt → Nat → St → T (List C)) (b : List UInt8) : vBodyL E_iReadHead noInl (sg [pS] [rHead, rB]) Try.f39 H [C.str b] =
 (.must true
 (.ask (decide ((↑b.length : Int) < (24 : Int)))
  (.must true
   (.ret [C.int IntKind.i64 (0 : Int), C.int IntKind.i64 (0 : Int), C.int IntKind.i64 (0 : Int), C.int IntKind.i64 (0 : Int),
  C.bool false]))
  (.must true
   (.must (decide (b.length ≤ (281474976710656 : Nat)) &&
  (decide ((-9223372036854775808 : Int) ≤ (8 : Int)) && decide ((8 : Int) ≤ (9223372036854775807 : Int))))
    (.must true
     (.ask (fixOk b (8 : Int) (8 : Int))
      (.must true
       (.must (decide (b.length ≤ (281474976710656 : Nat)) &&
  (decide ((-9223372036854775808 : Int) ≤ (16 : Int)) && decide ((16 : Int) ≤ (9223372036854775807 : Int))))
        (.must true
         (.ask (fixOk b (16 : Int) (4 : Int))
          (.must (decide ((0 : Int) ≤ (4 : Int)) && decide ((4 : Int) < (↑b.length : Int)))
           (.must (decide ((0 : Int) ≤ (5 : Int)) && decide ((5 : Int) < (↑b.length : Int)))
            (.must true
             (.must true
              (.must true
               (.must (decide ((0 : Int) ≤ (24 : Int)) && decide ((24 : Int) ≤ (↑b.length : Int)))
                (.ask (!headText (IntKind.i64.wrap (↑(b.getD (Int.toNat (4 : Int)) (0 : UInt8)).toNat : Int))
      (IntKind.i64.wrap (↑(b.getD (Int.toNat (5 : Int)) (0 : UInt8)).toNat : Int)) (fixRead b (8 : Int) (8 : Int))
      (fixRead b (16 : Int) (4 : Int)) ==
    List.drop (0 : Nat) (List.take (Int.toNat (24 : Int)) b))
                 (.must true
                  (.ret [C.int IntKind.i64 (0 : Int), C.int IntKind.i64 (0 : Int), C.int IntKind.i64 (0 : Int), C.int IntKind.i64 (0 : Int),
  C.bool false]))
                 (.must true
                  (.ret [C.int IntKind.i64 (IntKind.i64.wrap (↑(b.getD (Int.toNat (4 : Int)) (0 : UInt8)).toNat : Int)),
  C.int IntKind.i64 (IntKind.i64.wrap (↑(b.getD (Int.toNat (5 : Int)) (0 : UInt8)).toNat : Int)),
  C.int IntKind.i64 (fixRead b (8 : Int) (8 : Int)), C.int IntKind.i64 (fixRead b (16 : Int) (4 : Int)), C.bool true])))))))))
          (.must (decide ((0 : Int) ≤ (4 : Int)) && decide ((4 : Int) < (↑b.length : Int)))
           (.must (decide ((0 : Int) ≤ (5 : Int)) && decide ((5 : Int) < (↑b.length : Int)))
            (.must true
             (.must true
              (.must true
               (.must (decide ((0 : Int) ≤ (24 : Int)) && decide ((24 : Int) ≤ (↑b.length : Int)))
                (.ask (!headText (IntKind.i64.wrap (↑(b.getD (Int.toNat (4 : Int)) (0 : UInt8)).toNat : Int))
      (IntKind.i64.wrap (↑(b.getD (Int.toNat (5 : Int)) (0 : UInt8)).toNat : Int)) (fixRead b (8 : Int) (8 : Int))
      (fixRead b (16 : Int) (4 : Int)) ==
    List.drop (0 : Nat) (List.take (Int.toNat (24 : Int)) b))
                 (.must true
                  (.ret [C.int IntKind.i64 (0 : Int), C.int IntKind.i64 (0 : Int), C.int IntKind.i64 (0 : Int), C.int IntKind.i64 (0 : Int),
  C.bool false]))
                 (.must true
                  (.ret [C.int IntKind.i64 (IntKind.i64.wrap (↑(b.getD (Int.toNat (4 : Int)) (0 : UInt8)).toNat : Int)),
  C.int IntKind.i64 (IntKind.i64.wrap (↑(b.getD (Int.toNat (5 : Int)) (0 : UInt8)).toNat : Int)),
  C.int IntKind.i64 (fixRead b (8 : Int) (8 : Int)), C.int IntKind.i64 (fixRead b (16 : Int) (4 : Int)), C.bool true])))))))))))))
      (.must true
       (.must (decide (b.length ≤ (281474976710656 : Nat)) &&
  (decide ((-9223372036854775808 : Int) ≤ (16 : Int)) && decide ((16 : Int) ≤ (9223372036854775807 : Int))))
        (.must true
         (.ask (fixOk b (16 : Int) (4 : Int))
          (.must (decide ((0 : Int) ≤ (4 : Int)) && decide ((4 : Int) < (↑b.length : Int)))
           (.must (decide ((0 : Int) ≤ (5 : Int)) && decide ((5 : Int) < (↑b.length : Int)))
            (.must true
             (.ret [C.int IntKind.i64 (0 : Int), C.int IntKind.i64 (0 : Int), C.int IntKind.i64 (0 : Int), C.int IntKind.i64 (0 : Int),
  C.bool false]))))
          (.must (decide ((0 : Int) ≤ (4 : Int)) && decide ((4 : Int) < (↑b.length : Int)))
           (.must (decide ((0 : Int) ≤ (5 : Int)) && decide ((5 : Int) < (↑b.length : Int)))
            (.must true
             (.ret [C.int IntKind.i64 (0 : Int), C.int IntKind.i64 (0 : Int), C.int IntKind.i64 (0 : Int), C.int IntKind.i64 (0 : Int),
  C.bool false])))))))))))))) := by kernel_rfl
theorem iMeets_tree (H : List Pt → Nat → St → T (List C)) (a : Int) (b : Int) (x : Int) (y : Int) : vBodyL E_iMeets noInl (sg [pI, pI, pI, pI] [rB]) Try.f85 H
  [C.int IntKind.i64 a, C.int IntKind.i64 b, C.int IntKind.i64 x, C.int IntKind.i64 y] =
 (.must true
 (.ask (decide (imax a x < imin b y))
  (.must true
   (.ret [C.bool true]))
  (.must true
   (.ret [C.bool false])))) := by kernel_rfl
theorem sHeadHit_tree (H : List Pt → Nat → St → T (List C)) (b : List UInt8) (x : Int) (y : Int) : vBodyL E_sHeadHit noInl (sg [pS, pI, pI] [rB]) Try.f43 H [C.str b, C.int IntKind.i64 x, C.int IntKind.i64 y] =
 (.must true
 (.must true
  (.must (decide (b.length ≤ (281474976710656 : Nat)))
   (.must true
    (.ask (readHeadOk b)
     (.ask (decide (x < (24 : Int)))
      (.ask (decide ((0 : Int) < y))
       (.ask (decide (x < y))
        (.must true
         (.ret [C.bool true]))
        (.must true
         (.ret [C.bool false])))
       (.must true
        (.ret [C.bool false])))
      (.must true
       (.ret [C.bool false])))
     (.must true
      (.ret [C.bool false]))))))) := by kernel_rfl
theorem iHeadHit_tree (H : List Pt → Nat → St → T (List C)) (b : List UInt8) (x : Int) (y : Int) : vBodyL E_iHeadHit noInl (sg [pS, pI, pI] [rB]) Try.f42 H [C.str b, C.int IntKind.i64 x, C.int IntKind.i64 y] =
 (.must true
 (.must true
  (.must (decide (b.length ≤ (281474976710656 : Nat)))
   (.must true
    (.ask (readHeadOk b)
     (.must true
      (.must true
       (.must true
        (.ask (meets (0 : Int) (24 : Int) x y)
         (.must true
          (.ret [C.bool true]))
         (.must true
          (.ret [C.bool false]))))))
     (.must true
      (.ret [C.bool false]))))))) := by kernel_rfl
end Go.Proofs.Ythpcgbnochcbcaa.V

namespace Go.Proofs.Ythpcgbnochcbcaa.V

theorem fixOf_len (n w : Int) : (fixOf n w).length ≤ 8 := by
  unfold fixOf; split
  · rw [leBytes_length]; omega
  · simp
theorem sHeadOk_E : EnvSound Try.prog E_sHeadOk := mkE_sound (by simp [sIn_sound])
theorem sHeadOk_sound : Sound Try.prog 37 (sg [pHead] [rB]) headOkSpec := vBody_sound sHeadOk_E noInl_ok Try.func37 (by kernel_rfl) fun cs outs hk h => by
  unfold headOkSpec at h
  split at h
  · simp only [Option.some.injEq, Prod.mk.injEq, true_and] at h
    rw [← h, vBody_L, sHeadOk_tree]
    simp only [eval_must', eval_ask', eval_ret', if_true, headOk]
    repeat' split
    all_goals first | rfl | (simp_all; done)
  · cases h
theorem iHeadOk_E : EnvSound Try.prog E_iHeadOk := mkE_sound (by simp [iIn_sound, iIsVersion_sound, iIsNumber_sound])
theorem iHeadOk_sound : Sound Try.prog 36 (sg [pHead] [rB]) headOkSpec := vBody_sound iHeadOk_E noInl_ok Try.func36 (by kernel_rfl) fun cs outs hk h => by
  unfold headOkSpec at h
  split at h
  · simp only [Option.some.injEq, Prod.mk.injEq, true_and] at h
    rw [← h, vBody_L, iHeadOk_tree]
    simp only [eval_must', eval_ask', eval_ret', if_true, headOk]
    repeat' split
    all_goals first | rfl | (simp_all; done)
  · cases h
theorem headOk_iff (v s b l : Int) : headOk v s b l = true ↔ (1 ≤ v ∧ v ≤ 2) ∧ (1 ≤ s ∧ s ≤ 20) ∧ (0 ≤ b ∧ b ≤ 1000000000) ∧ (0 ≤ l ∧ l ≤ 4294967295) := by
  simp [headOk, inB, and_assoc]
theorem sHeadText_E : EnvSound Try.prog E_sHeadText := mkE_sound (by simp [sSumOf_sound, sFixText_sound, sHeadOk_sound])
theorem sHeadText_sound : Sound Try.prog 35 (sg [pHead] [rS]) headTextSpec := vBody_sound sHeadText_E noInl_ok Try.func35 (by kernel_rfl) fun cs outs hk h => by
  unfold headTextSpec at h
  split at h
  · simp only [Option.some.injEq, Prod.mk.injEq, true_and] at h
    rename_i v s b l
    rw [← h, vBody_L, sHeadText_tree]
    by_cases hok : headOk v s b l = true
    · obtain ⟨⟨a1, a2⟩, ⟨a3, a4⟩, ⟨a5, a6⟩, a7, a8⟩ := (headOk_iff v s b l).1 hok
      have l1 := fixOf_len v 1
      have l2 := fixOf_len s 1
      have l3 := fixOf_len b 8
      have l4 := fixOf_len l 4
      have l5 := fixOf_len (crcMore 0 (headPre v s b l) : Nat) 4
      have c1 := crcMore_lt 0 (headPre v s b l) (by omega)
      have e : headText v s b l = headPre v s b l ++ fixOf (crcMore 0 (headPre v s b l) : Nat) 4 := by simp [headText, hok]
      rw [e]
      unfold headPre at *
      simp only [eval_must', eval_ask', eval_ret', if_true, hok, decide_eq_true_eq, Bool.and_eq_true, List.length_append, List.length_cons, List.length_nil, Int.ofNat_eq_natCast]
      repeat rw [if_pos (by omega)]
    · simp [eval_must', eval_ask', eval_ret', hok, headText]
  · cases h
theorem iHeadText_E : EnvSound Try.prog E_iHeadText := mkE_sound (by simp [iSumOf_sound, iFixText_sound, iHeadOk_sound])
theorem iHeadText_sound : Sound Try.prog 34 (sg [pHead] [rS]) headTextSpec := vBody_sound iHeadText_E noInl_ok Try.func34 (by kernel_rfl) fun cs outs hk h => by
  unfold headTextSpec at h
  split at h
  · simp only [Option.some.injEq, Prod.mk.injEq, true_and] at h
    rename_i v s b l
    rw [← h, vBody_L, iHeadText_tree]
    by_cases hok : headOk v s b l = true
    · obtain ⟨⟨a1, a2⟩, ⟨a3, a4⟩, ⟨a5, a6⟩, a7, a8⟩ := (headOk_iff v s b l).1 hok
      have l1 := fixOf_len v 1
      have l2 := fixOf_len s 1
      have l3 := fixOf_len b 8
      have l4 := fixOf_len l 4
      have l5 := fixOf_len (crcMore 0 (headPre v s b l) : Nat) 4
      have c1 := crcMore_lt 0 (headPre v s b l) (by omega)
      have f0 : fixOf 0 2 = [0, 0] := by decide
      have e : headText v s b l = headPre v s b l ++ fixOf (crcMore 0 (headPre v s b l) : Nat) 4 := by simp [headText, hok]
      rw [e]
      unfold headPre at *
      simp only [eval_must', eval_ask', eval_ret', if_true, hok, decide_eq_true_eq, Bool.and_eq_true, List.length_append, List.length_cons, List.length_nil, Int.ofNat_eq_natCast, f0]
      repeat rw [if_pos (by omega)]
    · simp [eval_must', eval_ask', eval_ret', hok, headText]
  · cases h

theorem sReadHead_E : EnvSound Try.prog E_sReadHead := mkE_sound (by simp [sReadFix_sound, sHeadText_sound])
theorem sReadHead_sound : Sound Try.prog 40 (sg [pS] [rHead, rB]) readHeadSpec := vBody_sound sReadHead_E noInl_ok Try.func40 (by kernel_rfl) fun cs outs hk h => by
  unfold readHeadSpec at h
  split at h
  · simp only [Option.some.injEq, Prod.mk.injEq, decide_eq_true_eq] at h
    obtain ⟨h1, rfl⟩ := h
    rename_i b
    rw [vBody_L, sReadHead_tree]
    have c4 := byte_lt b 4
    have c5 := byte_lt b 5
    have w4 : IntKind.i64.wrap ((b.getD 4 0).toNat : Int) = rhV b := by rw [wrap64] <;> first | rfl | omega
    have w5 : IntKind.i64.wrap ((b.getD 5 0).toNat : Int) = rhS b := by rw [wrap64] <;> first | rfl | omega
    have t4 : Int.toNat (4 : Int) = 4 := rfl
    have t5 : Int.toNat (5 : Int) = 5 := rfl
    have t24 : Int.toNat (24 : Int) = 24 := rfl
    have eB : fixRead b 8 8 = rhB b := rfl
    have eL : fixRead b 16 4 = rhL b := rfl
    simp only [t4, t5, t24, w4, w5, eB, eL, List.drop_zero]
    by_cases h24 : (b.length : Int) < 24
    · have ho : readHeadOk b = false := by unfold readHeadOk; rw [decide_eq_false (by omega)]; rfl
      simp [eval_must', eval_ask', eval_ret', h24, ho, ifI]
    · have g1 : (4 : Int) < b.length := by omega
      have g2 : (5 : Int) < b.length := by omega
      have g3 : (24 : Int) ≤ b.length := by omega
      have g4 : 24 ≤ b.length := by omega
      by_cases h8 : fixOk b 8 8 = true
      · by_cases ht : headText (rhV b) (rhS b) (rhB b) (rhL b) = b.take 24
        · have ho : readHeadOk b = true := by unfold readHeadOk; rw [decide_eq_true g4, h8, decide_eq_true ht]; rfl
          have hb : (headText (rhV b) (rhS b) (rhB b) (rhL b) == b.take 24) = true := by rw [ht]; simp
          by_cases h16 : fixOk b 16 4 = true <;> simp [eval_must', eval_ask', eval_ret', h24, h8, h16, h1, g1, g2, g3, t4, t5, t24, w4, w5, eB, eL, ht, ho, ifI]
        · have ho : readHeadOk b = false := by unfold readHeadOk; rw [decide_eq_true g4, h8, decide_eq_false ht]; rfl
          by_cases h16 : fixOk b 16 4 = true <;> simp [eval_must', eval_ask', eval_ret', h24, h8, h16, h1, g1, g2, g3, t4, t5, t24, w4, w5, eB, eL, ht, ho, ifI]
      · have ho : readHeadOk b = false := by unfold readHeadOk; rw [Bool.eq_false_iff.2 h8]; simp
        by_cases h16 : fixOk b 16 4 = true <;> simp [eval_must', eval_ask', eval_ret', h24, h8, h16, h1, g1, g2, g3, t4, t5, t24, ho, ifI] <;> (intros; simp_all)
  · cases h
theorem iReadHead_E : EnvSound Try.prog E_iReadHead := mkE_sound (by simp [iReadFix_sound, iHeadText_sound])
theorem iReadHead_sound : Sound Try.prog 39 (sg [pS] [rHead, rB]) readHeadSpec := vBody_sound iReadHead_E noInl_ok Try.func39 (by kernel_rfl) fun cs outs hk h => by
  unfold readHeadSpec at h
  split at h
  · simp only [Option.some.injEq, Prod.mk.injEq, decide_eq_true_eq] at h
    obtain ⟨h1, rfl⟩ := h
    rename_i b
    rw [vBody_L, iReadHead_tree]
    have c4 := byte_lt b 4
    have c5 := byte_lt b 5
    have w4 : IntKind.i64.wrap ((b.getD 4 0).toNat : Int) = rhV b := by rw [wrap64] <;> first | rfl | omega
    have w5 : IntKind.i64.wrap ((b.getD 5 0).toNat : Int) = rhS b := by rw [wrap64] <;> first | rfl | omega
    have t4 : Int.toNat (4 : Int) = 4 := rfl
    have t5 : Int.toNat (5 : Int) = 5 := rfl
    have t24 : Int.toNat (24 : Int) = 24 := rfl
    have eB : fixRead b 8 8 = rhB b := rfl
    have eL : fixRead b 16 4 = rhL b := rfl
    simp only [t4, t5, t24, w4, w5, eB, eL, List.drop_zero]
    by_cases h24 : (b.length : Int) < 24
    · have ho : readHeadOk b = false := by unfold readHeadOk; rw [decide_eq_false (by omega)]; rfl
      simp [eval_must', eval_ask', eval_ret', h24, ho, ifI]
    · have g1 : (4 : Int) < b.length := by omega
      have g2 : (5 : Int) < b.length := by omega
      have g3 : (24 : Int) ≤ b.length := by omega
      have g4 : 24 ≤ b.length := by omega
      by_cases h8 : fixOk b 8 8 = true
      · by_cases ht : headText (rhV b) (rhS b) (rhB b) (rhL b) = b.take 24
        · have ho : readHeadOk b = true := by unfold readHeadOk; rw [decide_eq_true g4, h8, decide_eq_true ht]; rfl
          have hb : (headText (rhV b) (rhS b) (rhB b) (rhL b) == b.take 24) = true := by rw [ht]; simp
          by_cases h16 : fixOk b 16 4 = true <;> simp [eval_must', eval_ask', eval_ret', h24, h8, h16, h1, g1, g2, g3, t4, t5, t24, w4, w5, eB, eL, ht, ho, ifI]
        · have ho : readHeadOk b = false := by unfold readHeadOk; rw [decide_eq_true g4, h8, decide_eq_false ht]; rfl
          by_cases h16 : fixOk b 16 4 = true <;> simp [eval_must', eval_ask', eval_ret', h24, h8, h16, h1, g1, g2, g3, t4, t5, t24, w4, w5, eB, eL, ht, ho, ifI]
      · have ho : readHeadOk b = false := by unfold readHeadOk; rw [Bool.eq_false_iff.2 h8]; simp
        by_cases h16 : fixOk b 16 4 = true <;> simp [eval_must', eval_ask', eval_ret', h24, h8, h16, h1, g1, g2, g3, t4, t5, t24, ho, ifI] <;> (intros; simp_all)
  · cases h

theorem iMeets_E : EnvSound Try.prog E_iMeets := mkE_sound (by simp [])
theorem iMeets_sound : Sound Try.prog 85 (sg [pI, pI, pI, pI] [rB]) meetsSpec := vBody_sound iMeets_E noInl_ok Try.func85 (by kernel_rfl) fun cs outs hk h => by
  unfold meetsSpec at h
  split at h
  · simp only [Option.some.injEq, Prod.mk.injEq, true_and] at h
    rw [← h, vBody_L, iMeets_tree]
    simp only [eval_must', eval_ask', eval_ret', if_true, meets, decide_eq_true_eq]
    repeat' split
    all_goals first | rfl | (simp_all; done)
  · cases h

theorem sHeadHit_E : EnvSound Try.prog E_sHeadHit := mkE_sound (by simp [sReadHead_sound])
theorem sHeadHit_sound : Sound Try.prog 43 (sg [pS, pI, pI] [rB]) headHitSpec := vBody_sound sHeadHit_E noInl_ok Try.func43 (by kernel_rfl) fun cs outs hk h => by
  unfold headHitSpec at h
  split at h
  · simp only [Option.some.injEq, Prod.mk.injEq, decide_eq_true_eq] at h
    obtain ⟨h1, rfl⟩ := h
    rename_i b x y
    rw [vBody_L, sHeadHit_tree]
    have em : meets 0 24 x y = decide (x < 24 ∧ 0 < y ∧ x < y) := by
      unfold meets imax imin
      congr 1
      repeat' split
      all_goals (apply propext; omega)
    simp only [eval_must', eval_ask', eval_ret', if_true, h1, headHit, em, decide_eq_true_eq]
    by_cases hr : readHeadOk b = true
    · by_cases p1 : x < 24 <;> by_cases p2 : 0 < y <;> by_cases p3 : x < y <;> simp [hr, p1, p2, p3]
    · simp [hr]
  · cases h
theorem iHeadHit_E : EnvSound Try.prog E_iHeadHit := mkE_sound (by simp [iReadHead_sound, iMeets_sound])
theorem iHeadHit_sound : Sound Try.prog 42 (sg [pS, pI, pI] [rB]) headHitSpec := vBody_sound iHeadHit_E noInl_ok Try.func42 (by kernel_rfl) fun cs outs hk h => by
  unfold headHitSpec at h
  split at h
  · simp only [Option.some.injEq, Prod.mk.injEq, decide_eq_true_eq] at h
    obtain ⟨h1, rfl⟩ := h
    rename_i b x y
    rw [vBody_L, iHeadHit_tree]
    simp only [eval_must', eval_ask', eval_ret', if_true, h1, headHit, decide_eq_true_eq]
    by_cases hr : readHeadOk b = true <;> by_cases hm : meets 0 24 x y = true <;> simp [hr, hm]
  · cases h

end Go.Proofs.Ythpcgbnochcbcaa.V

namespace Go.Proofs.Ythpcgbnochcbcaa.V
noncomputable section

/-- a number, seven bits a byte, at most so many bytes -/
def varBytes : Nat → Nat → List UInt8
  | 0, _ => []
  | k + 1, n => if n < 128 then [UInt8.ofNat n] else UInt8.ofNat (n % 128 + 128) :: varBytes k (n / 128)
def varText (n : Int) : List UInt8 := if inB n 0 1000000000 then varBytes 5 n.toNat else []
def varTextSpec : Spec := fun cs => match cs with
  | [.int .i64 n] => some (true, [.str (varText n)])
  | _ => none
def varSizeSpec : Spec := fun cs => match cs with
  | [.int .i64 n] => some (true, [.int .i64 (varText n).length])
  | _ => none
def H_sVarText (n : Int) (m : Nat) (r : List (List C)) : St := st1 [(0, int64 n), (3, .l (.ref 0 0 m))] 1 r
def H_iVarText (n : Int) (m : Nat) (r : List (List C)) : St := st1 [(0, int64 n), (3, .l (.ref 0 0 m))] 1 r
def E_sVarText : Env := mkE [(4, [0, 3])] [(80, (sg [pI, pI, pI] [rB]), inSpec)]
def E_iVarText : Env := mkE [(4, [0, 3])] [(67, (sg [pI] [rB]), isNumberSpec)]

def E_sVarSize : Env := mkE [] [(105, (sg [pI] [rS]), varTextSpec)]
def E_iVarSize : Env := mkE [] [(70, (sg [pI] [rS]), varTextSpec)]

/-- a number that is read, byte by byte: k bytes so far, their value -/
def rvGo (b : List UInt8) (at' : Nat) : Nat → Nat → Nat → Option (Nat × Nat)
  | 0, _, _ => none
  | f + 1, k, n => if at' + k < b.length then
      if (b.getD (at' + k) 0).toNat < 128 then
        if (k > 0 ∧ (b.getD (at' + k) 0).toNat = 0) ∨ 1000000000 < n + (b.getD (at' + k) 0).toNat * 128 ^ k then none else some (n + (b.getD (at' + k) 0).toNat * 128 ^ k, at' + k + 1)
      else rvGo b at' f (k + 1) (n + ((b.getD (at' + k) 0).toNat - 128) * 128 ^ k)
    else none
def readVar (b : List UInt8) (at' : Int) : Option (Nat × Nat) := if 0 ≤ at' then rvGo b at'.toNat 5 0 0 else none
def rvOk (b : List UInt8) (at' : Int) : Bool := (readVar b at').isSome
def rvN (b : List UInt8) (at' : Int) : Int := match readVar b at' with | some p => p.1 | none => 0
def rvEnd (b : List UInt8) (at' : Int) : Int := match readVar b at' with | some p => p.2 | none => 0
def readVarSpec : Spec := fun cs => match cs with
  | [.str b, .int .i64 a] => some (decide (b.length ≤ 281474976710656) && (decide (-9223372036854775808 ≤ a) && decide (a ≤ 9223372036854775807)), [.int .i64 (rvN b a), .int .i64 (rvEnd b a), .bool (rvOk b a)])
  | _ => none
def H_sReadVar (b : List UInt8) (a n i : Int) : St := st0 [(0, wstr b), (1, int64 a), (7, int64 n), (8, int64 i)]
def H_iReadVar (b : List UInt8) (a n i : Int) : St := st0 [(0, wstr b), (1, int64 a), (7, int64 n), (10, int64 i)]
def E_sReadVar : Env := mkE [(5, [0, 1, 7, 8])] [(80, (sg [pI, pI, pI] [rB]), inSpec), (105, (sg [pI] [rS]), varTextSpec)]
def E_iReadVar : Env := mkE [(3, [0, 1, 7, 10])] [(79, (sg [pI, pI, pI] [rB]), inSpec), (67, (sg [pI] [rB]), isNumberSpec)]

end
end Go.Proofs.Ythpcgbnochcbcaa.V

namespace Go.Proofs.Ythpcgbnochcbcaa.V
set_option maxRecDepth 100000
theorem sVarText_tree (H : List Pt → Nat → St → T (List C)) (n : Int) : vBodyL E_sVarText noInl (sg [pI] [rS]) Try.f105 H [C.int IntKind.i64 n] =
 (.must true
 (.must true
  (.must true
   (.must true
    (.ask (inB n (0 : Int) (1000000000 : Int))
     (H [Pt.r, Pt.r, Pt.r, Pt.l, Pt.b] (9223372036854775808 : Nat) (H_sVarText (n) ((0 : Nat)) ([])))
     (.must true
      (.ret [C.str []]))))))) := by kernel_rfl
theorem iVarText_tree (H : List Pt → Nat → St → T (List C)) (n : Int) : vBodyL E_iVarText noInl (sg [pI] [rS]) Try.f70 H [C.int IntKind.i64 n] =
 (.must true
 (.must true
  (.must true
   (.must true
    (.ask (inB n (0 : Int) (1000000000 : Int))
     (H [Pt.r, Pt.r, Pt.r, Pt.l, Pt.b] (9223372036854775808 : Nat) (H_iVarText (n) ((0 : Nat)) ([])))
     (.must true
      (.ret [C.str []]))))))) := by kernel_rfl
theorem sVarText_round0 (H : List Pt → Nat → St → T (List C)) (n : Int) (q : Nat) (r : List (List C)) (k : Nat) : vRound E_sVarText noInl (sg [pI] [rS]) Try.f105 H [Pt.r, Pt.r, Pt.r, Pt.l, Pt.b] k (H_sVarText n q r) =
 (.ask (decide ((127 : Int) < n))
 (.must (decide (q = r.length) && roomy (r.length + (1 : Nat)) (1 : Nat) && (decide ((1 : Nat) = (1 : Nat)) && true))
  (.must true
   (H [Pt.r, Pt.r, Pt.r, Pt.l, Pt.b] k (H_sVarText (ishr IntKind.i64 n (7 : Int)) (r.length + (1 : Nat)) (r.append [[C.int IntKind.u8 (IntKind.u8.wrap (ior IntKind.i64 (iand IntKind.i64 n (127 : Int)) (128 : Int)))]])))))
 (.must (decide (q = r.length) && roomy (r.length + (1 : Nat)) (1 : Nat) && (decide ((1 : Nat) = (1 : Nat)) && true))
  (.must ((List.take (r.length + (1 : Nat)) (r.append [[C.int IntKind.u8 (IntKind.u8.wrap n)]])).all byteRow)
   (.must true
    (.ret [C.str (strOfRows (List.take (r.length + (1 : Nat)) (r.append [[C.int IntKind.u8 (IntKind.u8.wrap n)]])))]))))) := by kernel_rfl
theorem iVarText_round0 (H : List Pt → Nat → St → T (List C)) (n : Int) (q : Nat) (r : List (List C)) (k : Nat) : vRound E_iVarText noInl (sg [pI] [rS]) Try.f70 H [Pt.r, Pt.r, Pt.r, Pt.l, Pt.b] k (H_iVarText n q r) =
 (.ask (decide ((128 : Int) ≤ n))
 (.must (decide (q = r.length) && roomy (r.length + (1 : Nat)) (1 : Nat) && (decide ((1 : Nat) = (1 : Nat)) && true))
  (.must true
   (H [Pt.r, Pt.r, Pt.r, Pt.l, Pt.b] k (H_iVarText (ishr IntKind.i64 n (7 : Int)) (r.length + (1 : Nat)) (r.append [[C.int IntKind.u8 (ior IntKind.u8 (IntKind.u8.wrap n) (128 : Int))]])))))
 (.must (decide (q = r.length) && roomy (r.length + (1 : Nat)) (1 : Nat) && (decide ((1 : Nat) = (1 : Nat)) && true))
  (.must ((List.take (r.length + (1 : Nat)) (r.append [[C.int IntKind.u8 (IntKind.u8.wrap n)]])).all byteRow)
   (.must true
    (.ret [C.str (strOfRows (List.take (r.length + (1 : Nat)) (r.append [[C.int IntKind.u8 (IntKind.u8.wrap n)]])))]))))) := by kernel_rfl
theorem sVarSize_tree (H : List Pt → Nat → St → T (List C)) (n : Int) : vBodyL E_sVarSize noInl (sg [pI] [rI]) Try.f93 H [C.int IntKind.i64 n] =
 (.must true
 (.must true
  (.must true
   (.must true
    (.must true
     (.ret [C.int IntKind.i64 (↑(varText n).length : Int)])))))) := by kernel_rfl
theorem iVarSize_tree (H : List Pt → Nat → St → T (List C)) (n : Int) : vBodyL E_iVarSize noInl (sg [pI] [rI]) Try.f92 H [C.int IntKind.i64 n] =
 (.must true
 (.must true
  (.must true
   (.must true
    (.must true
     (.ret [C.int IntKind.i64 (↑(varText n).length : Int)])))))) := by kernel_rfl
theorem sReadVar_tree (H : List Pt → Nat → St → T (List C)) (b : List UInt8) (a : Int) : vBodyL E_sReadVar noInl (sg [pS, pI] [rI, rI, rB]) Try.f113 H [C.str b, C.int IntKind.i64 a] =
 (.must true
 (.must true
  (.must true
   (.must true
    (.ask (inB a (0 : Int) (↑b.length : Int))
     (H [Pt.r, Pt.r, Pt.r, Pt.l, Pt.r, Pt.b] (9223372036854775808 : Nat) (H_sReadVar (b) (a) ((0 : Int)) ((0 : Int))))
     (.must true
      (.ret [C.int IntKind.i64 (0 : Int), C.int IntKind.i64 (0 : Int), C.bool false]))))))) := by kernel_rfl
theorem iReadVar_tree (H : List Pt → Nat → St → T (List C)) (b : List UInt8) (a : Int) : vBodyL E_iReadVar noInl (sg [pS, pI] [rI, rI, rB]) Try.f75 H [C.str b, C.int IntKind.i64 a] =
 (.must true
 (H [Pt.r, Pt.r, Pt.l, Pt.r, Pt.b] (9223372036854775808 : Nat) (H_iReadVar (b) (a) ((0 : Int)) ((0 : Int))))) := by kernel_rfl
theorem sReadVar_round0 (H : List Pt → Nat → St → T (List C)) (b : List UInt8) (a : Int) (n : Int) (i : Int) (k : Nat) : vRound E_sReadVar noInl (sg [pS, pI] [rI, rI, rB]) Try.f113 H [Pt.r, Pt.r, Pt.r, Pt.l, Pt.r, Pt.b] k
  (H_sReadVar b a n i) =
 (.ask (decide (i < (5 : Int)))
 (.ask (decide (IntKind.i64.wrap (a + i) < (↑b.length : Int)))
  (.must (decide ((0 : Int) ≤ IntKind.i64.wrap (a + i)) && decide (IntKind.i64.wrap (a + i) < (↑b.length : Int)))
   (.must (decide ((0 : Int) ≤ IntKind.u64.wrap (IntKind.i64.wrap ((7 : Int) * i))))
    (.ask (decide (IntKind.i64.wrap (↑(b.getD (IntKind.i64.wrap (a + i)).toNat (0 : UInt8)).toNat : Int) < (128 : Int)))
     (.must true
      (.must true
       (.must true
        (.ask (varText
    (ior IntKind.i64 n
      (ishl IntKind.i64
        (iand IntKind.i64 (IntKind.i64.wrap (↑(b.getD (IntKind.i64.wrap (a + i)).toNat (0 : UInt8)).toNat : Int))
          (127 : Int))
        (IntKind.u64.wrap (IntKind.i64.wrap ((7 : Int) * i))))) ==
  [])
         (.must true
          (.ret [C.int IntKind.i64 (0 : Int), C.int IntKind.i64 (0 : Int), C.bool false]))
         (.must (decide ((0 : Int) ≤ IntKind.i64.wrap (IntKind.i64.wrap (a + i) + (1 : Int))) &&
    decide (IntKind.i64.wrap (IntKind.i64.wrap (a + i) + (1 : Int)) ≤ (↑b.length : Int)) &&
  (decide ((0 : Int) ≤ a) && decide (a ≤ IntKind.i64.wrap (IntKind.i64.wrap (a + i) + (1 : Int)))))
          (.ask (!varText
      (ior IntKind.i64 n
        (ishl IntKind.i64
          (iand IntKind.i64 (IntKind.i64.wrap (↑(b.getD (IntKind.i64.wrap (a + i)).toNat (0 : UInt8)).toNat : Int))
            (127 : Int))
          (IntKind.u64.wrap (IntKind.i64.wrap ((7 : Int) * i))))) ==
    List.drop a.toNat (List.take (IntKind.i64.wrap (IntKind.i64.wrap (a + i) + (1 : Int))).toNat b))
           (.must true
            (.ret [C.int IntKind.i64 (0 : Int), C.int IntKind.i64 (0 : Int), C.bool false]))
           (.must true
            (.ret [C.int IntKind.i64
    (ior IntKind.i64 n
      (ishl IntKind.i64
        (iand IntKind.i64 (IntKind.i64.wrap (↑(b.getD (IntKind.i64.wrap (a + i)).toNat (0 : UInt8)).toNat : Int))
          (127 : Int))
        (IntKind.u64.wrap (IntKind.i64.wrap ((7 : Int) * i))))),
  C.int IntKind.i64 (IntKind.i64.wrap (IntKind.i64.wrap (a + i) + (1 : Int))), C.bool true]))))))))
     (H [Pt.r, Pt.r, Pt.r, Pt.l, Pt.r, Pt.b] k (H_sReadVar (b) (a) (ior IntKind.i64 n
  (ishl IntKind.i64
    (iand IntKind.i64 (IntKind.i64.wrap (↑(b.getD (IntKind.i64.wrap (a + i)).toNat (0 : UInt8)).toNat : Int))
      (127 : Int))
    (IntKind.u64.wrap (IntKind.i64.wrap ((7 : Int) * i))))) (IntKind.i64.wrap (i + (1 : Int))))))))
  (.must true
   (.ret [C.int IntKind.i64 (0 : Int), C.int IntKind.i64 (0 : Int), C.bool false])))
 (.must true
  (.ret [C.int IntKind.i64 (0 : Int), C.int IntKind.i64 (0 : Int), C.bool false]))) := by kernel_rfl
theorem iReadVar_round0 (H : List Pt → Nat → St → T (List C)) (b : List UInt8) (a : Int) (n : Int) (i : Int) (k : Nat) : vRound E_iReadVar noInl (sg [pS, pI] [rI, rI, rB]) Try.f75 H [Pt.r, Pt.r, Pt.l, Pt.r, Pt.b] k (H_iReadVar b a n i) =
 (.ask (decide (i < (5 : Int)))
 (.must true
  (.must true
   (.must true
    (.ask (inB a (0 : Int) (IntKind.i64.wrap (IntKind.i64.wrap ((↑b.length : Int) - (1 : Int)) - i)))
     (.must (decide ((0 : Int) ≤ IntKind.i64.wrap (a + i)) && decide (IntKind.i64.wrap (a + i) < (↑b.length : Int)))
      (.must (decide ((0 : Int) ≤ IntKind.i64.wrap ((7 : Int) * i)))
       (.ask (decide ((128 : Int) ≤ IntKind.i64.wrap (↑(b.getD (IntKind.i64.wrap (a + i)).toNat (0 : UInt8)).toNat : Int)))
        (H [Pt.r, Pt.r, Pt.l, Pt.r, Pt.b] k (H_iReadVar (b) (a) (ior IntKind.i64 n
  (ishl IntKind.i64
    (iand IntKind.i64 (IntKind.i64.wrap (↑(b.getD (IntKind.i64.wrap (a + i)).toNat (0 : UInt8)).toNat : Int))
      (127 : Int))
    (IntKind.i64.wrap ((7 : Int) * i)))) (IntKind.i64.wrap (i + (1 : Int)))))
        (.ask (decide ((0 : Int) < i))
         (.ask (decide (IntKind.i64.wrap (↑(b.getD (IntKind.i64.wrap (a + i)).toNat (0 : UInt8)).toNat : Int) = (0 : Int)))
          (.must true
           (.ret [C.int IntKind.i64 (0 : Int), C.int IntKind.i64 (0 : Int), C.bool false]))
          (.must true
           (.must true
            (.must true
             (.ask (inB
  (ior IntKind.i64 n
    (ishl IntKind.i64
      (iand IntKind.i64 (IntKind.i64.wrap (↑(b.getD (IntKind.i64.wrap (a + i)).toNat (0 : UInt8)).toNat : Int))
        (127 : Int))
      (IntKind.i64.wrap ((7 : Int) * i))))
  (0 : Int) (1000000000 : Int))
              (.must true
               (.ret [C.int IntKind.i64
    (ior IntKind.i64 n
      (ishl IntKind.i64
        (iand IntKind.i64 (IntKind.i64.wrap (↑(b.getD (IntKind.i64.wrap (a + i)).toNat (0 : UInt8)).toNat : Int))
          (127 : Int))
        (IntKind.i64.wrap ((7 : Int) * i)))),
  C.int IntKind.i64 (IntKind.i64.wrap (IntKind.i64.wrap (a + i) + (1 : Int))), C.bool true]))
              (.must true
               (.ret [C.int IntKind.i64 (0 : Int), C.int IntKind.i64 (0 : Int), C.bool false])))))))
         (.must true
          (.must true
           (.must true
            (.ask (inB
  (ior IntKind.i64 n
    (ishl IntKind.i64
      (iand IntKind.i64 (IntKind.i64.wrap (↑(b.getD (IntKind.i64.wrap (a + i)).toNat (0 : UInt8)).toNat : Int))
        (127 : Int))
      (IntKind.i64.wrap ((7 : Int) * i))))
  (0 : Int) (1000000000 : Int))
             (.must true
              (.ret [C.int IntKind.i64
    (ior IntKind.i64 n
      (ishl IntKind.i64
        (iand IntKind.i64 (IntKind.i64.wrap (↑(b.getD (IntKind.i64.wrap (a + i)).toNat (0 : UInt8)).toNat : Int))
          (127 : Int))
        (IntKind.i64.wrap ((7 : Int) * i)))),
  C.int IntKind.i64 (IntKind.i64.wrap (IntKind.i64.wrap (a + i) + (1 : Int))), C.bool true]))
             (.must true
              (.ret [C.int IntKind.i64 (0 : Int), C.int IntKind.i64 (0 : Int), C.bool false]))))))))))
     (.must true
      (.ret [C.int IntKind.i64 (0 : Int), C.int IntKind.i64 (0 : Int), C.bool false]))))))
 (.must true
  (.ret [C.int IntKind.i64 (0 : Int), C.int IntKind.i64 (0 : Int), C.bool false]))) := by kernel_rfl
end Go.Proofs.Ythpcgbnochcbcaa.V

namespace Go.Proofs.Ythpcgbnochcbcaa.V

theorem iand127 (s : Int) : iand .i64 s 127 = s % 128 := by
  show IntKind.i64.wrap (((BitVec.ofInt 64 s &&& BitVec.ofInt 64 127).toNat : Nat) : Int) = _
  rw [BitVec.toNat_and]
  have h1 : (BitVec.ofInt 64 127).toNat = 2 ^ 7 - 1 := by decide
  have h2 : (BitVec.ofInt 64 s).toNat = (s % 18446744073709551616).toNat := by simp [BitVec.toNat_ofInt]
  rw [h1, h2, Nat.and_two_pow_sub_one_eq_mod, wrap64] <;> omega
theorem or128_fin : ∀ x : Fin 256, x.val ||| 128 = x.val % 128 + 128 := by decide +kernel
theorem ior8_128 (n : Nat) : ior .u8 (IntKind.u8.wrap (n : Int)) 128 = ((n % 128 + 128 : Nat) : Int) := by
  rw [wrapU8_mod]
  show IntKind.u8.wrap (((BitVec.ofInt 8 ((n : Int) % 256) ||| BitVec.ofInt 8 128).toNat : Nat) : Int) = _
  rw [BitVec.toNat_or]
  have h1 : (BitVec.ofInt 8 128).toNat = 128 := by decide
  have h2 : (BitVec.ofInt 8 ((n : Int) % 256)).toNat = n % 256 := by simp [BitVec.toNat_ofInt]; omega
  have h3 := or128_fin ⟨n % 256, by omega⟩
  simp only [] at h3
  rw [h1, h2, h3, wrapU8] <;> omega
theorem ior64_128 (n : Nat) : IntKind.u8.wrap (ior .i64 ((n % 128 : Nat) : Int) 128) = ((n % 128 + 128 : Nat) : Int) := by
  have := ior_shift (n % 128) 1 7 (by omega) (by omega) ((n % 128 : Nat) : Int) 128 (by omega) (by omega)
  rw [this, wrap64 (by omega) (by omega), wrapU8] <;> omega
theorem varBytes_one (f n : Nat) (h : n < 128) : varBytes (f + 1) n = [UInt8.ofNat n] := by simp [varBytes, h]
theorem varBytes_more (f n : Nat) (h : ¬ n < 128) : varBytes (f + 1) n = UInt8.ofNat (n % 128 + 128) :: varBytes f (n / 128) := by simp [varBytes, h]
theorem sVarText_loop : ∀ (f n m : Nat) (l : List UInt8), n < 128 ^ (f + 1) → n ≤ 1000000000 → l.length ≤ 100 - f → f ≤ 100 → f < m →
    (vLoop E_sVarText noInl (sg [pI] [rS]) Try.f105 [.r, .r, .r, .l, .b] m (H_sVarText n l.length (rowsOfStr l))).eval = some [.str (l ++ varBytes (f + 1) n)] := by
  intro f
  induction f with
  | zero =>
    intro n m l h1 hn h2 h3 h4
    cases m with
    | zero => omega
    | succ m =>
      rw [vLoop_L _ _ _ _ _ _ _ (by kernel_rfl), sVarText_round0]
      have c : ¬ ((127 : Int) < (n : Int)) := by omega
      have hr : roomy (l.length + 1) 1 = true := by simp only [roomy, decide_eq_true_eq]; omega
      have u : IntKind.u8.wrap (n : Int) = (n : Nat) := by rw [wrapU8] <;> omega
      have tk : (rowsOfStr (l ++ [UInt8.ofNat n])).take (l.length + 1) = rowsOfStr (l ++ [UInt8.ofNat n]) := List.take_of_length_le (by rw [rows_length]; simp)
      simp only [eval_must', eval_ask', eval_ret', if_true, decide_eq_true_eq, Bool.and_eq_true, c, if_false, rows_length, hr, and_self, u, row_append l n (by omega), tk, rows_bytes, str_rows, varBytes_one 0 n (by omega)]
  | succ f ih =>
    intro n m l h1 hn h2 h3 h4
    cases m with
    | zero => omega
    | succ m =>
      rw [vLoop_L _ _ _ _ _ _ _ (by kernel_rfl), sVarText_round0]
      have hr : roomy (l.length + 1) 1 = true := by simp only [roomy, decide_eq_true_eq]; omega
      by_cases hc : n < 128
      · have c : ¬ ((127 : Int) < (n : Int)) := by omega
        have u : IntKind.u8.wrap (n : Int) = (n : Nat) := by rw [wrapU8] <;> omega
        have tk : (rowsOfStr (l ++ [UInt8.ofNat n])).take (l.length + 1) = rowsOfStr (l ++ [UInt8.ofNat n]) := List.take_of_length_le (by rw [rows_length]; simp)
        simp only [eval_must', eval_ask', eval_ret', if_true, decide_eq_true_eq, Bool.and_eq_true, c, if_false, rows_length, hr, and_self, u, row_append l n (by omega), tk, rows_bytes, str_rows, varBytes_one _ n hc]
      · have c : (127 : Int) < (n : Int) := by omega
        have d : ishr .i64 (n : Int) 7 = ((n / 128 : Nat) : Int) := ishr64_nat n 7 (by omega)
        have i1 : iand .i64 (n : Int) 127 = ((n % 128 : Nat) : Int) := by rw [iand127]; omega
        have e := ih (n / 128) m (l ++ [UInt8.ofNat (n % 128 + 128)]) (by rw [Nat.pow_succ] at h1; exact Nat.div_lt_of_lt_mul (by omega)) (by omega) (by simp; omega) (by omega) (by omega)
        rw [varBytes_more _ n hc]
        simp only [eval_must', eval_ask', eval_ret', if_true, decide_eq_true_eq, Bool.and_eq_true, c, rows_length, hr, and_self, d, i1, ior64_128, ior8_128, row_append l (n % 128 + 128) (by omega)]
        rw [List.length_append, List.append_assoc] at e
        exact e
theorem sVarText_E : EnvSound Try.prog E_sVarText := mkE_sound (by simp [sIn_sound])
theorem sVarText_sound : Sound Try.prog 105 (sg [pI] [rS]) varTextSpec := vBody_sound sVarText_E noInl_ok Try.func105 (by kernel_rfl) fun cs outs hk h => by
  unfold varTextSpec at h
  split at h
  · simp only [Option.some.injEq, Prod.mk.injEq, true_and] at h
    rename_i n
    rw [← h, vBody_L, sVarText_tree]
    by_cases hn : inB n 0 1000000000 = true
    · have hn' := (in_iff _ _ _).1 hn
      obtain ⟨n, rfl⟩ := Int.eq_ofNat_of_zero_le hn'.1
      have lp := sVarText_loop 4 n 9223372036854775808 [] (by omega) (by omega) (by simp) (by omega) (by omega)
      simp only [eval_must', eval_ask', if_true, hn, varText, Int.toNat_natCast]
      exact lp
    · simp [eval_must', eval_ask', eval_ret', hn, varText]
  · cases h
theorem iVarText_loop : ∀ (f n m : Nat) (l : List UInt8), n < 128 ^ (f + 1) → n ≤ 1000000000 → l.length ≤ 100 - f → f ≤ 100 → f < m →
    (vLoop E_iVarText noInl (sg [pI] [rS]) Try.f70 [.r, .r, .r, .l, .b] m (H_iVarText n l.length (rowsOfStr l))).eval = some [.str (l ++ varBytes (f + 1) n)] := by
  intro f
  induction f with
  | zero =>
    intro n m l h1 hn h2 h3 h4
    cases m with
    | zero => omega
    | succ m =>
      rw [vLoop_L _ _ _ _ _ _ _ (by kernel_rfl), iVarText_round0]
      have c : ¬ ((128 : Int) ≤ (n : Int)) := by omega
      have hr : roomy (l.length + 1) 1 = true := by simp only [roomy, decide_eq_true_eq]; omega
      have u : IntKind.u8.wrap (n : Int) = (n : Nat) := by rw [wrapU8] <;> omega
      have tk : (rowsOfStr (l ++ [UInt8.ofNat n])).take (l.length + 1) = rowsOfStr (l ++ [UInt8.ofNat n]) := List.take_of_length_le (by rw [rows_length]; simp)
      simp only [eval_must', eval_ask', eval_ret', if_true, decide_eq_true_eq, Bool.and_eq_true, c, if_false, rows_length, hr, and_self, u, row_append l n (by omega), tk, rows_bytes, str_rows, varBytes_one 0 n (by omega)]
  | succ f ih =>
    intro n m l h1 hn h2 h3 h4
    cases m with
    | zero => omega
    | succ m =>
      rw [vLoop_L _ _ _ _ _ _ _ (by kernel_rfl), iVarText_round0]
      have hr : roomy (l.length + 1) 1 = true := by simp only [roomy, decide_eq_true_eq]; omega
      by_cases hc : n < 128
      · have c : ¬ ((128 : Int) ≤ (n : Int)) := by omega
        have u : IntKind.u8.wrap (n : Int) = (n : Nat) := by rw [wrapU8] <;> omega
        have tk : (rowsOfStr (l ++ [UInt8.ofNat n])).take (l.length + 1) = rowsOfStr (l ++ [UInt8.ofNat n]) := List.take_of_length_le (by rw [rows_length]; simp)
        simp only [eval_must', eval_ask', eval_ret', if_true, decide_eq_true_eq, Bool.and_eq_true, c, if_false, rows_length, hr, and_self, u, row_append l n (by omega), tk, rows_bytes, str_rows, varBytes_one _ n hc]
      · have c : (128 : Int) ≤ (n : Int) := by omega
        have d : ishr .i64 (n : Int) 7 = ((n / 128 : Nat) : Int) := ishr64_nat n 7 (by omega)
        have i1 : iand .i64 (n : Int) 127 = ((n % 128 : Nat) : Int) := by rw [iand127]; omega
        have e := ih (n / 128) m (l ++ [UInt8.ofNat (n % 128 + 128)]) (by rw [Nat.pow_succ] at h1; exact Nat.div_lt_of_lt_mul (by omega)) (by omega) (by simp; omega) (by omega) (by omega)
        rw [varBytes_more _ n hc]
        simp only [eval_must', eval_ask', eval_ret', if_true, decide_eq_true_eq, Bool.and_eq_true, c, rows_length, hr, and_self, d, i1, ior64_128, ior8_128, row_append l (n % 128 + 128) (by omega)]
        rw [List.length_append, List.append_assoc] at e
        exact e
theorem iVarText_E : EnvSound Try.prog E_iVarText := mkE_sound (by simp [iIsNumber_sound])
theorem iVarText_sound : Sound Try.prog 70 (sg [pI] [rS]) varTextSpec := vBody_sound iVarText_E noInl_ok Try.func70 (by kernel_rfl) fun cs outs hk h => by
  unfold varTextSpec at h
  split at h
  · simp only [Option.some.injEq, Prod.mk.injEq, true_and] at h
    rename_i n
    rw [← h, vBody_L, iVarText_tree]
    by_cases hn : inB n 0 1000000000 = true
    · have hn' := (in_iff _ _ _).1 hn
      obtain ⟨n, rfl⟩ := Int.eq_ofNat_of_zero_le hn'.1
      have lp := iVarText_loop 4 n 9223372036854775808 [] (by omega) (by omega) (by simp) (by omega) (by omega)
      simp only [eval_must', eval_ask', if_true, hn, varText, Int.toNat_natCast]
      exact lp
    · simp [eval_must', eval_ask', eval_ret', hn, varText]
  · cases h

theorem sVarSize_E : EnvSound Try.prog E_sVarSize := mkE_sound (by simp [sVarText_sound])
theorem sVarSize_sound : Sound Try.prog 93 (sg [pI] [rI]) varSizeSpec := vBody_sound sVarSize_E noInl_ok Try.func93 (by kernel_rfl) fun cs outs hk h => by
  unfold varSizeSpec at h
  split at h
  · simp only [Option.some.injEq, Prod.mk.injEq, true_and] at h
    rw [← h, vBody_L, sVarSize_tree]
    simp [eval_must', eval_ret']
  · cases h
theorem iVarSize_E : EnvSound Try.prog E_iVarSize := mkE_sound (by simp [iVarText_sound])
theorem iVarSize_sound : Sound Try.prog 92 (sg [pI] [rI]) varSizeSpec := vBody_sound iVarSize_E noInl_ok Try.func92 (by kernel_rfl) fun cs outs hk h => by
  unfold varSizeSpec at h
  split at h
  · simp only [Option.some.injEq, Prod.mk.injEq, true_and] at h
    rw [← h, vBody_L, iVarSize_tree]
    simp [eval_must', eval_ret']
  · cases h

/-- the value of bytes that go on, and of what is behind them -/
def valC : List UInt8 → Nat → Nat
  | [], x => x
  | c :: cs, x => (c.toNat - 128) + 128 * valC cs x
def rvOut : Option (Nat × Nat) → List C
  | some p => [.int .i64 p.1, .int .i64 p.2, .bool true]
  | none => [.int .i64 0, .int .i64 0, .bool false]
theorem valC_lin : ∀ (cs : List UInt8) (x : Nat), valC cs x = valC cs 0 + x * 128 ^ cs.length
  | [], x => by simp [valC]
  | c :: cs, x => by
    have := valC_lin cs x
    simp only [valC, List.length_cons, Nat.pow_succ, this]
    rw [Nat.mul_add, ← Nat.add_assoc, Nat.mul_left_comm, Nat.mul_comm 128 (128 ^ cs.length)]
theorem valC_snoc : ∀ (cs : List UInt8) (c : UInt8) (x : Nat), valC (cs ++ [c]) x = valC cs (c.toNat - 128 + 128 * x)
  | [], c, x => by simp [valC]
  | d :: cs, c, x => by simp only [List.cons_append, valC, valC_snoc cs c x]
theorem valC_lt : ∀ (cs : List UInt8), valC cs 0 < 128 ^ cs.length
  | [] => by simp [valC]
  | c :: cs => by
    have := valC_lt cs
    have hc := c.toNat_lt
    simp only [valC, List.length_cons, Nat.pow_succ]
    omega
theorem varBytes_valC : ∀ (cs : List UInt8) (x f : Nat), (∀ c, c ∈ cs → 128 ≤ c.toNat) → x < 128 → (cs = [] ∨ 0 < x) → cs.length < f → varBytes f (valC cs x) = cs ++ [UInt8.ofNat x]
  | [], x, f, _, hx, _, hf => by
    obtain ⟨g, rfl⟩ : ∃ g, f = g + 1 := ⟨f - 1, by simp at hf; omega⟩
    exact varBytes_one g x hx
  | c :: cs, x, f, hc, hx, h0, hf => by
    obtain ⟨g, rfl⟩ : ∃ g, f = g + 1 := ⟨f - 1, by simp at hf; omega⟩
    have hx0 : 0 < x := by rcases h0 with h | h; cases h; exact h
    have c1 := hc c List.mem_cons_self
    have c2 := c.toNat_lt
    have hv : 0 < valC cs x := by
      rw [valC_lin]
      have : 0 < 128 ^ cs.length := Nat.pow_pos (by omega)
      have : 0 < x * 128 ^ cs.length := Nat.mul_pos hx0 this
      omega
    have e1 : ((c.toNat - 128) + 128 * valC cs x) % 128 + 128 = c.toNat := by omega
    have e2 : ((c.toNat - 128) + 128 * valC cs x) / 128 = valC cs x := by omega
    simp only [valC]
    rw [varBytes_more g _ (by omega), e1, e2, varBytes_valC cs x g (fun d hd => hc d (List.mem_cons_of_mem _ hd)) hx (.inr hx0) (by simp at hf; omega)]
    simp
theorem varBytes_ne0 : ∀ (f n : Nat) (l : List UInt8), 1 ≤ n → varBytes f n ≠ l ++ [0]
  | 0, n, l, _ => by simp [varBytes]
  | f + 1, n, l, hn => by
    by_cases h : n < 128
    · rw [varBytes_one f n h]
      intro e
      cases l with
      | nil =>
        simp at e
        have := congrArg UInt8.toNat e
        rw [UInt8.toNat_ofNat_of_lt' (by show n < 256; omega)] at this
        have h0 : (0 : UInt8).toNat = 0 := rfl
        omega
      | cons a l => simp at e
    · rw [varBytes_more f n h]
      intro e
      cases l with
      | nil =>
        rw [List.nil_append, List.cons.injEq] at e
        have h1 := congrArg UInt8.toNat e.1
        rw [UInt8.toNat_ofNat_of_lt' (by show n % 128 + 128 < 256; omega)] at h1
        have h0 : (0 : UInt8).toNat = 0 := rfl
        omega
      | cons a l =>
        simp at e
        exact varBytes_ne0 f (n / 128) l (by omega) e.2
theorem rv_outs (b : List UInt8) (a : Int) : [C.int .i64 (rvN b a), C.int .i64 (rvEnd b a), C.bool (rvOk b a)] = rvOut (readVar b a) := by
  unfold rvN rvEnd rvOk
  cases readVar b a with
  | none => rfl
  | some p => rfl
theorem ior_var (n x i : Nat) (hn : n < 128 ^ i) (hx : x < 256) (hi : i < 5) : ior .i64 (n : Int) (ishl .i64 (iand .i64 (x : Int) 127) ((7 * i : Nat) : Int)) = ((n + x % 128 * 128 ^ i : Nat) : Int) := by
  have hp : (2 : Nat) ^ (7 * i) = 128 ^ i := by rw [Nat.pow_mul]
  have hq : 128 ^ i ≤ 128 ^ 4 := Nat.pow_le_pow_right (by omega) (by omega)
  have hm := ishl64_mod (iand .i64 (x : Int) 127) (7 * i) (by omega)
  have i1 : iand .i64 (x : Int) 127 = ((x % 128 : Nat) : Int) := by rw [iand127]; omega
  have hmul : x % 128 * 128 ^ i ≤ 127 * 128 ^ i := Nat.mul_le_mul_right _ (by omega)
  rw [i1] at hm ⊢
  have hp2 : ((x % 128 : Nat) : Int) * 2 ^ (7 * i) = ((x % 128 * 128 ^ i : Nat) : Int) := by rw [← hp]; simp
  rw [hp2] at hm
  have := ior_shift n (x % 128) (7 * i) (by rw [hp]; exact hn) (by rw [hp]; omega) (n : Int) (ishl .i64 ((x % 128 : Nat) : Int) ((7 * i : Nat) : Int)) (by omega) (by rw [hm, hp]; omega)
  rw [this, hp, wrap64 (by omega) (by omega)]
theorem iReadVar_loop (b : List UInt8) (a : Nat) (hb : b.length ≤ 281474976710656) (ha : a ≤ 9223372036854775807) : ∀ (m i n : Nat), i ≤ 5 → 5 < i + m → n < 128 ^ i →
    (vLoop E_iReadVar noInl (sg [pS, pI] [rI, rI, rB]) Try.f75 [.r, .r, .l, .r, .b] m (H_iReadVar b a n i)).eval = some (rvOut (rvGo b a (5 - i) i n)) := by
  intro m
  induction m with
  | zero => intro i n h1 h2 h3; omega
  | succ m ih =>
    intro i n h1 h2 h3
    rw [vLoop_L _ _ _ _ _ _ _ (by kernel_rfl), iReadVar_round0]
    by_cases hi : i < 5
    · have hs : 5 - i = (5 - (i + 1)) + 1 := by omega
      have w1 : IntKind.i64.wrap (IntKind.i64.wrap ((b.length : Int) - 1) - i) = (b.length : Int) - 1 - i := by
        rw [wrap64 (x := (b.length : Int) - 1) (by omega) (by omega), wrap64 (by omega) (by omega)]
      have w2 : IntKind.i64.wrap ((i : Int) + 1) = ((i + 1 : Nat) : Int) := by rw [wrap64] <;> omega
      have hi' : (i : Int) < 5 := by omega
      rw [hs]
      simp only [rvGo]
      by_cases hl : a + i < b.length
      · have hin : inB (a : Int) 0 ((b.length : Int) - 1 - i) = true := (in_iff _ _ _).2 ⟨by omega, by omega⟩
        have w3 : IntKind.i64.wrap ((a : Int) + i) = ((a + i : Nat) : Int) := by rw [wrap64] <;> omega
        have w4 : IntKind.i64.wrap (7 * (i : Int)) = ((7 * i : Nat) : Int) := by rw [wrap64] <;> omega
        have z1 : (0 : Int) ≤ ((a + i : Nat) : Int) := by omega
        have z2 : (0 : Int) ≤ ((7 * i : Nat) : Int) := by omega
        have hx := byte_lt b (a + i)
        have w5 : IntKind.i64.wrap ((b.getD (a + i) 0).toNat : Int) = ((b.getD (a + i) 0).toNat : Int) := by rw [wrap64] <;> omega
        have w6 : IntKind.i64.wrap (((a + i : Nat) : Int) + 1) = ((a + i + 1 : Nat) : Int) := by rw [wrap64] <;> omega
        have ho := ior_var n _ i h3 hx hi
        simp only [eval_must', eval_ask', eval_ret', if_true, decide_eq_true_eq, Bool.and_eq_true, hi', w1, w2, w3, w4, w5, w6, hin, z1, z2, hl, Int.toNat_natCast, Int.ofNat_lt, and_self, ho]
        generalize (b.getD (a + i) 0).toNat = x at *
        have hpow : (0 : Nat) < 128 ^ i := Nat.pow_pos (by omega)
        by_cases hc : 128 ≤ x
        · have hm : x % 128 = x - 128 := by omega
          have e := ih (i + 1) (n + (x - 128) * 128 ^ i) (by omega) (by omega) (by
            have : (x - 128) * 128 ^ i ≤ 127 * 128 ^ i := Nat.mul_le_mul_right _ (by omega)
            rw [Nat.pow_succ]; omega)
          rw [if_pos (show (128 : Int) ≤ (x : Int) by omega), if_neg (show ¬ x < 128 by omega), hm]
          exact e
        · have hm : x % 128 = x := by omega
          rw [if_neg (show ¬ (128 : Int) ≤ (x : Int) by omega), if_pos (show x < 128 by omega), hm]
          by_cases h0 : 0 < i ∧ x = 0
          · have hip : ((0 : Int) < i) = True := eq_true (by omega)
            have hx0 : ((x : Int) = 0) = True := eq_true (by omega)
            simp only [hip, hx0, if_true]
            rw [if_pos (c := (i > 0 ∧ x = 0 ∨ _)) (.inl ⟨h0.1, h0.2⟩)]
            rfl
          · have hinn : inB ((n + x * 128 ^ i : Nat) : Int) 0 1000000000 = true ↔ ¬ 1000000000 < n + x * 128 ^ i := by rw [in_iff]; omega
            have fin : (if inB ((n + x * 128 ^ i : Nat) : Int) 0 1000000000 = true then some [C.int .i64 ((n + x * 128 ^ i : Nat) : Int), C.int .i64 ((a + i + 1 : Nat) : Int), C.bool true] else some [C.int .i64 0, C.int .i64 0, C.bool false]) = some (rvOut (if i > 0 ∧ x = 0 ∨ 1000000000 < n + x * 128 ^ i then none else some (n + x * 128 ^ i, a + i + 1))) := by
              by_cases hg : 1000000000 < n + x * 128 ^ i
              · rw [if_neg (fun h => (hinn.1 h) hg), if_pos (.inr hg)]; rfl
              · rw [if_pos (hinn.2 hg), if_neg (by omega)]; rfl
            by_cases hip : (0 : Int) < i
            · have hx0 : ¬ ((x : Int) = 0) := by omega
              rw [if_pos hip, if_neg hx0]
              exact fin
            · rw [if_neg hip]
              exact fin
      · have hin : ¬ (inB (a : Int) 0 ((b.length : Int) - 1 - i) = true) := fun h => by have := (in_iff _ _ _).1 h; omega
        simp only [eval_must', eval_ask', eval_ret', if_true, decide_eq_true_eq, hi', w1, hin, hl, if_false]
        rfl
    · have : i = 5 := by omega
      subst this
      simp [eval_must', eval_ask', eval_ret', rvGo, rvOut]
theorem iReadVar_E : EnvSound Try.prog E_iReadVar := mkE_sound (by simp [iIn_sound, iIsNumber_sound])
theorem iReadVar_sound : Sound Try.prog 75 (sg [pS, pI] [rI, rI, rB]) readVarSpec := vBody_sound iReadVar_E noInl_ok Try.func75 (by kernel_rfl) fun cs outs hk h => by
  unfold readVarSpec at h
  split at h
  · simp only [Option.some.injEq, Prod.mk.injEq, Bool.and_eq_true, decide_eq_true_eq] at h
    obtain ⟨⟨h1, h2, h3⟩, rfl⟩ := h
    rename_i b a
    rw [vBody_L, iReadVar_tree, rv_outs]
    simp only [eval_must', if_true]
    by_cases ha : 0 ≤ a
    · obtain ⟨a, rfl⟩ := Int.eq_ofNat_of_zero_le ha
      have := iReadVar_loop b a h1 (by omega) 9223372036854775808 0 0 (by omega) (by omega) (by omega)
      simp only [readVar, ha, if_true, Int.toNat_natCast]
      exact this
    · rw [vLoop_L _ _ _ _ _ 9223372036854775807 _ (by kernel_rfl), iReadVar_round0]
      have hin : ¬ (inB a 0 (IntKind.i64.wrap (IntKind.i64.wrap ((b.length : Int) - 1) - 0)) = true) := fun h => by have := (in_iff _ _ _).1 h; omega
      simp only [eval_must', eval_ask', eval_ret', if_true, hin, readVar, ha, if_false, decide_eq_true_eq]
      rfl
  · cases h
theorem sReadVar_loop (b : List UInt8) (a : Nat) (hb : b.length ≤ 281474976710656) (ha : a ≤ b.length) : ∀ (m i : Nat), i ≤ 5 → 5 < i + m → a + i ≤ b.length → (∀ c, c ∈ (b.drop a).take i → 128 ≤ c.toNat) →
    (vLoop E_sReadVar noInl (sg [pS, pI] [rI, rI, rB]) Try.f113 [.r, .r, .r, .l, .r, .b] m (H_sReadVar b a (valC ((b.drop a).take i) 0 : Nat) i)).eval = some (rvOut (rvGo b a (5 - i) i (valC ((b.drop a).take i) 0))) := by
  intro m
  induction m with
  | zero => intro i h1 h2 h3 h4; omega
  | succ m ih =>
    intro i h1 h2 h3 h4
    rw [vLoop_L _ _ _ _ _ _ _ (by kernel_rfl), sReadVar_round0]
    by_cases hi : i < 5
    · have hs : 5 - i = (5 - (i + 1)) + 1 := by omega
      have w2 : IntKind.i64.wrap ((i : Int) + 1) = ((i + 1 : Nat) : Int) := by rw [wrap64] <;> omega
      have w3 : IntKind.i64.wrap ((a : Int) + i) = ((a + i : Nat) : Int) := by rw [wrap64] <;> omega
      have hi' : (i : Int) < 5 := by omega
      have hlen : ((b.drop a).take i).length = i := by simp; omega
      rw [hs]
      simp only [rvGo]
      by_cases hl : a + i < b.length
      · have w4 : IntKind.i64.wrap (7 * (i : Int)) = ((7 * i : Nat) : Int) := by rw [wrap64] <;> omega
        have w4u : IntKind.u64.wrap ((7 * i : Nat) : Int) = ((7 * i : Nat) : Int) := by rw [wrapU64] <;> omega
        have z1 : (0 : Int) ≤ ((a + i : Nat) : Int) := by omega
        have z2 : (0 : Int) ≤ ((7 * i : Nat) : Int) := by omega
        have hx := byte_lt b (a + i)
        have w5 : IntKind.i64.wrap ((b.getD (a + i) 0).toNat : Int) = ((b.getD (a + i) 0).toNat : Int) := by rw [wrap64] <;> omega
        have w6 : IntKind.i64.wrap (((a + i : Nat) : Int) + 1) = ((a + i + 1 : Nat) : Int) := by rw [wrap64] <;> omega
        have hlt := valC_lt ((b.drop a).take i)
        rw [hlen] at hlt
        have ho := ior_var _ _ i hlt hx hi
        have ee : (b.drop a).take (i + 1) = (b.drop a).take i ++ [b.getD (a + i) 0] := by
          rw [List.take_add_one]
          simp [List.getElem?_drop, List.getD_eq_getElem?_getD, hl]
        have ed : (b.take (a + i + 1)).drop a = (b.drop a).take i ++ [b.getD (a + i) 0] := by
          rw [← ee, List.take_drop]
          first | rfl | (congr 2; omega)
        have z3 : ((a + i + 1 : Nat) : Int) ≤ (b.length : Int) := by omega
        have z4 : (0 : Int) ≤ ((a + i + 1 : Nat) : Int) := by omega
        have z5 : (a : Int) ≤ ((a + i + 1 : Nat) : Int) := by omega
        have z6 : (0 : Int) ≤ (a : Int) := by omega
        have hl' : ((a + i : Nat) : Int) < (b.length : Int) := by omega
        simp only [eval_must', eval_ask', eval_ret', if_true, decide_eq_true_eq, Bool.and_eq_true, hi', w2, w3, w4, w4u, w5, w6, z1, z2, z3, z4, z5, z6, hl, hl', Int.toNat_natCast, and_self, ho, ed]
        by_cases hc : (b.getD (a + i) 0).toNat < 128
        · have hm : (b.getD (a + i) 0).toNat % 128 = (b.getD (a + i) 0).toNat := by omega
          have hlin := valC_lin ((b.drop a).take i) (b.getD (a + i) 0).toNat
          rw [hlen] at hlin
          rw [if_pos (by omega), if_pos hc, hm, ← hlin]
          have hvb := varBytes_valC ((b.drop a).take i) (b.getD (a + i) 0).toNat 5 h4 hc
          have hof : UInt8.ofNat (b.getD (a + i) 0).toNat = b.getD (a + i) 0 := by simp
          rw [hof, hlen] at hvb
          by_cases hg : 1000000000 < valC ((b.drop a).take i) (b.getD (a + i) 0).toNat
          · have hvt : varText ((valC ((b.drop a).take i) (b.getD (a + i) 0).toNat : Nat) : Int) = [] := by
              unfold varText; rw [if_neg]; intro h; have := (in_iff _ _ _).1 h; omega
            rw [hvt, if_pos (by rfl), if_pos (.inr hg)]
            rfl
          · have hvt : varText ((valC ((b.drop a).take i) (b.getD (a + i) 0).toNat : Nat) : Int) = varBytes 5 (valC ((b.drop a).take i) (b.getD (a + i) 0).toNat) := by
              unfold varText; rw [if_pos ((in_iff _ _ _).2 ⟨by omega, by omega⟩), Int.toNat_natCast]
            rw [hvt]
            by_cases h0 : 0 < i ∧ (b.getD (a + i) 0).toNat = 0
            · rw [if_pos (c := (i > 0 ∧ (b.getD (a + i) 0).toNat = 0 ∨ _)) (.inl ⟨h0.1, h0.2⟩)]
              have hb0 : b.getD (a + i) 0 = 0 := by have := h0.2; exact UInt8.toNat_inj.1 (by simpa using this)
              have hne : varBytes 5 (valC ((b.drop a).take i) (b.getD (a + i) 0).toNat) ≠ (b.drop a).take i ++ [b.getD (a + i) 0] := by
                rw [hb0]
                by_cases hv : 1 ≤ valC ((b.drop a).take i) (0 : UInt8).toNat
                · exact varBytes_ne0 5 _ _ hv
                · have : valC ((b.drop a).take i) (0 : UInt8).toNat = 0 := by omega
                  rw [this]
                  intro e
                  have := congrArg List.length e
                  rw [varBytes_one 4 0 (by omega)] at this
                  simp at this
                  omega
              have hb1 : (varBytes 5 (valC ((b.drop a).take i) (b.getD (a + i) 0).toNat) == (b.drop a).take i ++ [b.getD (a + i) 0]) = false := by simpa using hne
              rw [hb1]
              split <;> rfl
            · have hvb2 := hvb (by
                by_cases h : i = 0
                · left; exact List.length_eq_zero_iff.1 (by rw [hlen]; exact h)
                · right; omega) (by omega)
              rw [hvb2]
              have hnil : ((b.drop a).take i ++ [b.getD (a + i) 0] == ([] : List UInt8)) = false := by
                rw [beq_eq_false_iff_ne]; simp
              have hcond : ¬ (i > 0 ∧ (b.getD (a + i) 0).toNat = 0 ∨ 1000000000 < valC ((b.drop a).take i) (b.getD (a + i) 0).toNat) := by omega
              rw [hnil, if_neg hcond]
              simp [rvOut]
        · have hm : (b.getD (a + i) 0).toNat % 128 = (b.getD (a + i) 0).toNat - 128 := by omega
          have hsn := valC_snoc ((b.drop a).take i) (b.getD (a + i) 0) 0
          rw [Nat.mul_zero, Nat.add_zero, valC_lin ((b.drop a).take i) ((b.getD (a + i) 0).toNat - 128), hlen] at hsn
          have e := ih (i + 1) (by omega) (by omega) (by omega) (by
            rw [ee]
            intro c hcm
            rcases List.mem_append.1 hcm with h | h
            · exact h4 c h
            · have : c = b.getD (a + i) 0 := by simpa using h
              rw [this]; omega)
          rw [ee, hsn] at e
          rw [if_neg (by omega), if_neg hc, hm]
          exact e
      · have hl' : ¬ (((a + i : Nat) : Int) < (b.length : Int)) := by omega
        simp only [eval_must', eval_ask', eval_ret', if_true, decide_eq_true_eq, hi', w3, hl', hl, if_false]
        rfl
    · have : i = 5 := by omega
      subst this
      simp [eval_must', eval_ask', eval_ret', rvGo, rvOut]
theorem sReadVar_E : EnvSound Try.prog E_sReadVar := mkE_sound (by simp [sIn_sound, sVarText_sound])
theorem sReadVar_sound : Sound Try.prog 113 (sg [pS, pI] [rI, rI, rB]) readVarSpec := vBody_sound sReadVar_E noInl_ok Try.func113 (by kernel_rfl) fun cs outs hk h => by
  unfold readVarSpec at h
  split at h
  · simp only [Option.some.injEq, Prod.mk.injEq, Bool.and_eq_true, decide_eq_true_eq] at h
    obtain ⟨⟨h1, h2, h3⟩, rfl⟩ := h
    rename_i b a
    rw [vBody_L, sReadVar_tree, rv_outs]
    by_cases hin : inB a 0 (b.length : Int) = true
    · have ha := (in_iff _ _ _).1 hin
      obtain ⟨a, rfl⟩ := Int.eq_ofNat_of_zero_le ha.1
      have := sReadVar_loop b a h1 (by omega) 9223372036854775808 0 (by omega) (by omega) (by omega) (by simp)
      simp only [eval_must', eval_ask', if_true, hin, readVar, ha.1, Int.toNat_natCast]
      exact this
    · simp only [eval_must', eval_ask', eval_ret', if_true, hin, readVar]
      by_cases ha : 0 ≤ a
      · have : ¬ (a.toNat + 0 < b.length) := fun h => hin ((in_iff _ _ _).2 ⟨ha, by omega⟩)
        simp only [ha, if_true, rvGo, this, if_false]
        rfl
      · simp only [ha, if_false]
        rfl
  · cases h

end Go.Proofs.Ythpcgbnochcbcaa.V

namespace Go.Proofs.Ythpcgbnochcbcaa.V
noncomputable section

def prefixOf (b t : List UInt8) : Bool := decide (b.take t.length = t)
def prefixSpec : Spec := fun cs => match cs with
  | [.str b, .str t] => some (true, [.bool (prefixOf b t)])
  | _ => none
def E_slHasPrefix : Env := mkE [] []
def E_sHasPrefix : Env := mkE [] [(110, (sg [pS, pS] [rB]), prefixSpec)]

/-- does a text stand there? -/
def hasAt (b : List UInt8) (at' : Int) (t : List UInt8) : Bool := decide (0 ≤ at' ∧ at' ≤ b.length ∧ (b.drop at'.toNat).take t.length = t)
def hasAtSpec : Spec := fun cs => match cs with
  | [.str b, .int .i64 a, .str t] => some (true, [.bool (hasAt b a t)])
  | _ => none
def E_iHasAt : Env := mkE [] [(79, (sg [pI, pI, pI] [rB]), inSpec), (98, (sg [pS, pS] [rB]), prefixSpec)]

def sizedOf (place n : Int) : List UInt8 := fixOf n 4 ++ fixOf (crcMore 0 (fixOf place 8 ++ fixOf n 4) : Nat) 4
def frameText (v place : Int) (r : List UInt8) : List UInt8 :=
  if inB v 1 2 && inB place 0 1000000000 && decide (r.length ≤ 60) then (if v = 2 then sizedOf place r.length else varText r.length) ++ r ++ fixOf (crcMore 0 r : Nat) 4 else []
def endMark (v place : Int) : List UInt8 :=
  if inB v 1 2 && inB place 0 1000000000 then (if v = 1 then [255, 255, 255, 255, 15] else sizedOf place 4294967295) else []
def markAt (v place : Int) (b : List UInt8) (a : Int) : Bool := decide (endMark v place ≠ []) && hasAt b a (endMark v place)
def sizedSpec : Spec := fun cs => match cs with
  | [.int .i64 p, .int .i64 n] => some (decide (-9223372036854775808 ≤ p) && decide (p ≤ 9223372036854775807) && (decide (-9223372036854775808 ≤ n) && decide (n ≤ 9223372036854775807)), [.str (sizedOf p n)])
  | _ => none
def frameSpec : Spec := fun cs => match cs with
  | [.int .i64 v, .int .i64 p, .str r] => some (decide (r.length ≤ 281474976710656), [.str (frameText v p r)])
  | _ => none
def endMarkSpec : Spec := fun cs => match cs with
  | [.int .i64 v, .int .i64 p] => some (true, [.str (endMark v p)])
  | _ => none
def markAtSpec : Spec := fun cs => match cs with
  | [.int .i64 v, .int .i64 p, .str b, .int .i64 a] => some (decide (b.length ≤ 281474976710656), [.bool (markAt v p b a)])
  | _ => none
def E_iSized : Env := mkE [] [(72, (sg [pS] [rI]), sumOfSpec), (71, (sg [pI, pI] [rS]), fixSpec)]
def E_sFrameText : Env := mkE [] [(80, (sg [pI, pI, pI] [rB]), inSpec), (78, (sg [pS] [rI]), sumOfSpec), (77, (sg [pI, pI] [rS]), fixSpec), (105, (sg [pI] [rS]), varTextSpec)]
def E_iFrameText : Env := mkE [] [(66, (sg [pI] [rB]), isVersionSpec), (72, (sg [pS] [rI]), sumOfSpec), (67, (sg [pI] [rB]), isNumberSpec), (71, (sg [pI, pI] [rS]), fixSpec), (70, (sg [pI] [rS]), varTextSpec), (68, (sg [pI, pI] [rS]), sizedSpec)]
def E_sEndMark : Env := mkE [] [(80, (sg [pI, pI, pI] [rB]), inSpec), (78, (sg [pS] [rI]), sumOfSpec), (77, (sg [pI, pI] [rS]), fixSpec)]
def E_iEndMark : Env := mkE [] [(66, (sg [pI] [rB]), isVersionSpec), (67, (sg [pI] [rB]), isNumberSpec), (68, (sg [pI, pI] [rS]), sizedSpec)]
def E_sMarkAt : Env := mkE [] [(80, (sg [pI, pI, pI] [rB]), inSpec), (106, (sg [pI, pI] [rS]), endMarkSpec)]
def E_iMarkAt : Env := mkE [] [(69, (sg [pS, pI, pS] [rB]), hasAtSpec), (26, (sg [pI, pI] [rS]), endMarkSpec)]

end
end Go.Proofs.Ythpcgbnochcbcaa.V

namespace Go.Proofs.Ythpcgbnochcbcaa.V
set_option maxRecDepth 100000
theorem slHasPrefix_tree (H : List Pt → Nat → St → T (List C)) (b : List UInt8) (t : List UInt8) : vBodyL E_slHasPrefix noInl (sg [pS, pS] [rB]) Try.f110 H [C.str b, C.str t] =
 (.must true
 (.ask (decide ((↑t.length : Int) ≤ (↑b.length : Int)))
  (.must (decide ((0 : Int) ≤ (↑t.length : Int)) && decide ((↑t.length : Int) ≤ (↑b.length : Int)))
   (.ask (List.drop (0 : Nat) (List.take (↑t.length : Int).toNat b) == t)
    (.must true
     (.ret [C.bool true]))
    (.must true
     (.ret [C.bool false]))))
  (.must true
   (.ret [C.bool false])))) := by kernel_rfl
theorem sHasPrefix_tree (H : List Pt → Nat → St → T (List C)) (b : List UInt8) (t : List UInt8) : vBodyL E_sHasPrefix noInl (sg [pS, pS] [rB]) Try.f98 H [C.str b, C.str t] =
 (.must true
 (.must true
  (.must true
   (.must true
    (.ask (prefixOf b t)
     (.must true
      (.ret [C.bool true]))
     (.must true
      (.ret [C.bool false]))))))) := by kernel_rfl
theorem iHasAt_tree (H : List Pt → Nat → St → T (List C)) (b : List UInt8) (a : Int) (t : List UInt8) : vBodyL E_iHasAt noInl (sg [pS, pI, pS] [rB]) Try.f69 H [C.str b, C.int IntKind.i64 a, C.str t] =
 (.must true
 (.must true
  (.must true
   (.must true
    (.ask (inB a (0 : Int) (↑b.length : Int))
     (.must (decide ((0 : Int) ≤ a) && decide (a ≤ (↑b.length : Int)))
      (.must true
       (.must true
        (.must true
         (.ask (prefixOf (List.drop a.toNat (List.take b.length b)) t)
          (.must true
           (.ret [C.bool true]))
          (.must true
           (.ret [C.bool false])))))))
     (.must true
      (.ret [C.bool false]))))))) := by kernel_rfl
theorem iSized_tree (H : List Pt → Nat → St → T (List C)) (p : Int) (n : Int) : vBodyL E_iSized noInl (sg [pI, pI] [rS]) Try.f68 H [C.int IntKind.i64 p, C.int IntKind.i64 n] =
 (.must true
 (.must true
  (.must (decide ((-9223372036854775808 : Int) ≤ n) && decide (n ≤ (9223372036854775807 : Int)))
   (.must true
    (.must true
     (.must (decide ((-9223372036854775808 : Int) ≤ p) && decide (p ≤ (9223372036854775807 : Int)))
      (.must true
       (.must (decide ((fixOf p (8 : Int)).length + (fixOf n (4 : Int)).length ≤ (9223372036854775807 : Nat)))
        (.must true
         (.must (decide ((fixOf p (8 : Int) ++ fixOf n (4 : Int)).length ≤ (281474976710656 : Nat)))
          (.must true
           (.must true
            (.must (decide ((-9223372036854775808 : Int) ≤ Int.ofNat (crcMore (0 : Nat) (fixOf p (8 : Int) ++ fixOf n (4 : Int)))) &&
  decide (Int.ofNat (crcMore (0 : Nat) (fixOf p (8 : Int) ++ fixOf n (4 : Int))) ≤ (9223372036854775807 : Int)))
             (.must true
              (.must (decide
  ((fixOf n (4 : Int)).length +
      (fixOf (Int.ofNat (crcMore (0 : Nat) (fixOf p (8 : Int) ++ fixOf n (4 : Int)))) (4 : Int)).length ≤
    (9223372036854775807 : Nat)))
               (.must true
                (.ret [C.str (fixOf n (4 : Int) ++ fixOf (Int.ofNat (crcMore (0 : Nat) (fixOf p (8 : Int) ++ fixOf n (4 : Int)))) (4 : Int))]))))))))))))))))) := by kernel_rfl
theorem sFrameText_tree (H : List Pt → Nat → St → T (List C)) (v : Int) (p : Int) (r : List UInt8) : vBodyL E_sFrameText noInl (sg [pI, pI, pS] [rS]) Try.f90 H [C.int IntKind.i64 v, C.int IntKind.i64 p, C.str r] =
 (.must true
 (.must true
  (.must true
   (.must true
    (.ask (inB v (1 : Int) (2 : Int))
     (.must true
      (.must true
       (.must true
        (.ask (inB p (0 : Int) (1000000000 : Int))
         (.ask (decide ((60 : Int) < (↑r.length : Int)))
          (.must true
           (.ret [C.str []]))
          (.must true
           (.must (decide (r.length ≤ (281474976710656 : Nat)))
            (.must true
             (.must true
              (.must (decide ((-9223372036854775808 : Int) ≤ Int.ofNat (crcMore (0 : Nat) r)) &&
  decide (Int.ofNat (crcMore (0 : Nat) r) ≤ (9223372036854775807 : Int)))
               (.must true
                (.ask (decide (v = (1 : Int)))
                 (.must true
                  (.must true
                   (.must true
                    (.must (decide ((varText (↑r.length : Int)).length + r.length ≤ (9223372036854775807 : Nat)))
                     (.must (decide
  ((varText (↑r.length : Int) ++ r).length + (fixOf (Int.ofNat (crcMore (0 : Nat) r)) (4 : Int)).length ≤
    (9223372036854775807 : Nat)))
                      (.must true
                       (.ret [C.str (varText (↑r.length : Int) ++ r ++ fixOf (Int.ofNat (crcMore (0 : Nat) r)) (4 : Int))])))))))
                 (.must true
                  (.must (decide ((-9223372036854775808 : Int) ≤ (↑r.length : Int)) && decide ((↑r.length : Int) ≤ (9223372036854775807 : Int)))
                   (.must true
                    (.must true
                     (.must (decide ((-9223372036854775808 : Int) ≤ p) && decide (p ≤ (9223372036854775807 : Int)))
                      (.must true
                       (.must (decide ((fixOf p (8 : Int)).length + (fixOf (↑r.length : Int) (4 : Int)).length ≤ (9223372036854775807 : Nat)))
                        (.must true
                         (.must (decide ((fixOf p (8 : Int) ++ fixOf (↑r.length : Int) (4 : Int)).length ≤ (281474976710656 : Nat)))
                          (.must true
                           (.must true
                            (.must (decide
    ((-9223372036854775808 : Int) ≤
      Int.ofNat (crcMore (0 : Nat) (fixOf p (8 : Int) ++ fixOf (↑r.length : Int) (4 : Int)))) &&
  decide
    (Int.ofNat (crcMore (0 : Nat) (fixOf p (8 : Int) ++ fixOf (↑r.length : Int) (4 : Int))) ≤
      (9223372036854775807 : Int)))
                             (.must true
                              (.must (decide
  ((fixOf (↑r.length : Int) (4 : Int)).length +
      (fixOf (Int.ofNat (crcMore (0 : Nat) (fixOf p (8 : Int) ++ fixOf (↑r.length : Int) (4 : Int))))
          (4 : Int)).length ≤
    (9223372036854775807 : Nat)))
                               (.must (decide
  ((fixOf (↑r.length : Int) (4 : Int) ++
          fixOf (Int.ofNat (crcMore (0 : Nat) (fixOf p (8 : Int) ++ fixOf (↑r.length : Int) (4 : Int))))
            (4 : Int)).length +
      r.length ≤
    (9223372036854775807 : Nat)))
                                (.must (decide
  ((fixOf (↑r.length : Int) (4 : Int) ++
            fixOf (Int.ofNat (crcMore (0 : Nat) (fixOf p (8 : Int) ++ fixOf (↑r.length : Int) (4 : Int)))) (4 : Int) ++
          r).length +
      (fixOf (Int.ofNat (crcMore (0 : Nat) r)) (4 : Int)).length ≤
    (9223372036854775807 : Nat)))
                                 (.must true
                                  (.ret [C.str
    (fixOf (↑r.length : Int) (4 : Int) ++
          fixOf (Int.ofNat (crcMore (0 : Nat) (fixOf p (8 : Int) ++ fixOf (↑r.length : Int) (4 : Int)))) (4 : Int) ++
        r ++
      fixOf (Int.ofNat (crcMore (0 : Nat) r)) (4 : Int))]))))))))))))))))))))))))))
         (.must true
          (.ret [C.str []]))))))
     (.must true
      (.ret [C.str []]))))))) := by kernel_rfl
theorem iFrameText_tree (H : List Pt → Nat → St → T (List C)) (v : Int) (p : Int) (r : List UInt8) : vBodyL E_iFrameText noInl (sg [pI, pI, pS] [rS]) Try.f28 H [C.int IntKind.i64 v, C.int IntKind.i64 p, C.str r] =
 (.must true
 (.must true
  (.must true
   (.must true
    (.ask (inB v (1 : Int) (2 : Int))
     (.must true
      (.must true
       (.must true
        (.ask (inB p (0 : Int) (1000000000 : Int))
         (.ask (decide ((60 : Int) < (↑r.length : Int)))
          (.must true
           (.ret [C.str []]))
          (.must true
           (.must true
            (.must true
             (.ask (decide (v = (2 : Int)))
              (.must true
               (.must (decide ((-9223372036854775808 : Int) ≤ p) && decide (p ≤ (9223372036854775807 : Int)) &&
  (decide ((-9223372036854775808 : Int) ≤ (↑r.length : Int)) &&
    decide ((↑r.length : Int) ≤ (9223372036854775807 : Int))))
                (.must true
                 (.must (decide ((sizedOf p (↑r.length : Int)).length + r.length ≤ (9223372036854775807 : Nat)))
                  (.must true
                   (.must (decide (r.length ≤ (281474976710656 : Nat)))
                    (.must true
                     (.must true
                      (.must (decide ((-9223372036854775808 : Int) ≤ Int.ofNat (crcMore (0 : Nat) r)) &&
  decide (Int.ofNat (crcMore (0 : Nat) r) ≤ (9223372036854775807 : Int)))
                       (.must true
                        (.must (decide
  ((sizedOf p (↑r.length : Int) ++ r).length + (fixOf (Int.ofNat (crcMore (0 : Nat) r)) (4 : Int)).length ≤
    (9223372036854775807 : Nat)))
                         (.must true
                          (.ret [C.str (sizedOf p (↑r.length : Int) ++ r ++ fixOf (Int.ofNat (crcMore (0 : Nat) r)) (4 : Int))])))))))))))))
              (.must (decide ((varText (↑r.length : Int)).length + r.length ≤ (9223372036854775807 : Nat)))
               (.must true
                (.must (decide (r.length ≤ (281474976710656 : Nat)))
                 (.must true
                  (.must true
                   (.must (decide ((-9223372036854775808 : Int) ≤ Int.ofNat (crcMore (0 : Nat) r)) &&
  decide (Int.ofNat (crcMore (0 : Nat) r) ≤ (9223372036854775807 : Int)))
                    (.must true
                     (.must (decide
  ((varText (↑r.length : Int) ++ r).length + (fixOf (Int.ofNat (crcMore (0 : Nat) r)) (4 : Int)).length ≤
    (9223372036854775807 : Nat)))
                      (.must true
                       (.ret [C.str (varText (↑r.length : Int) ++ r ++ fixOf (Int.ofNat (crcMore (0 : Nat) r)) (4 : Int))])))))))))))))))
         (.must true
          (.ret [C.str []]))))))
     (.must true
      (.ret [C.str []]))))))) := by kernel_rfl
theorem sEndMark_tree (H : List Pt → Nat → St → T (List C)) (v : Int) (p : Int) : vBodyL E_sEndMark noInl (sg [pI, pI] [rS]) Try.f106 H [C.int IntKind.i64 v, C.int IntKind.i64 p] =
 (.must true
 (.must true
  (.must true
   (.must true
    (.ask (inB v (1 : Int) (2 : Int))
     (.must true
      (.must true
       (.must true
        (.ask (inB p (0 : Int) (1000000000 : Int))
         (.ask (decide (v = (1 : Int)))
          (.must true
           (.ret [C.str [(255 : UInt8), (255 : UInt8), (255 : UInt8), (255 : UInt8), (15 : UInt8)]]))
          (.must true
           (.must true
            (.must true
             (.must true
              (.must (decide ((-9223372036854775808 : Int) ≤ p) && decide (p ≤ (9223372036854775807 : Int)))
               (.must true
                (.must (decide ((fixOf p (8 : Int)).length + ((3 : Nat) + (1 : Nat)) ≤ (9223372036854775807 : Nat)))
                 (.must true
                  (.must (decide ((fixOf p (8 : Int) ++ fixOf (4294967295 : Int) (4 : Int)).length ≤ (281474976710656 : Nat)))
                   (.must true
                    (.must true
                     (.must (decide
    ((-9223372036854775808 : Int) ≤
      Int.ofNat (crcMore (0 : Nat) (fixOf p (8 : Int) ++ fixOf (4294967295 : Int) (4 : Int)))) &&
  decide
    (Int.ofNat (crcMore (0 : Nat) (fixOf p (8 : Int) ++ fixOf (4294967295 : Int) (4 : Int))) ≤
      (9223372036854775807 : Int)))
                      (.must true
                       (.must (decide
  ((3 : Nat) + (1 : Nat) +
      (fixOf (Int.ofNat (crcMore (0 : Nat) (fixOf p (8 : Int) ++ fixOf (4294967295 : Int) (4 : Int))))
          (4 : Int)).length ≤
    (9223372036854775807 : Nat)))
                        (.must true
                         (.ret [C.str
    (fixOf (4294967295 : Int) (4 : Int) ++
      fixOf (Int.ofNat (crcMore (0 : Nat) (fixOf p (8 : Int) ++ fixOf (4294967295 : Int) (4 : Int)))) (4 : Int))])))))))))))))))))
         (.must true
          (.ret [C.str []]))))))
     (.must true
      (.ret [C.str []]))))))) := by kernel_rfl
theorem iEndMark_tree (H : List Pt → Nat → St → T (List C)) (v : Int) (p : Int) : vBodyL E_iEndMark noInl (sg [pI, pI] [rS]) Try.f26 H [C.int IntKind.i64 v, C.int IntKind.i64 p] =
 (.must true
 (.must true
  (.must true
   (.must true
    (.ask (inB v (1 : Int) (2 : Int))
     (.must true
      (.must true
       (.must true
        (.ask (inB p (0 : Int) (1000000000 : Int))
         (.ask (decide (v = (1 : Int)))
          (.must true
           (.ret [C.str [(255 : UInt8), (255 : UInt8), (255 : UInt8), (255 : UInt8), (15 : UInt8)]]))
          (.must true
           (.must (decide ((-9223372036854775808 : Int) ≤ p) && decide (p ≤ (9223372036854775807 : Int)) &&
  (decide ((-9223372036854775808 : Int) ≤ (4294967295 : Int)) &&
    decide ((4294967295 : Int) ≤ (9223372036854775807 : Int))))
            (.must true
             (.must true
              (.ret [C.str (sizedOf p (4294967295 : Int))]))))))
         (.must true
          (.ret [C.str []]))))))
     (.must true
      (.ret [C.str []]))))))) := by kernel_rfl
theorem sMarkAt_tree (H : List Pt → Nat → St → T (List C)) (v : Int) (p : Int) (b : List UInt8) (a : Int) : vBodyL E_sMarkAt noInl (sg [pI, pI, pS, pI] [rB]) Try.f102 H
  [C.int IntKind.i64 v, C.int IntKind.i64 p, C.str b, C.int IntKind.i64 a] =
 (.must true
 (.must true
  (.must true
   (.must true
    (.ask (!endMark v p == [])
     (.must true
      (.must true
       (.must true
        (.ask (inB a (0 : Int) (IntKind.i64.wrap ((↑b.length : Int) - (↑(endMark v p).length : Int))))
         (.must (decide ((0 : Int) ≤ IntKind.i64.wrap (a + (↑(endMark v p).length : Int))) &&
    decide (IntKind.i64.wrap (a + (↑(endMark v p).length : Int)) ≤ (↑b.length : Int)) &&
  (decide ((0 : Int) ≤ a) && decide (a ≤ IntKind.i64.wrap (a + (↑(endMark v p).length : Int)))))
          (.ask (List.drop a.toNat (List.take (IntKind.i64.wrap (a + (↑(endMark v p).length : Int))).toNat b) == endMark v p)
           (.must true
            (.ret [C.bool true]))
           (.must true
            (.ret [C.bool false]))))
         (.must true
          (.ret [C.bool false]))))))
     (.must true
      (.ret [C.bool false]))))))) := by kernel_rfl
theorem iMarkAt_tree (H : List Pt → Nat → St → T (List C)) (v : Int) (p : Int) (b : List UInt8) (a : Int) : vBodyL E_iMarkAt noInl (sg [pI, pI, pS, pI] [rB]) Try.f27 H
  [C.int IntKind.i64 v, C.int IntKind.i64 p, C.str b, C.int IntKind.i64 a] =
 (.must true
 (.must true
  (.must true
   (.must true
    (.ask (!endMark v p == [])
     (.must true
      (.must true
       (.must true
        (.ask (hasAt b a (endMark v p))
         (.must true
          (.ret [C.bool true]))
         (.must true
          (.ret [C.bool false]))))))
     (.must true
      (.ret [C.bool false]))))))) := by kernel_rfl
end Go.Proofs.Ythpcgbnochcbcaa.V

namespace Go.Proofs.Ythpcgbnochcbcaa.V

theorem slHasPrefix_E : EnvSound Try.prog E_slHasPrefix := mkE_sound (by simp [])
theorem slHasPrefix_sound : Sound Try.prog 110 (sg [pS, pS] [rB]) prefixSpec := vBody_sound slHasPrefix_E noInl_ok Try.func110 (by kernel_rfl) fun cs outs hk h => by
  unfold prefixSpec at h
  split at h
  · simp only [Option.some.injEq, Prod.mk.injEq, true_and] at h
    rename_i b t
    rw [← h, vBody_L, slHasPrefix_tree]
    simp only [eval_must', eval_ask', eval_ret', if_true, decide_eq_true_eq, Bool.and_eq_true, Int.toNat_natCast, List.drop_zero, beq_iff_eq, Int.ofNat_le]
    by_cases hl : t.length ≤ b.length
    · have z : (0 : Int) ≤ (t.length : Int) := by omega
      by_cases he : b.take t.length = t
      · have : prefixOf b t = true := by unfold prefixOf; rw [decide_eq_true he]
        simp only [hl, z, he, if_true, and_self, this]
      · have : prefixOf b t = false := by unfold prefixOf; rw [decide_eq_false he]
        simp only [hl, z, he, if_true, if_false, and_self, this]
    · have : prefixOf b t = false := by
        unfold prefixOf
        rw [decide_eq_false]
        intro he
        have := congrArg List.length he
        simp at this
        omega
      simp only [hl, if_false, this]
  · cases h
theorem sHasPrefix_E : EnvSound Try.prog E_sHasPrefix := mkE_sound (by simp [slHasPrefix_sound])
theorem sHasPrefix_sound : Sound Try.prog 98 (sg [pS, pS] [rB]) prefixSpec := vBody_sound sHasPrefix_E noInl_ok Try.func98 (by kernel_rfl) fun cs outs hk h => by
  unfold prefixSpec at h
  split at h
  · simp only [Option.some.injEq, Prod.mk.injEq, true_and] at h
    rename_i b t
    rw [← h, vBody_L, sHasPrefix_tree]
    by_cases hp : prefixOf b t = true <;> simp [eval_must', eval_ask', eval_ret', hp]
  · cases h

theorem hasAt_iff (b : List UInt8) (a : Int) (t : List UInt8) : hasAt b a t = true ↔ (0 ≤ a ∧ a ≤ b.length ∧ (b.drop a.toNat).take t.length = t) := by simp [hasAt]
theorem iHasAt_E : EnvSound Try.prog E_iHasAt := mkE_sound (by simp [iIn_sound, sHasPrefix_sound])
theorem iHasAt_sound : Sound Try.prog 69 (sg [pS, pI, pS] [rB]) hasAtSpec := vBody_sound iHasAt_E noInl_ok Try.func69 (by kernel_rfl) fun cs outs hk h => by
  unfold hasAtSpec at h
  split at h
  · simp only [Option.some.injEq, Prod.mk.injEq, true_and] at h
    rename_i b a t
    rw [← h, vBody_L, iHasAt_tree]
    simp only [eval_must', eval_ask', eval_ret', if_true, decide_eq_true_eq, Bool.and_eq_true, List.take_length]
    by_cases hin : inB a 0 (b.length : Int) = true
    · have hh := (in_iff _ _ _).1 hin
      have e : hasAt b a t = prefixOf (b.drop a.toNat) t := by
        unfold hasAt prefixOf
        simp [hh]
      simp only [hin, hh, if_true, and_self, e]
      by_cases hp : prefixOf (b.drop a.toNat) t = true <;> simp [hp]
    · have e : hasAt b a t = false := by
        cases hx : hasAt b a t with
        | true => have := (hasAt_iff _ _ _).1 hx; exact absurd ((in_iff _ _ _).2 ⟨this.1, this.2.1⟩) hin
        | false => rfl
      simp only [hin, if_false, e]
      rfl
  · cases h

theorem varBytes_len : ∀ (k n : Nat), (varBytes k n).length ≤ k
  | 0, _ => by simp [varBytes]
  | k + 1, n => by
    by_cases h : n < 128
    · rw [varBytes_one k n h]; simp
    · rw [varBytes_more k n h]; have := varBytes_len k (n / 128); simp; omega
theorem varText_len (n : Int) : (varText n).length ≤ 5 := by
  unfold varText; split
  · exact varBytes_len 5 _
  · simp
theorem sizedOf_len (p n : Int) : (sizedOf p n).length ≤ 16 := by
  unfold sizedOf
  have := fixOf_len n 4
  have := fixOf_len (crcMore 0 (fixOf p 8 ++ fixOf n 4) : Nat) 4
  rw [List.length_append]; omega
theorem endMark_len (v p : Int) : (endMark v p).length ≤ 16 := by
  unfold endMark
  have := sizedOf_len p 4294967295
  split
  · split
    · simp
    · exact this
  · simp
theorem iSized_E : EnvSound Try.prog E_iSized := mkE_sound (by simp [iSumOf_sound, iFixText_sound])
theorem iSized_sound : Sound Try.prog 68 (sg [pI, pI] [rS]) sizedSpec := vBody_sound iSized_E noInl_ok Try.func68 (by kernel_rfl) fun cs outs hk h => by
  unfold sizedSpec at h
  split at h
  · simp only [Option.some.injEq, Prod.mk.injEq, Bool.and_eq_true, decide_eq_true_eq] at h
    obtain ⟨⟨⟨a1, a2⟩, a3, a4⟩, rfl⟩ := h
    rename_i p n
    rw [vBody_L, iSized_tree]
    have l1 := fixOf_len p 8
    have l2 := fixOf_len n 4
    have l3 := fixOf_len (crcMore 0 (fixOf p 8 ++ fixOf n 4) : Nat) 4
    have c1 := crcMore_lt 0 (fixOf p 8 ++ fixOf n 4) (by omega)
    simp only [eval_must', eval_ask', eval_ret', if_true, decide_eq_true_eq, Bool.and_eq_true, List.length_append, Int.ofNat_eq_natCast]
    repeat rw [if_pos (by omega)]
    rfl
  · cases h
theorem sFrameText_E : EnvSound Try.prog E_sFrameText := mkE_sound (by simp [sIn_sound, sSumOf_sound, sFixText_sound, sVarText_sound])
theorem sFrameText_sound : Sound Try.prog 90 (sg [pI, pI, pS] [rS]) frameSpec := vBody_sound sFrameText_E noInl_ok Try.func90 (by kernel_rfl) fun cs outs hk h => by
  unfold frameSpec at h
  split at h
  · simp only [Option.some.injEq, Prod.mk.injEq, decide_eq_true_eq] at h
    obtain ⟨h1, rfl⟩ := h
    rename_i v p r
    rw [vBody_L, sFrameText_tree]
    by_cases hv : inB v 1 2 = true
    · by_cases hp : inB p 0 1000000000 = true
      · have hv' := (in_iff _ _ _).1 hv
        have hp' := (in_iff _ _ _).1 hp
        by_cases hr : (60 : Int) < r.length
        · have : ¬ r.length ≤ 60 := by omega
          simp [eval_must', eval_ask', eval_ret', hv, hp, hr, frameText, this]
        · have hr' : r.length ≤ 60 := by omega
          have l1 := fixOf_len p 8
          have l2 := fixOf_len (r.length : Int) 4
          have l3 := fixOf_len (crcMore 0 (fixOf p 8 ++ fixOf (r.length : Int) 4) : Nat) 4
          have l4 := fixOf_len (crcMore 0 r : Nat) 4
          have l5 := varText_len (r.length : Int)
          have c1 := crcMore_lt 0 (fixOf p 8 ++ fixOf (r.length : Int) 4) (by omega)
          have c2 := crcMore_lt 0 r (by omega)
          by_cases h1 : v = 1
          · have h1t := eq_true h1
            have e : frameText v p r = varText (r.length : Int) ++ r ++ fixOf (crcMore 0 r : Nat) 4 := by
              unfold frameText; rw [hv, hp, decide_eq_true hr', if_neg (show ¬ v = 2 by omega)]; rfl
            rw [e]
            simp only [eval_must', eval_ask', eval_ret', if_true, hv, hp, hr, h1t, if_false, decide_eq_true_eq, Bool.and_eq_true, List.length_append, Int.ofNat_eq_natCast]
            repeat rw [if_pos (by omega)]
          · have e : frameText v p r = sizedOf p (r.length : Int) ++ r ++ fixOf (crcMore 0 r : Nat) 4 := by
              unfold frameText; rw [hv, hp, decide_eq_true hr', if_pos (show v = 2 by omega)]; rfl
            rw [e]
            unfold sizedOf
            simp only [eval_must', eval_ask', eval_ret', if_true, hv, hp, hr, h1, if_false, decide_eq_true_eq, Bool.and_eq_true, List.length_append, Int.ofNat_eq_natCast]
            repeat rw [if_pos (by omega)]
      · simp [eval_must', eval_ask', eval_ret', hv, hp, frameText]
    · simp [eval_must', eval_ask', eval_ret', hv, frameText]
  · cases h
theorem iFrameText_E : EnvSound Try.prog E_iFrameText := mkE_sound (by simp [iIsVersion_sound, iSumOf_sound, iIsNumber_sound, iFixText_sound, iVarText_sound, iSized_sound])
theorem iFrameText_sound : Sound Try.prog 28 (sg [pI, pI, pS] [rS]) frameSpec := vBody_sound iFrameText_E noInl_ok Try.func28 (by kernel_rfl) fun cs outs hk h => by
  unfold frameSpec at h
  split at h
  · simp only [Option.some.injEq, Prod.mk.injEq, decide_eq_true_eq] at h
    obtain ⟨h1, rfl⟩ := h
    rename_i v p r
    rw [vBody_L, iFrameText_tree]
    by_cases hv : inB v 1 2 = true
    · by_cases hp : inB p 0 1000000000 = true
      · have hv' := (in_iff _ _ _).1 hv
        have hp' := (in_iff _ _ _).1 hp
        by_cases hr : (60 : Int) < r.length
        · have : ¬ r.length ≤ 60 := by omega
          simp [eval_must', eval_ask', eval_ret', hv, hp, hr, frameText, this]
        · have hr' : r.length ≤ 60 := by omega
          have l1 := sizedOf_len p (r.length : Int)
          have l4 := fixOf_len (crcMore 0 r : Nat) 4
          have l5 := varText_len (r.length : Int)
          have c2 := crcMore_lt 0 r (by omega)
          by_cases h1 : v = 2
          · have h1t := eq_true h1
            have e : frameText v p r = sizedOf p (r.length : Int) ++ r ++ fixOf (crcMore 0 r : Nat) 4 := by
              unfold frameText; rw [hv, hp, decide_eq_true hr', if_pos h1]; rfl
            rw [e]
            simp only [eval_must', eval_ask', eval_ret', if_true, hv, hp, hr, h1t, if_false, decide_eq_true_eq, Bool.and_eq_true, List.length_append, Int.ofNat_eq_natCast]
            repeat rw [if_pos (by omega)]
          · have e : frameText v p r = varText (r.length : Int) ++ r ++ fixOf (crcMore 0 r : Nat) 4 := by
              unfold frameText; rw [hv, hp, decide_eq_true hr', if_neg h1]; rfl
            rw [e]
            simp only [eval_must', eval_ask', eval_ret', if_true, hv, hp, hr, h1, if_false, decide_eq_true_eq, Bool.and_eq_true, List.length_append, Int.ofNat_eq_natCast]
            repeat rw [if_pos (by omega)]
      · simp [eval_must', eval_ask', eval_ret', hv, hp, frameText]
    · simp [eval_must', eval_ask', eval_ret', hv, frameText]
  · cases h
theorem sEndMark_E : EnvSound Try.prog E_sEndMark := mkE_sound (by simp [sIn_sound, sSumOf_sound, sFixText_sound])
theorem sEndMark_sound : Sound Try.prog 106 (sg [pI, pI] [rS]) endMarkSpec := vBody_sound sEndMark_E noInl_ok Try.func106 (by kernel_rfl) fun cs outs hk h => by
  unfold endMarkSpec at h
  split at h
  · simp only [Option.some.injEq, Prod.mk.injEq, true_and] at h
    rename_i v p
    rw [← h, vBody_L, sEndMark_tree]
    by_cases hv : inB v 1 2 = true
    · by_cases hp : inB p 0 1000000000 = true
      · have hp' := (in_iff _ _ _).1 hp
        have l1 := fixOf_len p 8
        have l2 := fixOf_len 4294967295 4
        have l3 := fixOf_len (crcMore 0 (fixOf p 8 ++ fixOf 4294967295 4) : Nat) 4
        have c1 := crcMore_lt 0 (fixOf p 8 ++ fixOf 4294967295 4) (by omega)
        by_cases h1 : v = 1
        · have h1t := eq_true h1
          have e : endMark v p = [255, 255, 255, 255, 15] := by unfold endMark; rw [hv, hp, if_pos h1]; rfl
          rw [e]
          simp only [eval_must', eval_ask', eval_ret', if_true, hv, hp, h1t, decide_true]
        · have e : endMark v p = sizedOf p 4294967295 := by unfold endMark; rw [hv, hp, if_neg h1]; rfl
          rw [e]
          unfold sizedOf
          simp only [eval_must', eval_ask', eval_ret', if_true, hv, hp, h1, if_false, decide_eq_true_eq, Bool.and_eq_true, List.length_append, Int.ofNat_eq_natCast]
          repeat rw [if_pos (by omega)]
      · simp [eval_must', eval_ask', eval_ret', hv, hp, endMark]
    · simp [eval_must', eval_ask', eval_ret', hv, endMark]
  · cases h
theorem iEndMark_E : EnvSound Try.prog E_iEndMark := mkE_sound (by simp [iIsVersion_sound, iIsNumber_sound, iSized_sound])
theorem iEndMark_sound : Sound Try.prog 26 (sg [pI, pI] [rS]) endMarkSpec := vBody_sound iEndMark_E noInl_ok Try.func26 (by kernel_rfl) fun cs outs hk h => by
  unfold endMarkSpec at h
  split at h
  · simp only [Option.some.injEq, Prod.mk.injEq, true_and] at h
    rename_i v p
    rw [← h, vBody_L, iEndMark_tree]
    by_cases hv : inB v 1 2 = true
    · by_cases hp : inB p 0 1000000000 = true
      · have hp' := (in_iff _ _ _).1 hp
        by_cases h1 : v = 1
        · have h1t := eq_true h1
          have e : endMark v p = [255, 255, 255, 255, 15] := by unfold endMark; rw [hv, hp, if_pos h1]; rfl
          rw [e]
          simp [eval_must', eval_ask', eval_ret', hv, hp, h1t]
        · have e : endMark v p = sizedOf p 4294967295 := by unfold endMark; rw [hv, hp, if_neg h1]; rfl
          rw [e]
          simp only [eval_must', eval_ask', eval_ret', if_true, hv, hp, h1, if_false, decide_eq_true_eq, Bool.and_eq_true]
          repeat rw [if_pos (by omega)]
      · simp [eval_must', eval_ask', eval_ret', hv, hp, endMark]
    · simp [eval_must', eval_ask', eval_ret', hv, endMark]
  · cases h
theorem sMarkAt_E : EnvSound Try.prog E_sMarkAt := mkE_sound (by simp [sIn_sound, sEndMark_sound])
theorem sMarkAt_sound : Sound Try.prog 102 (sg [pI, pI, pS, pI] [rB]) markAtSpec := vBody_sound sMarkAt_E noInl_ok Try.func102 (by kernel_rfl) fun cs outs hk h => by
  unfold markAtSpec at h
  split at h
  · simp only [Option.some.injEq, Prod.mk.injEq, decide_eq_true_eq] at h
    obtain ⟨h1, rfl⟩ := h
    rename_i v p b a
    rw [vBody_L, sMarkAt_tree]
    have lm := endMark_len v p
    unfold markAt
    generalize endMark v p = m at *
    by_cases hm : m = []
    · simp [eval_must', eval_ask', eval_ret', hm]
    · have hb : (!m == ([] : List UInt8)) = true := by simpa using hm
      have w1 : IntKind.i64.wrap ((b.length : Int) - (m.length : Int)) = (b.length : Int) - m.length := by rw [wrap64] <;> omega
      simp only [eval_must', eval_ask', eval_ret', if_true, hb, w1, decide_eq_true_eq, Bool.and_eq_true, beq_iff_eq]
      by_cases hin : inB a 0 ((b.length : Int) - m.length) = true
      · have hh := (in_iff _ _ _).1 hin
        obtain ⟨a, rfl⟩ := Int.eq_ofNat_of_zero_le hh.1
        have w2 : IntKind.i64.wrap ((a : Int) + (m.length : Int)) = ((a + m.length : Nat) : Int) := by rw [wrap64] <;> omega
        have z1 : (0 : Int) ≤ ((a + m.length : Nat) : Int) := by omega
        have z2 : ((a + m.length : Nat) : Int) ≤ b.length := by omega
        have z3 : (a : Int) ≤ ((a + m.length : Nat) : Int) := by omega
        have ed : (b.take (a + m.length)).drop a = (b.drop a).take m.length := by
          rw [List.take_drop]
        simp only [hin, w2, z1, z2, z3, hh.1, if_true, and_self, Int.toNat_natCast, ed]
        by_cases he : (b.drop a).take m.length = m
        · have : hasAt b a m = true := (hasAt_iff _ _ _).2 ⟨by omega, by omega, by simpa using he⟩
          simp [he, this, hm]
        · have : hasAt b a m = false := by
            cases hx : hasAt b a m with
            | true => exact absurd (by simpa using ((hasAt_iff _ _ _).1 hx).2.2) he
            | false => rfl
          simp [he, this]
      · have : hasAt b a m = false := by
          cases hx : hasAt b a m with
          | true =>
            have hh := (hasAt_iff _ _ _).1 hx
            have hl := congrArg List.length hh.2.2
            simp at hl
            exact absurd ((in_iff _ _ _).2 ⟨hh.1, by omega⟩) hin
          | false => rfl
        simp [hin, this]
  · cases h
theorem iMarkAt_E : EnvSound Try.prog E_iMarkAt := mkE_sound (by simp [iHasAt_sound, iEndMark_sound])
theorem iMarkAt_sound : Sound Try.prog 27 (sg [pI, pI, pS, pI] [rB]) markAtSpec := vBody_sound iMarkAt_E noInl_ok Try.func27 (by kernel_rfl) fun cs outs hk h => by
  unfold markAtSpec at h
  split at h
  · simp only [Option.some.injEq, Prod.mk.injEq, decide_eq_true_eq] at h
    obtain ⟨h1, rfl⟩ := h
    rename_i v p b a
    rw [vBody_L, iMarkAt_tree]
    unfold markAt
    generalize endMark v p = m at *
    by_cases hm : m = []
    · simp [eval_must', eval_ask', eval_ret', hm]
    · have hb : (!m == ([] : List UInt8)) = true := by simpa using hm
      by_cases hh : hasAt b a m = true <;> simp [eval_must', eval_ask', eval_ret', hb, hh, hm]
  · cases h

end Go.Proofs.Ythpcgbnochcbcaa.V

namespace Go.Proofs.Ythpcgbnochcbcaa.V
noncomputable section

def rfN (v : Int) (b : List UInt8) (a : Int) : Int := if v = 2 then fixRead b a 4 else rvN b a
def rfFrom (v : Int) (b : List UInt8) (a : Int) : Int := if v = 2 then a + 8 else rvEnd b a
def rfHas (v : Int) (b : List UInt8) (a : Int) : Bool := if v = 2 then fixOk b a 4 else rvOk b a
def rfText (v : Int) (b : List UInt8) (a : Int) : List UInt8 := (b.drop (rfFrom v b a).toNat).take (rfN v b a).toNat
def rfOk (v p : Int) (b : List UInt8) (a : Int) : Bool := inB v 1 2 && inB p 0 1000000000 && rfHas v b a && decide (rfN v b a ≤ 60 ∧ rfFrom v b a + rfN v b a ≤ b.length) && hasAt b a (frameText v p (rfText v b a))
def rfRec (v p : Int) (b : List UInt8) (a : Int) : List UInt8 := if rfOk v p b a then rfText v b a else []
def rfEnd (v p : Int) (b : List UInt8) (a : Int) : Int := if rfOk v p b a then a + (frameText v p (rfText v b a)).length else 0
def readFrameSpec : Spec := fun cs => match cs with
  | [.int .i64 v, .int .i64 p, .str b, .int .i64 a] => some (decide (b.length ≤ 281474976710656) && (decide (-9223372036854775808 ≤ a) && decide (a ≤ 9223372036854775807)), [.str (rfRec v p b a), .int .i64 (rfEnd v p b a), .bool (rfOk v p b a)])
  | _ => none
def E_sReadFrame : Env := mkE [] [(80, (sg [pI, pI, pI] [rB]), inSpec), (84, (sg [pS, pI, pI] [rI, rB]), readFixSpec), (113, (sg [pS, pI] [rI, rI, rB]), readVarSpec), (90, (sg [pI, pI, pS] [rS]), frameSpec)]
def E_iReadFrame : Env := mkE [] [(74, (sg [pS, pI, pI] [rI, rB]), readFixSpec), (75, (sg [pS, pI] [rI, rI, rB]), readVarSpec), (69, (sg [pS, pI, pS] [rB]), hasAtSpec), (28, (sg [pI, pI, pS] [rS]), frameSpec)]

end
end Go.Proofs.Ythpcgbnochcbcaa.V

namespace Go.Proofs.Ythpcgbnochcbcaa.V
set_option maxRecDepth 100000
theorem sReadFrame_tree (H : List Pt → Nat → St → T (List C)) (v : Int) (p : Int) (b : List UInt8) (a : Int) : vBodyL E_sReadFrame noInl (sg [pI, pI, pS, pI] [rS, rI, rB]) Try.f103 H
  [C.int IntKind.i64 v, C.int IntKind.i64 p, C.str b, C.int IntKind.i64 a] =
 (.must true
 (.must true
  (.must true
   (.must true
    (.ask (inB v (1 : Int) (2 : Int))
     (.must true
      (.must true
       (.must true
        (.ask (inB p (0 : Int) (1000000000 : Int))
         (.must true
          (.must true
           (.must true
            (.ask (inB a (0 : Int) (↑b.length : Int))
             (.must true
              (.must (decide (b.length ≤ (281474976710656 : Nat)) &&
  (decide ((-9223372036854775808 : Int) ≤ a) && decide (a ≤ (9223372036854775807 : Int))))
               (.must true
                (.ask (rvOk b a)
                 (.ask (decide (v = (2 : Int)))
                  (.must true
                   (.must (decide (b.length ≤ (281474976710656 : Nat)) &&
  (decide ((-9223372036854775808 : Int) ≤ a) && decide (a ≤ (9223372036854775807 : Int))))
                    (.must true
                     (.ask (fixOk b a (4 : Int))
                      (.ask (decide ((60 : Int) < fixRead b a (4 : Int)))
                       (.must true
                        (.ret [C.str [], C.int IntKind.i64 (0 : Int), C.bool false]))
                       (.ask (decide (IntKind.i64.wrap ((↑b.length : Int) - fixRead b a (4 : Int)) < IntKind.i64.wrap (a + (8 : Int))))
                        (.must true
                         (.ret [C.str [], C.int IntKind.i64 (0 : Int), C.bool false]))
                        (.must (decide ((0 : Int) ≤ IntKind.i64.wrap (IntKind.i64.wrap (a + (8 : Int)) + fixRead b a (4 : Int))) &&
    decide (IntKind.i64.wrap (IntKind.i64.wrap (a + (8 : Int)) + fixRead b a (4 : Int)) ≤ (↑b.length : Int)) &&
  (decide ((0 : Int) ≤ IntKind.i64.wrap (a + (8 : Int))) &&
    decide
      (IntKind.i64.wrap (a + (8 : Int)) ≤ IntKind.i64.wrap (IntKind.i64.wrap (a + (8 : Int)) + fixRead b a (4 : Int)))))
                         (.must true
                          (.must (decide
  ((List.drop (IntKind.i64.wrap (a + (8 : Int))).toNat
        (List.take (IntKind.i64.wrap (IntKind.i64.wrap (a + (8 : Int)) + fixRead b a (4 : Int))).toNat b)).length ≤
    (281474976710656 : Nat)))
                           (.must true
                            (.ask (decide
  (IntKind.i64.wrap ((↑b.length : Int) - a) <
    (↑(frameText v p
            (List.drop (IntKind.i64.wrap (a + (8 : Int))).toNat
              (List.take (IntKind.i64.wrap (IntKind.i64.wrap (a + (8 : Int)) + fixRead b a (4 : Int))).toNat
                b))).length :
      Int)))
                             (.must true
                              (.ret [C.str [], C.int IntKind.i64 (0 : Int), C.bool false]))
                             (.must (decide
      ((0 : Int) ≤
        IntKind.i64.wrap
          (a +
            (↑(frameText v p
                    (List.drop (IntKind.i64.wrap (a + (8 : Int))).toNat
                      (List.take (IntKind.i64.wrap (IntKind.i64.wrap (a + (8 : Int)) + fixRead b a (4 : Int))).toNat
                        b))).length :
              Int))) &&
    decide
      (IntKind.i64.wrap
          (a +
            (↑(frameText v p
                    (List.drop (IntKind.i64.wrap (a + (8 : Int))).toNat
                      (List.take (IntKind.i64.wrap (IntKind.i64.wrap (a + (8 : Int)) + fixRead b a (4 : Int))).toNat
                        b))).length :
              Int)) ≤
        (↑b.length : Int)) &&
  (decide ((0 : Int) ≤ a) &&
    decide
      (a ≤
        IntKind.i64.wrap
          (a +
            (↑(frameText v p
                    (List.drop (IntKind.i64.wrap (a + (8 : Int))).toNat
                      (List.take (IntKind.i64.wrap (IntKind.i64.wrap (a + (8 : Int)) + fixRead b a (4 : Int))).toNat
                        b))).length :
              Int)))))
                              (.ask (!List.drop a.toNat
      (List.take
        (IntKind.i64.wrap
            (a +
              (↑(frameText v p
                      (List.drop (IntKind.i64.wrap (a + (8 : Int))).toNat
                        (List.take (IntKind.i64.wrap (IntKind.i64.wrap (a + (8 : Int)) + fixRead b a (4 : Int))).toNat
                          b))).length :
                Int))).toNat
        b) ==
    frameText v p
      (List.drop (IntKind.i64.wrap (a + (8 : Int))).toNat
        (List.take (IntKind.i64.wrap (IntKind.i64.wrap (a + (8 : Int)) + fixRead b a (4 : Int))).toNat b)))
                               (.must true
                                (.ret [C.str [], C.int IntKind.i64 (0 : Int), C.bool false]))
                               (.must true
                                (.ret [C.str
    (List.drop (IntKind.i64.wrap (a + (8 : Int))).toNat
      (List.take (IntKind.i64.wrap (IntKind.i64.wrap (a + (8 : Int)) + fixRead b a (4 : Int))).toNat b)),
  C.int IntKind.i64
    (IntKind.i64.wrap
      (a +
        (↑(frameText v p
                (List.drop (IntKind.i64.wrap (a + (8 : Int))).toNat
                  (List.take (IntKind.i64.wrap (IntKind.i64.wrap (a + (8 : Int)) + fixRead b a (4 : Int))).toNat
                    b))).length :
          Int))),
  C.bool true])))))))))))
                      (.must true
                       (.ret [C.str [], C.int IntKind.i64 (0 : Int), C.bool false]))))))
                  (.ask (decide ((60 : Int) < rvN b a))
                   (.must true
                    (.ret [C.str [], C.int IntKind.i64 (0 : Int), C.bool false]))
                   (.ask (decide (IntKind.i64.wrap ((↑b.length : Int) - rvN b a) < rvEnd b a))
                    (.must true
                     (.ret [C.str [], C.int IntKind.i64 (0 : Int), C.bool false]))
                    (.must (decide ((0 : Int) ≤ IntKind.i64.wrap (rvEnd b a + rvN b a)) &&
    decide (IntKind.i64.wrap (rvEnd b a + rvN b a) ≤ (↑b.length : Int)) &&
  (decide ((0 : Int) ≤ rvEnd b a) && decide (rvEnd b a ≤ IntKind.i64.wrap (rvEnd b a + rvN b a))))
                     (.must true
                      (.must (decide
  ((List.drop (rvEnd b a).toNat (List.take (IntKind.i64.wrap (rvEnd b a + rvN b a)).toNat b)).length ≤
    (281474976710656 : Nat)))
                       (.must true
                        (.ask (decide
  (IntKind.i64.wrap ((↑b.length : Int) - a) <
    (↑(frameText v p
            (List.drop (rvEnd b a).toNat (List.take (IntKind.i64.wrap (rvEnd b a + rvN b a)).toNat b))).length :
      Int)))
                         (.must true
                          (.ret [C.str [], C.int IntKind.i64 (0 : Int), C.bool false]))
                         (.must (decide
      ((0 : Int) ≤
        IntKind.i64.wrap
          (a +
            (↑(frameText v p
                    (List.drop (rvEnd b a).toNat (List.take (IntKind.i64.wrap (rvEnd b a + rvN b a)).toNat b))).length :
              Int))) &&
    decide
      (IntKind.i64.wrap
          (a +
            (↑(frameText v p
                    (List.drop (rvEnd b a).toNat (List.take (IntKind.i64.wrap (rvEnd b a + rvN b a)).toNat b))).length :
              Int)) ≤
        (↑b.length : Int)) &&
  (decide ((0 : Int) ≤ a) &&
    decide
      (a ≤
        IntKind.i64.wrap
          (a +
            (↑(frameText v p
                    (List.drop (rvEnd b a).toNat (List.take (IntKind.i64.wrap (rvEnd b a + rvN b a)).toNat b))).length :
              Int)))))
                          (.ask (!List.drop a.toNat
      (List.take
        (IntKind.i64.wrap
            (a +
              (↑(frameText v p
                      (List.drop (rvEnd b a).toNat
                        (List.take (IntKind.i64.wrap (rvEnd b a + rvN b a)).toNat b))).length :
                Int))).toNat
        b) ==
    frameText v p (List.drop (rvEnd b a).toNat (List.take (IntKind.i64.wrap (rvEnd b a + rvN b a)).toNat b)))
                           (.must true
                            (.ret [C.str [], C.int IntKind.i64 (0 : Int), C.bool false]))
                           (.must true
                            (.ret [C.str (List.drop (rvEnd b a).toNat (List.take (IntKind.i64.wrap (rvEnd b a + rvN b a)).toNat b)),
  C.int IntKind.i64
    (IntKind.i64.wrap
      (a +
        (↑(frameText v p
                (List.drop (rvEnd b a).toNat (List.take (IntKind.i64.wrap (rvEnd b a + rvN b a)).toNat b))).length :
          Int))),
  C.bool true]))))))))))))
                 (.ask (decide (v = (2 : Int)))
                  (.must true
                   (.must (decide (b.length ≤ (281474976710656 : Nat)) &&
  (decide ((-9223372036854775808 : Int) ≤ a) && decide (a ≤ (9223372036854775807 : Int))))
                    (.must true
                     (.ask (fixOk b a (4 : Int))
                      (.ask (decide ((60 : Int) < fixRead b a (4 : Int)))
                       (.must true
                        (.ret [C.str [], C.int IntKind.i64 (0 : Int), C.bool false]))
                       (.ask (decide (IntKind.i64.wrap ((↑b.length : Int) - fixRead b a (4 : Int)) < IntKind.i64.wrap (a + (8 : Int))))
                        (.must true
                         (.ret [C.str [], C.int IntKind.i64 (0 : Int), C.bool false]))
                        (.must (decide ((0 : Int) ≤ IntKind.i64.wrap (IntKind.i64.wrap (a + (8 : Int)) + fixRead b a (4 : Int))) &&
    decide (IntKind.i64.wrap (IntKind.i64.wrap (a + (8 : Int)) + fixRead b a (4 : Int)) ≤ (↑b.length : Int)) &&
  (decide ((0 : Int) ≤ IntKind.i64.wrap (a + (8 : Int))) &&
    decide
      (IntKind.i64.wrap (a + (8 : Int)) ≤ IntKind.i64.wrap (IntKind.i64.wrap (a + (8 : Int)) + fixRead b a (4 : Int)))))
                         (.must true
                          (.must (decide
  ((List.drop (IntKind.i64.wrap (a + (8 : Int))).toNat
        (List.take (IntKind.i64.wrap (IntKind.i64.wrap (a + (8 : Int)) + fixRead b a (4 : Int))).toNat b)).length ≤
    (281474976710656 : Nat)))
                           (.must true
                            (.ask (decide
  (IntKind.i64.wrap ((↑b.length : Int) - a) <
    (↑(frameText v p
            (List.drop (IntKind.i64.wrap (a + (8 : Int))).toNat
              (List.take (IntKind.i64.wrap (IntKind.i64.wrap (a + (8 : Int)) + fixRead b a (4 : Int))).toNat
                b))).length :
      Int)))
                             (.must true
                              (.ret [C.str [], C.int IntKind.i64 (0 : Int), C.bool false]))
                             (.must (decide
      ((0 : Int) ≤
        IntKind.i64.wrap
          (a +
            (↑(frameText v p
                    (List.drop (IntKind.i64.wrap (a + (8 : Int))).toNat
                      (List.take (IntKind.i64.wrap (IntKind.i64.wrap (a + (8 : Int)) + fixRead b a (4 : Int))).toNat
                        b))).length :
              Int))) &&
    decide
      (IntKind.i64.wrap
          (a +
            (↑(frameText v p
                    (List.drop (IntKind.i64.wrap (a + (8 : Int))).toNat
                      (List.take (IntKind.i64.wrap (IntKind.i64.wrap (a + (8 : Int)) + fixRead b a (4 : Int))).toNat
                        b))).length :
              Int)) ≤
        (↑b.length : Int)) &&
  (decide ((0 : Int) ≤ a) &&
    decide
      (a ≤
        IntKind.i64.wrap
          (a +
            (↑(frameText v p
                    (List.drop (IntKind.i64.wrap (a + (8 : Int))).toNat
                      (List.take (IntKind.i64.wrap (IntKind.i64.wrap (a + (8 : Int)) + fixRead b a (4 : Int))).toNat
                        b))).length :
              Int)))))
                              (.ask (!List.drop a.toNat
      (List.take
        (IntKind.i64.wrap
            (a +
              (↑(frameText v p
                      (List.drop (IntKind.i64.wrap (a + (8 : Int))).toNat
                        (List.take (IntKind.i64.wrap (IntKind.i64.wrap (a + (8 : Int)) + fixRead b a (4 : Int))).toNat
                          b))).length :
                Int))).toNat
        b) ==
    frameText v p
      (List.drop (IntKind.i64.wrap (a + (8 : Int))).toNat
        (List.take (IntKind.i64.wrap (IntKind.i64.wrap (a + (8 : Int)) + fixRead b a (4 : Int))).toNat b)))
                               (.must true
                                (.ret [C.str [], C.int IntKind.i64 (0 : Int), C.bool false]))
                               (.must true
                                (.ret [C.str
    (List.drop (IntKind.i64.wrap (a + (8 : Int))).toNat
      (List.take (IntKind.i64.wrap (IntKind.i64.wrap (a + (8 : Int)) + fixRead b a (4 : Int))).toNat b)),
  C.int IntKind.i64
    (IntKind.i64.wrap
      (a +
        (↑(frameText v p
                (List.drop (IntKind.i64.wrap (a + (8 : Int))).toNat
                  (List.take (IntKind.i64.wrap (IntKind.i64.wrap (a + (8 : Int)) + fixRead b a (4 : Int))).toNat
                    b))).length :
          Int))),
  C.bool true])))))))))))
                      (.must true
                       (.ret [C.str [], C.int IntKind.i64 (0 : Int), C.bool false]))))))
                  (.must true
                   (.ret [C.str [], C.int IntKind.i64 (0 : Int), C.bool false])))))))
             (.must true
              (.ret [C.str [], C.int IntKind.i64 (0 : Int), C.bool false]))))))
         (.must true
          (.ret [C.str [], C.int IntKind.i64 (0 : Int), C.bool false]))))))
     (.must true
      (.ret [C.str [], C.int IntKind.i64 (0 : Int), C.bool false]))))))) := by kernel_rfl
theorem iReadFrame_tree (H : List Pt → Nat → St → T (List C)) (v : Int) (p : Int) (b : List UInt8) (a : Int) : vBodyL E_iReadFrame noInl (sg [pI, pI, pS, pI] [rS, rI, rB]) Try.f31 H
  [C.int IntKind.i64 v, C.int IntKind.i64 p, C.str b, C.int IntKind.i64 a] =
 (.must true
 (.ask (decide (v = (2 : Int)))
  (.must true
   (.must (decide (b.length ≤ (281474976710656 : Nat)) &&
  (decide ((-9223372036854775808 : Int) ≤ a) && decide (a ≤ (9223372036854775807 : Int))))
    (.must true
     (.ask (fixOk b a (4 : Int))
      (.ask (decide ((60 : Int) < fixRead b a (4 : Int)))
       (.must true
        (.ret [C.str [], C.int IntKind.i64 (0 : Int), C.bool false]))
       (.ask (decide ((↑b.length : Int) < IntKind.i64.wrap (a + (8 : Int))))
        (.must true
         (.ret [C.str [], C.int IntKind.i64 (0 : Int), C.bool false]))
        (.ask (decide (IntKind.i64.wrap ((↑b.length : Int) - IntKind.i64.wrap (a + (8 : Int))) < fixRead b a (4 : Int)))
         (.must true
          (.ret [C.str [], C.int IntKind.i64 (0 : Int), C.bool false]))
         (.must (decide ((0 : Int) ≤ IntKind.i64.wrap (IntKind.i64.wrap (a + (8 : Int)) + fixRead b a (4 : Int))) &&
    decide (IntKind.i64.wrap (IntKind.i64.wrap (a + (8 : Int)) + fixRead b a (4 : Int)) ≤ (↑b.length : Int)) &&
  (decide ((0 : Int) ≤ IntKind.i64.wrap (a + (8 : Int))) &&
    decide
      (IntKind.i64.wrap (a + (8 : Int)) ≤ IntKind.i64.wrap (IntKind.i64.wrap (a + (8 : Int)) + fixRead b a (4 : Int)))))
          (.must true
           (.must (decide
  ((List.drop (IntKind.i64.wrap (a + (8 : Int))).toNat
        (List.take (IntKind.i64.wrap (IntKind.i64.wrap (a + (8 : Int)) + fixRead b a (4 : Int))).toNat b)).length ≤
    (281474976710656 : Nat)))
            (.must true
             (.ask (frameText v p
    (List.drop (IntKind.i64.wrap (a + (8 : Int))).toNat
      (List.take (IntKind.i64.wrap (IntKind.i64.wrap (a + (8 : Int)) + fixRead b a (4 : Int))).toNat b)) ==
  [])
              (.must true
               (.ret [C.str [], C.int IntKind.i64 (0 : Int), C.bool false]))
              (.must true
               (.must true
                (.must true
                 (.ask (hasAt b a
  (frameText v p
    (List.drop (IntKind.i64.wrap (a + (8 : Int))).toNat
      (List.take (IntKind.i64.wrap (IntKind.i64.wrap (a + (8 : Int)) + fixRead b a (4 : Int))).toNat b))))
                  (.must true
                   (.ret [C.str
    (List.drop (IntKind.i64.wrap (a + (8 : Int))).toNat
      (List.take (IntKind.i64.wrap (IntKind.i64.wrap (a + (8 : Int)) + fixRead b a (4 : Int))).toNat b)),
  C.int IntKind.i64
    (IntKind.i64.wrap
      (a +
        (↑(frameText v p
                (List.drop (IntKind.i64.wrap (a + (8 : Int))).toNat
                  (List.take (IntKind.i64.wrap (IntKind.i64.wrap (a + (8 : Int)) + fixRead b a (4 : Int))).toNat
                    b))).length :
          Int))),
  C.bool true]))
                  (.must true
                   (.ret [C.str [], C.int IntKind.i64 (0 : Int), C.bool false]))))))))))))))
      (.must true
       (.ret [C.str [], C.int IntKind.i64 (0 : Int), C.bool false]))))))
  (.must true
   (.must (decide (b.length ≤ (281474976710656 : Nat)) &&
  (decide ((-9223372036854775808 : Int) ≤ a) && decide (a ≤ (9223372036854775807 : Int))))
    (.must true
     (.ask (rvOk b a)
      (.ask (decide ((60 : Int) < rvN b a))
       (.must true
        (.ret [C.str [], C.int IntKind.i64 (0 : Int), C.bool false]))
       (.ask (decide ((↑b.length : Int) < rvEnd b a))
        (.must true
         (.ret [C.str [], C.int IntKind.i64 (0 : Int), C.bool false]))
        (.ask (decide (IntKind.i64.wrap ((↑b.length : Int) - rvEnd b a) < rvN b a))
         (.must true
          (.ret [C.str [], C.int IntKind.i64 (0 : Int), C.bool false]))
         (.must (decide ((0 : Int) ≤ IntKind.i64.wrap (rvEnd b a + rvN b a)) &&
    decide (IntKind.i64.wrap (rvEnd b a + rvN b a) ≤ (↑b.length : Int)) &&
  (decide ((0 : Int) ≤ rvEnd b a) && decide (rvEnd b a ≤ IntKind.i64.wrap (rvEnd b a + rvN b a))))
          (.must true
           (.must (decide
  ((List.drop (rvEnd b a).toNat (List.take (IntKind.i64.wrap (rvEnd b a + rvN b a)).toNat b)).length ≤
    (281474976710656 : Nat)))
            (.must true
             (.ask (frameText v p (List.drop (rvEnd b a).toNat (List.take (IntKind.i64.wrap (rvEnd b a + rvN b a)).toNat b)) == [])
              (.must true
               (.ret [C.str [], C.int IntKind.i64 (0 : Int), C.bool false]))
              (.must true
               (.must true
                (.must true
                 (.ask (hasAt b a (frameText v p (List.drop (rvEnd b a).toNat (List.take (IntKind.i64.wrap (rvEnd b a + rvN b a)).toNat b))))
                  (.must true
                   (.ret [C.str (List.drop (rvEnd b a).toNat (List.take (IntKind.i64.wrap (rvEnd b a + rvN b a)).toNat b)),
  C.int IntKind.i64
    (IntKind.i64.wrap
      (a +
        (↑(frameText v p
                (List.drop (rvEnd b a).toNat (List.take (IntKind.i64.wrap (rvEnd b a + rvN b a)).toNat b))).length :
          Int))),
  C.bool true]))
                  (.must true
                   (.ret [C.str [], C.int IntKind.i64 (0 : Int), C.bool false]))))))))))))))
      (.must true
       (.ret [C.str [], C.int IntKind.i64 (0 : Int), C.bool false])))))))) := by kernel_rfl
end Go.Proofs.Ythpcgbnochcbcaa.V

namespace Go.Proofs.Ythpcgbnochcbcaa.V

def failRF : List C := [C.str [], C.int IntKind.i64 (0 : Int), C.bool false]
/-- the end of both texts, once the size is read -/
def sTail (v p : Int) (b : List UInt8) (a n f : Int) : T (List C) :=
  .ask (decide (60 < n)) (.must true (.ret failRF))
   (.ask (decide (IntKind.i64.wrap ((b.length : Int) - n) < f)) (.must true (.ret failRF))
    (.must (decide (0 ≤ IntKind.i64.wrap (f + n)) && decide (IntKind.i64.wrap (f + n) ≤ (b.length : Int)) && (decide (0 ≤ f) && decide (f ≤ IntKind.i64.wrap (f + n))))
     (.must true
      (.must (decide ((List.drop f.toNat (List.take (IntKind.i64.wrap (f + n)).toNat b)).length ≤ 281474976710656))
       (.must true
        (.ask (decide (IntKind.i64.wrap ((b.length : Int) - a) < ((frameText v p (List.drop f.toNat (List.take (IntKind.i64.wrap (f + n)).toNat b))).length : Int))) (.must true (.ret failRF))
         (.must (decide (0 ≤ IntKind.i64.wrap (a + ((frameText v p (List.drop f.toNat (List.take (IntKind.i64.wrap (f + n)).toNat b))).length : Int))) && decide (IntKind.i64.wrap (a + ((frameText v p (List.drop f.toNat (List.take (IntKind.i64.wrap (f + n)).toNat b))).length : Int)) ≤ (b.length : Int)) && (decide (0 ≤ a) && decide (a ≤ IntKind.i64.wrap (a + ((frameText v p (List.drop f.toNat (List.take (IntKind.i64.wrap (f + n)).toNat b))).length : Int)))))
          (.ask (!List.drop a.toNat (List.take (IntKind.i64.wrap (a + ((frameText v p (List.drop f.toNat (List.take (IntKind.i64.wrap (f + n)).toNat b))).length : Int))).toNat b) == frameText v p (List.drop f.toNat (List.take (IntKind.i64.wrap (f + n)).toNat b)))
           (.must true (.ret failRF))
           (.must true (.ret [C.str (List.drop f.toNat (List.take (IntKind.i64.wrap (f + n)).toNat b)), C.int IntKind.i64 (IntKind.i64.wrap (a + ((frameText v p (List.drop f.toNat (List.take (IntKind.i64.wrap (f + n)).toNat b))).length : Int))), C.bool true]))))))))))
def iTail (v p : Int) (b : List UInt8) (a n f : Int) : T (List C) :=
  .ask (decide (60 < n)) (.must true (.ret failRF))
   (.ask (decide ((b.length : Int) < f)) (.must true (.ret failRF))
    (.ask (decide (IntKind.i64.wrap ((b.length : Int) - f) < n)) (.must true (.ret failRF))
     (.must (decide (0 ≤ IntKind.i64.wrap (f + n)) && decide (IntKind.i64.wrap (f + n) ≤ (b.length : Int)) && (decide (0 ≤ f) && decide (f ≤ IntKind.i64.wrap (f + n))))
      (.must true
       (.must (decide ((List.drop f.toNat (List.take (IntKind.i64.wrap (f + n)).toNat b)).length ≤ 281474976710656))
        (.must true
         (.ask (frameText v p (List.drop f.toNat (List.take (IntKind.i64.wrap (f + n)).toNat b)) == []) (.must true (.ret failRF))
          (.must true (.must true (.must true
           (.ask (hasAt b a (frameText v p (List.drop f.toNat (List.take (IntKind.i64.wrap (f + n)).toNat b))))
            (.must true (.ret [C.str (List.drop f.toNat (List.take (IntKind.i64.wrap (f + n)).toNat b)), C.int IntKind.i64 (IntKind.i64.wrap (a + ((frameText v p (List.drop f.toNat (List.take (IntKind.i64.wrap (f + n)).toNat b))).length : Int))), C.bool true]))
            (.must true (.ret failRF)))))))))))))
def tailOut (v p : Int) (b : List UInt8) (a n f : Int) : List C :=
  if n ≤ 60 ∧ f + n ≤ b.length ∧ hasAt b a (frameText v p ((b.drop f.toNat).take n.toNat)) = true then [.str ((b.drop f.toNat).take n.toNat), .int .i64 (a + (frameText v p ((b.drop f.toNat).take n.toNat)).length), .bool true] else failRF
theorem frameText_len (v p : Int) (r : List UInt8) : (frameText v p r).length ≤ 90 := by
  unfold frameText
  have h1 := sizedOf_len p r.length
  have h2 := varText_len r.length
  have h3 := fixOf_len (crcMore 0 r : Nat) 4
  split
  · rename_i h
    simp only [Bool.and_eq_true, decide_eq_true_eq] at h
    split <;> simp only [List.length_append] <;> omega
  · simp
theorem frameText_ne (v p : Int) (r : List UInt8) (hv : inB v 1 2 = true) (hp : inB p 0 1000000000 = true) (hr : r.length ≤ 60) : frameText v p r ≠ [] := by
  unfold frameText
  rw [hv, hp, decide_eq_true hr]
  intro h
  have h4 : (fixOf (crcMore 0 r : Nat) 4).length = 4 := by
    have hc := crcMore_lt 0 r (by omega)
    have hg := fix_good (crcMore 0 r) 4 (by omega) (by omega)
    rw [show ((4 : Nat) : Int) = 4 from rfl] at hg
    rw [hg, if_pos (by omega), leBytes_length]
  have := congrArg List.length h
  simp only [Bool.and_self, if_true, List.length_append, List.length_nil] at this
  omega
theorem frameText_bad (v p : Int) (r : List UInt8) (h : ¬ (inB v 1 2 = true ∧ inB p 0 1000000000 = true)) : frameText v p r = [] := by
  unfold frameText
  rw [if_neg]
  intro hh
  simp only [Bool.and_eq_true] at hh
  exact h hh.1
theorem sTail_eval (v p : Int) (b : List UInt8) (a n f : Int) (hb : b.length ≤ 281474976710656) (hn : 0 ≤ n) (hn2 : n ≤ 9223372036854775807) (hf : 0 ≤ f) (hf2 : f ≤ 1125899906842624) (ha : 0 ≤ a) (ha2 : a ≤ b.length) (hv : inB v 1 2 = true) (hp : inB p 0 1000000000 = true) :
    (sTail v p b a n f).eval = some (tailOut v p b a n f) := by
  unfold sTail tailOut
  by_cases h1 : 60 < n
  · have : ¬ n ≤ 60 := by omega
    simp [eval_must', eval_ask', eval_ret', h1, this]
  · have w1 : IntKind.i64.wrap ((b.length : Int) - n) = (b.length : Int) - n := by rw [wrap64] <;> omega
    have w2 : IntKind.i64.wrap (f + n) = f + n := by rw [wrap64] <;> omega
    have h1' : n ≤ 60 := by omega
    rw [w1, w2]
    by_cases h2 : (b.length : Int) - n < f
    · have : ¬ (f + n ≤ b.length) := by omega
      simp [eval_must', eval_ask', eval_ret', h1, h2, this]
    · have h2' : f + n ≤ b.length := by omega
      have hrec : List.drop f.toNat (List.take (f + n).toNat b) = (b.drop f.toNat).take n.toNat := by
        rw [List.take_drop]; congr 2; omega
      rw [hrec]
      have hl : ((b.drop f.toNat).take n.toNat).length ≤ 281474976710656 := by simp; omega
      have hl60 : ((b.drop f.toNat).take n.toNat).length ≤ 60 := by simp; omega
      generalize (b.drop f.toNat).take n.toNat = r at hl hl60
      have fl := frameText_len v p r
      have fne := frameText_ne v p r hv hp hl60
      generalize frameText v p r = t at fl fne
      have w3 : IntKind.i64.wrap ((b.length : Int) - a) = (b.length : Int) - a := by rw [wrap64] <;> omega
      have w4 : IntKind.i64.wrap (a + (t.length : Int)) = a + t.length := by rw [wrap64] <;> omega
      rw [w3, w4]
      have z1 : 0 ≤ f + n := by omega
      have z2 : f ≤ f + n := by omega
      by_cases h3 : (b.length : Int) - a < t.length
      · have : hasAt b a t = false := by
          cases hx : hasAt b a t with
          | true =>
            have hh := (hasAt_iff _ _ _).1 hx
            have hl := congrArg List.length hh.2.2
            simp at hl
            omega
          | false => rfl
        simp [eval_must', eval_ask', eval_ret', h1, h2, h2', hf, hl, h3, this, z1, z2, hn]
      · have z3 : 0 ≤ a + (t.length : Int) := by omega
        have z4 : a + (t.length : Int) ≤ b.length := by omega
        have z5 : a ≤ a + (t.length : Int) := by omega
        have ed : List.drop a.toNat (List.take (a + (t.length : Int)).toNat b) = (b.drop a.toNat).take t.length := by
          rw [List.take_drop]; congr 2; omega
        rw [ed]
        by_cases he : (b.drop a.toNat).take t.length = t
        · have hh : hasAt b a t = true := (hasAt_iff _ _ _).2 ⟨ha, ha2, he⟩
          simp [eval_must', eval_ask', eval_ret', h1, h1', h2, h2', hf, hl, h3, z1, z2, z3, z4, z5, hn, ha, he, hh]
        · have hh : hasAt b a t = false := by
            cases hx : hasAt b a t with
            | true => exact absurd ((hasAt_iff _ _ _).1 hx).2.2 he
            | false => rfl
          simp [eval_must', eval_ask', eval_ret', h1, h1', h2, h2', hf, hl, h3, z1, z2, z3, z4, z5, hn, ha, he, hh]
theorem iTail_eval (v p : Int) (b : List UInt8) (a n f : Int) (hb : b.length ≤ 281474976710656) (hn : 0 ≤ n) (hn2 : n ≤ 9223372036854775807) (hf : 0 ≤ f) (hf2 : f ≤ 1125899906842624) (ha2 : a ≤ 9223372036854775807) :
    (iTail v p b a n f).eval = some (if inB v 1 2 = true ∧ inB p 0 1000000000 = true then tailOut v p b a n f else failRF) := by
  unfold iTail tailOut
  by_cases h1 : 60 < n
  · have : ¬ n ≤ 60 := by omega
    simp [eval_must', eval_ask', eval_ret', h1, this]
  · have w2 : IntKind.i64.wrap (f + n) = f + n := by rw [wrap64] <;> omega
    have h1' : n ≤ 60 := by omega
    rw [w2]
    by_cases h2 : (b.length : Int) < f
    · have : ¬ (f + n ≤ b.length) := by omega
      simp [eval_must', eval_ask', eval_ret', h1, h2, this]
    · have w1 : IntKind.i64.wrap ((b.length : Int) - f) = (b.length : Int) - f := by rw [wrap64] <;> omega
      rw [w1]
      by_cases h3 : (b.length : Int) - f < n
      · have : ¬ (f + n ≤ b.length) := by omega
        simp [eval_must', eval_ask', eval_ret', h1, h2, h3, this]
      · have h2' : f + n ≤ b.length := by omega
        have hrec : List.drop f.toNat (List.take (f + n).toNat b) = (b.drop f.toNat).take n.toNat := by
          rw [List.take_drop]; congr 2; omega
        rw [hrec]
        have hl : ((b.drop f.toNat).take n.toNat).length ≤ 281474976710656 := by simp; omega
        have hl60 : ((b.drop f.toNat).take n.toNat).length ≤ 60 := by simp; omega
        generalize (b.drop f.toNat).take n.toNat = r at hl hl60
        have z1 : 0 ≤ f + n := by omega
        have z2 : f ≤ f + n := by omega
        by_cases hvp : inB v 1 2 = true ∧ inB p 0 1000000000 = true
        · have fl := frameText_len v p r
          have fne := frameText_ne v p r hvp.1 hvp.2 hl60
          rw [if_pos hvp]
          generalize frameText v p r = t at fl fne
          have fb : (t == ([] : List UInt8)) = false := by simpa using fne
          by_cases hh : hasAt b a t = true
          · have hx := (hasAt_iff _ _ _).1 hh
            have w4 : IntKind.i64.wrap (a + (t.length : Int)) = a + t.length := by rw [wrap64] <;> omega
            simp [eval_must', eval_ask', eval_ret', h1, h1', h2, h2', h3, hf, hl, z1, z2, hn, fb, hh, w4, fne]
          · simp [eval_must', eval_ask', eval_ret', h1, h1', h2, h2', h3, hf, hl, z1, z2, hn, fb, hh, fne]
        · rw [if_neg hvp, frameText_bad v p r hvp]
          simp [eval_must', eval_ask', eval_ret', h1, h1', h2, h2', h3, hf, hl, z1, z2, hn]
theorem rv_range (b : List UInt8) (a : Int) : 0 ≤ rvN b a ∧ rvN b a ≤ 1000000000 ∧ 0 ≤ rvEnd b a ∧ rvEnd b a ≤ b.length ∧ (rvOk b a = true → 0 ≤ a ∧ a ≤ b.length) := by
  have go : ∀ (fu k n : Nat) (q : Nat × Nat), rvGo b a.toNat fu k n = some q → q.1 ≤ 1000000000 ∧ q.2 ≤ b.length ∧ a.toNat ≤ b.length := by
    intro fu
    induction fu with
    | zero => intro k n q h; simp [rvGo] at h
    | succ fu ih =>
      intro k n q h
      simp only [rvGo] at h
      split at h
      · split at h
        · split at h
          · cases h
          · obtain rfl := Option.some.inj h
            simp only []
            omega
        · exact ih _ _ _ h
      · cases h
  unfold rvN rvEnd rvOk readVar
  by_cases ha : 0 ≤ a
  · rw [if_pos ha]
    cases hq : rvGo b a.toNat 5 0 0 with
    | none => simp
    | some q => have := go 5 0 0 q hq; simp; omega
  · rw [if_neg ha]; simp
theorem fix_range (b : List UInt8) (a w : Int) : 0 ≤ fixRead b a w ∧ fixRead b a w ≤ 9223372036854775807 ∧ (fixOk b a w = true → 0 ≤ a ∧ a ≤ b.length) := by
  unfold fixRead
  cases h : fixOk b a w with
  | true => have := (fixOk_iff _ _ _).1 h; simp; omega
  | false => simp
theorem rf_outs (v p : Int) (b : List UInt8) (a : Int) : [C.str (rfRec v p b a), C.int .i64 (rfEnd v p b a), C.bool (rfOk v p b a)] = if inB v 1 2 = true ∧ inB p 0 1000000000 = true ∧ rfHas v b a = true then tailOut v p b a (rfN v b a) (rfFrom v b a) else failRF := by
  unfold rfRec rfEnd rfOk tailOut rfText failRF
  generalize rfHas v b a = x
  generalize rfN v b a = n
  generalize rfFrom v b a = f
  generalize frameText v p ((b.drop f.toNat).take n.toNat) = t
  by_cases h1 : inB v 1 2 = true
  · by_cases h2 : inB p 0 1000000000 = true
    · cases x with
      | false => simp
      | true =>
        by_cases h3 : n ≤ 60 ∧ f + n ≤ b.length
        · by_cases h4 : hasAt b a t = true <;> simp [h1, h2, h3, h4]
        · have h3' : ¬ (n ≤ 60 ∧ f + n ≤ b.length ∧ hasAt b a t = true) := fun h => h3 ⟨h.1, h.2.1⟩
          rw [decide_eq_false h3, if_neg h3']
          simp
    · simp [h2]
  · simp [h1]
theorem lit_must {α : Type} (n : T α) : (T.must true n).eval = n.eval := rfl
theorem lit_yes {α : Type} (y n : T α) : (T.ask true y n).eval = y.eval := rfl
theorem lit_no {α : Type} (y n : T α) : (T.ask false y n).eval = n.eval := rfl
theorem sReadFrame_E : EnvSound Try.prog E_sReadFrame := mkE_sound (by simp [sIn_sound, sReadFix_sound, sReadVar_sound, sFrameText_sound])
theorem sReadFrame_sound : Sound Try.prog 103 (sg [pI, pI, pS, pI] [rS, rI, rB]) readFrameSpec := vBody_sound sReadFrame_E noInl_ok Try.func103 (by kernel_rfl) fun cs outs hk h => by
  unfold readFrameSpec at h
  split at h
  · simp only [Option.some.injEq, Prod.mk.injEq, Bool.and_eq_true, decide_eq_true_eq] at h
    obtain ⟨⟨h1, h2, h3⟩, rfl⟩ := h
    rename_i v p b a
    rw [vBody_L, sReadFrame_tree, rf_outs]
    have pre : (decide (b.length ≤ 281474976710656) && (decide (-9223372036854775808 ≤ a) && decide (a ≤ 9223372036854775807))) = true := by simp [h1, h2, h3]
    obtain ⟨r1, r2, r3, r4, r5⟩ := rv_range b a
    obtain ⟨f1, f2, f3⟩ := fix_range b a 4
    have has_in : rfHas v b a = true → 0 ≤ a ∧ a ≤ b.length := by
      unfold rfHas; split
      · exact f3
      · exact r5
    cases hv : inB v 1 2 with
    | false => simp only [lit_must, lit_no, hv, Bool.false_eq_true, false_and, if_false]; rfl
    | true =>
      cases hp : inB p 0 1000000000 with
      | false => simp only [lit_must, lit_yes, lit_no, hv, hp, Bool.false_eq_true, and_false, false_and, if_false]; rfl
      | true =>
        cases ha : inB a 0 (b.length : Int) with
        | false =>
          have : ¬ rfHas v b a = true := fun h => by
            have := has_in h
            have := (in_iff a 0 (b.length : Int)).2 this
            rw [ha] at this; cases this
          simp only [lit_must, lit_yes, lit_no, hv, hp, ha, this, and_false, if_false]; rfl
        | true =>
          have ha' := (in_iff _ _ _).1 ha
          have w8 : IntKind.i64.wrap (a + 8) = a + 8 := by rw [wrap64] <;> omega
          have e1 := sTail_eval v p b a (fixRead b a 4) (a + 8) h1 f1 f2 (by omega) (by omega) ha'.1 ha'.2 hv hp
          have e2 := sTail_eval v p b a (rvN b a) (rvEnd b a) h1 r1 (by omega) r3 (by omega) ha'.1 ha'.2 hv hp
          by_cases hv2 : v = 2
          · have d2 : decide (v = 2) = true := decide_eq_true hv2
            have hh : rfHas v b a = fixOk b a 4 := by unfold rfHas; rw [if_pos hv2]
            have hn : rfN v b a = fixRead b a 4 := by unfold rfN; rw [if_pos hv2]
            have hf : rfFrom v b a = a + 8 := by unfold rfFrom; rw [if_pos hv2]
            rw [hh, hn, hf]
            cases hk1 : fixOk b a 4 with
            | false => cases hk2 : rvOk b a <;> (simp only [lit_must, lit_yes, lit_no, hv, hp, ha, pre, d2, hk1, hk2, Bool.false_eq_true, if_false, and_false]; rfl)
            | true => cases hk2 : rvOk b a <;> (simp only [lit_must, lit_yes, lit_no, hv, hp, ha, pre, d2, hk1, hk2, w8, true_and, and_self, if_true]; exact e1)
          · have d2 : decide (v = 2) = false := decide_eq_false hv2
            have hh : rfHas v b a = rvOk b a := by unfold rfHas; rw [if_neg hv2]
            have hn : rfN v b a = rvN b a := by unfold rfN; rw [if_neg hv2]
            have hf : rfFrom v b a = rvEnd b a := by unfold rfFrom; rw [if_neg hv2]
            rw [hh, hn, hf]
            cases hk2 : rvOk b a with
            | false => simp only [lit_must, lit_yes, lit_no, hv, hp, ha, pre, hk2, Bool.false_eq_true, if_false, and_false]; first | rfl | (cases hk1 : fixOk b a 4 <;> simp only [lit_must, lit_yes, lit_no, d2] <;> rfl)
            | true => simp only [lit_must, lit_yes, lit_no, hv, hp, ha, pre, d2, hk2, true_and, and_self, if_true]; exact e2
  · cases h
theorem iReadFrame_E : EnvSound Try.prog E_iReadFrame := mkE_sound (by simp [iReadFix_sound, iReadVar_sound, iHasAt_sound, iFrameText_sound])
theorem iReadFrame_sound : Sound Try.prog 31 (sg [pI, pI, pS, pI] [rS, rI, rB]) readFrameSpec := vBody_sound iReadFrame_E noInl_ok Try.func31 (by kernel_rfl) fun cs outs hk h => by
  unfold readFrameSpec at h
  split at h
  · simp only [Option.some.injEq, Prod.mk.injEq, Bool.and_eq_true, decide_eq_true_eq] at h
    obtain ⟨⟨h1, h2, h3⟩, rfl⟩ := h
    rename_i v p b a
    rw [vBody_L, iReadFrame_tree, rf_outs]
    have pre : (decide (b.length ≤ 281474976710656) && (decide (-9223372036854775808 ≤ a) && decide (a ≤ 9223372036854775807))) = true := by simp [h1, h2, h3]
    obtain ⟨r1, r2, r3, r4, r5⟩ := rv_range b a
    obtain ⟨f1, f2, f3⟩ := fix_range b a 4
    by_cases hv2 : v = 2
    · have d2 : decide (v = 2) = true := decide_eq_true hv2
      have hh : rfHas v b a = fixOk b a 4 := by unfold rfHas; rw [if_pos hv2]
      have hn : rfN v b a = fixRead b a 4 := by unfold rfN; rw [if_pos hv2]
      have hf : rfFrom v b a = a + 8 := by unfold rfFrom; rw [if_pos hv2]
      rw [hh, hn, hf]
      cases hk1 : fixOk b a 4 with
      | false => simp only [lit_must, lit_yes, lit_no, pre, d2, hk1, Bool.false_eq_true, and_false, if_false]; rfl
      | true =>
        have ha := f3 hk1
        have w8 : IntKind.i64.wrap (a + 8) = a + 8 := by rw [wrap64] <;> omega
        have e1 := iTail_eval v p b a (fixRead b a 4) (a + 8) h1 f1 f2 (by omega) (by omega) h3
        simp only [lit_must, lit_yes, lit_no, pre, d2, hk1, w8, and_true]
        exact e1
    · have d2 : decide (v = 2) = false := decide_eq_false hv2
      have hh : rfHas v b a = rvOk b a := by unfold rfHas; rw [if_neg hv2]
      have hn : rfN v b a = rvN b a := by unfold rfN; rw [if_neg hv2]
      have hf : rfFrom v b a = rvEnd b a := by unfold rfFrom; rw [if_neg hv2]
      rw [hh, hn, hf]
      cases hk1 : rvOk b a with
      | false => simp only [lit_must, lit_yes, lit_no, pre, d2, hk1, Bool.false_eq_true, and_false, if_false]; rfl
      | true =>
        have e1 := iTail_eval v p b a (rvN b a) (rvEnd b a) h1 r1 (by omega) r3 (by omega) h3
        simp only [lit_must, lit_yes, lit_no, pre, d2, hk1, and_true]
        exact e1
  · cases h

end Go.Proofs.Ythpcgbnochcbcaa.V
