/- Functions of the given program and of its reference: what each returns, as an equation over data; by the interpreter. -/
import Derived.Test.YtggmbjbmklimdaaGreatDoorVG
import Derived.Test.YtggmbjbmklimdaaGreatDoorProg
import Derived.KernelRfl
set_option linter.unusedVariables false
set_option linter.unusedSimpArgs false
set_option linter.unusedSectionVars false
set_option linter.deprecated false
namespace Go.Proofs.YtggmbjbmklimdaaGreatDoor.V
noncomputable section
def tyTab : List (TypeId × TI) := [(2, ⟨false, [.int .i64], [], 8, false⟩),
  (3, ⟨false, [.int .i64], [], 8, false⟩),
  (4, ⟨false, [.bool], [], 1, false⟩),
  (5, ⟨false, [.int .u8], [], 1, false⟩),
  (6, ⟨false, [.int .u8], [], 1, false⟩),
  (7, ⟨true, [.int .i64, .int .i64, .bool, .int .u8], [(0, 2), (1, 3), (2, 4), (3, 6)], 24, false⟩),
  (8, ⟨true, [.int .i64, .int .i64, .bool, .int .u8], [(0, 2), (1, 3), (2, 4), (3, 6)], 24, false⟩),
  (9, ⟨false, [.str], [], 16, false⟩),
  (10, ⟨false, [.str], [], 16, false⟩),
  (11, ⟨false, [.str], [], 16, false⟩),
  (12, ⟨false, [.int .u64], [], 8, false⟩),
  (13, ⟨true, [.str, .int .u64], [(0, 9), (1, 12)], 24, false⟩),
  (14, ⟨true, [.str, .int .u64], [(0, 9), (1, 12)], 24, false⟩),
  (21, ⟨false, [.int .i32], [], 4, false⟩),
  (22, ⟨false, [.slice 120], [], 24, false⟩),
  (23, ⟨false, [.slice 123], [], 24, false⟩),
  (24, ⟨false, [.slice 9], [], 24, false⟩),
  (25, ⟨true, [.slice 120, .slice 123, .slice 123, .slice 9, .int .i64, .int .i64], [(0, 22), (1, 23), (2, 23), (3, 24), (4, 3), (5, 3)], 112, false⟩),
  (26, ⟨true, [.slice 120, .slice 123, .slice 123, .slice 9, .int .i64, .int .i64], [(0, 22), (1, 23), (2, 23), (3, 24), (4, 3), (5, 3)], 112, false⟩),
  (30, ⟨false, [.slice 93], [], 24, false⟩),
  (31, ⟨false, [.slice 127], [], 24, false⟩),
  (32, ⟨true, [.slice 93, .slice 127, .slice 127, .slice 9, .int .i64, .int .i64], [(0, 30), (1, 31), (2, 31), (3, 24), (4, 3), (5, 3)], 112, false⟩),
  (33, ⟨true, [.slice 93, .slice 127, .slice 127, .slice 9, .int .i64, .int .i64], [(0, 30), (1, 31), (2, 31), (3, 24), (4, 3), (5, 3)], 112, false⟩),
  (40, ⟨true, [.int .i64, .str, .str, .str], [(0, 3), (1, 9), (2, 9), (3, 9)], 56, false⟩),
  (41, ⟨true, [.int .i64, .str, .str, .str], [(0, 3), (1, 9), (2, 9), (3, 9)], 56, true⟩),
  (45, ⟨true, [.int .i64, .str, .str, .str], [(0, 3), (1, 9), (2, 9), (3, 9)], 56, true⟩),
  (48, ⟨false, [.slice 41], [], 24, false⟩),
  (51, ⟨false, [.slice 45], [], 24, false⟩),
  (56, ⟨false, [.slice 3], [], 24, false⟩),
  (57, ⟨true, [.int .i64, .int .i64, .int .i64, .int .i64, .int .i64, .slice 3, .int .i64, .bool, .int .i64], [(0, 3), (1, 3), (2, 3), (3, 3), (4, 3), (5, 56), (6, 3), (7, 4), (8, 3)], 88, false⟩),
  (58, ⟨true, [.int .i64, .int .i64, .int .i64, .int .i64, .int .i64, .slice 3, .int .i64, .bool, .int .i64], [(0, 3), (1, 3), (2, 3), (3, 3), (4, 3), (5, 56), (6, 3), (7, 4), (8, 3)], 88, false⟩),
  (74, ⟨true, [.int .i64, .int .i64, .int .i64, .int .i64], [(0, 3), (1, 3), (2, 3), (3, 3)], 32, false⟩),
  (75, ⟨true, [.int .i64, .int .i64, .int .i64, .int .i64], [(0, 3), (1, 3), (2, 3), (3, 3)], 32, true⟩),
  (76, ⟨true, [.bool, .int .i64, .int .i64, .int .i64, .int .i64, .slice 9, .slice 3, .int .i64, .bool], [(0, 4), (1, 75), (5, 24), (6, 56), (7, 3), (8, 4)], 104, false⟩),
  (77, ⟨true, [.bool, .int .i64, .int .i64, .int .i64, .int .i64, .slice 9, .slice 3, .int .i64, .bool], [(0, 4), (1, 75), (5, 24), (6, 56), (7, 3), (8, 4)], 104, false⟩),
  (78, ⟨true, [.int .i64, .str, .bool, .int .i64, .int .i64, .int .i64, .int .i64, .slice 9, .slice 3, .int .i64, .bool], [(0, 3), (1, 9), (2, 77)], 128, false⟩),
  (79, ⟨true, [.int .i64, .str, .bool, .int .i64, .int .i64, .int .i64, .int .i64, .slice 9, .slice 3, .int .i64, .bool], [(0, 3), (1, 9), (2, 77)], 128, false⟩),
  (92, ⟨true, [.int .i64, .str, .int .i64], [(0, 3), (1, 9), (2, 3)], 32, false⟩),
  (93, ⟨true, [.int .i64, .str, .int .i64], [(0, 3), (1, 9), (2, 3)], 32, true⟩),
  (114, ⟨false, [.slice 79], [], 24, false⟩),
  (120, ⟨true, [.int .i64, .str, .int .i64], [(0, 3), (1, 9), (2, 3)], 32, true⟩),
  (122, ⟨true, [.str, .int .i64], [(0, 9), (1, 3)], 24, false⟩),
  (123, ⟨true, [.str, .int .i64], [(0, 9), (1, 3)], 24, true⟩),
  (127, ⟨true, [.str, .int .i64], [(0, 9), (1, 3)], 24, true⟩),
  (143, ⟨false, [.slice 5], [], 24, false⟩),
  (144, ⟨false, [.slice 177], [], 24, false⟩),
  (149, ⟨false, [.int .u64], [], 8, false⟩),
  (156, ⟨false, [.int .u64], [], 8, false⟩),
  (176, ⟨true, [.str, .int .i64], [(0, 9), (1, 3)], 24, false⟩),
  (177, ⟨true, [.str, .int .i64], [(0, 9), (1, 3)], 24, true⟩),
  (210, ⟨false, [.slice 234], [], 24, false⟩),
  (219, ⟨false, [.int .u32], [], 4, false⟩),
  (225, ⟨false, [.int .i64], [], 8, false⟩),
  (233, ⟨true, [.int .i64, .int .i64], [(0, 3), (1, 3)], 16, false⟩),
  (234, ⟨true, [.int .i64, .int .i64], [(0, 3), (1, 3)], 16, true⟩),
  (252, ⟨true, [.str], [(0, 9)], 16, false⟩),
  (253, ⟨true, [.str], [(0, 9)], 16, false⟩),
  (263, ⟨false, [.int .u8], [], 1, false⟩),
  (264, ⟨false, [.int .u8], [], 1, false⟩),
  (266, ⟨false, [.int .i32], [], 4, false⟩),
  (267, ⟨false, [.int .i32], [], 4, false⟩)]
def arrTab : List (TypeId × Nat × TypeId) := [(214, 24, 5), (237, 20, 156), (238, 65, 5), (256, 32, 5), (257, 64, 5)]
def glTab : List (Nat × String) := [(0, "internal/strconv.uint64pow10"), (4, "math/bits.deBruijn32tab"), (5, "math/bits.deBruijn64tab")]
abbrev Laws := List (FuncId × Sig × Spec)
def mkE (lv : List (Nat × List Nat)) (gs : Laws) : Env := { Ty := tyOf tyTab, Γ := fun g => gs.lookup g, inl := fun _ => none, lv := fun h => (lv.lookup h).getD [], ren := true, fuel := 9223372036854775808, nt := 0, Arr := fun t => arrTab.lookup t, gl := glOf glTab }
abbrev pI : PTy := .val false [.int .i64]
abbrev pU8 : PTy := .val false [.int .u8]
abbrev pU32 : PTy := .val false [.int .u32]
abbrev pS : PTy := .val false [.str]
abbrev pB : PTy := .val false [.bool]
abbrev rI : RTy := ⟨false, [(.int .i64, false)]⟩
abbrev rU8 : RTy := ⟨false, [(.int .u8, false)]⟩
abbrev rU32 : RTy := ⟨false, [(.int .u32, false)]⟩
abbrev rB : RTy := ⟨false, [(.bool, false)]⟩
abbrev rS : RTy := ⟨false, [(.str, false)]⟩
abbrev sg (ps : List PTy) (rs : List RTy) : Sig := ⟨ps, rs, false⟩
abbrev int64 (n : Int) : W := .l (.i .i64 n)
abbrev wstr (s : List UInt8) : W := .l (.s s)
abbrev st0 (slots : List (Nat × W)) : St := { slots, heap := [], next := 0, pins := [] }
abbrev st1 (slots : List (Nat × W)) (sz : Nat) (rows : List (List C)) : St := { slots, heap := [(0, .arr sz rows)], next := 1, pins := [] }
theorem tyTab_ok : (tyTab.all fun p => tyB Tryz.prog p.1 p.2) = true := by kernel_rfl
theorem arrTab_ok : arrTabB Tryz.prog tyTab arrTab = true := by kernel_rfl
theorem glTab_ok : glB Tryz.prog glTab = true := by kernel_rfl
theorem mkE_sound {lv : List (Nat × List Nat)} {gs : Laws} (h : ∀ p, p ∈ gs → Sound Tryz.prog p.1 p.2.1 p.2.2) : EnvSound Tryz.prog (mkE lv gs) :=
  ⟨⟨(tys_ok tyTab_ok).1, fun g fn h => (by cases h), fun t m e te h1 h2 => arrs_ok arrTab_ok t m e te h1 h2, gls_ok glTab_ok, fun t e h => by cases h⟩, fun g sig spec hl => h (g, sig, spec) (lookup_mem hl), fun g fn h => (by cases h), by kernel_rfl⟩
def E0 : Env := mkE [] []
theorem E0_sound : EnvSound Tryz.prog E0 := mkE_sound (by simp)
end
end Go.Proofs.YtggmbjbmklimdaaGreatDoor.V

namespace Go.Proofs.YtggmbjbmklimdaaGreatDoor.V
noncomputable section

/-- the kinds of a row's leaves -/
def rowsOk (ks : List K) (rows : List (List C)) : Bool := rows.all fun r => kindsOk r ks
abbrev eInt (n : Int) : List C := [.int .i64 n]
def rowInt (r : List C) : Int := (r.getD 0 (.fn 0 [])).toInt
def ints (rows : List (List C)) : List Int := rows.map rowInt
abbrev eStr (s : List UInt8) : List C := [.str s]
def rowStr (r : List C) : List UInt8 := (r.getD 0 (.fn 0 [])).toStr
def strs (rows : List (List C)) : List (List UInt8) := rows.map rowStr
abbrev pSl (t : TypeId) : PTy := .val false [.slice t]
abbrev rSl (t : TypeId) : RTy := ⟨false, [(.slice t, true)]⟩

end
end Go.Proofs.YtggmbjbmklimdaaGreatDoor.V

namespace Go.Proofs.YtggmbjbmklimdaaGreatDoor.V
set_option maxRecDepth 100000

end Go.Proofs.YtggmbjbmklimdaaGreatDoor.V

namespace Go.Proofs.YtggmbjbmklimdaaGreatDoor.V

theorem row_int {r : List C} (h : kindsOk r [.int .i64] = true) : r = eInt (rowInt r) := by
  cases r with
  | nil => simp [kindsOk] at h
  | cons c r =>
    cases r with
    | cons d r => simp [kindsOk] at h
    | nil =>
      cases c with
      | int k n => simp [kindsOk, C.is] at h; subst h; rfl
      | _ => simp [kindsOk, C.is] at h
theorem row_str {r : List C} (h : kindsOk r [.str] = true) : r = eStr (rowStr r) := by
  cases r with
  | nil => simp [kindsOk] at h
  | cons c r =>
    cases r with
    | cons d r => simp [kindsOk] at h
    | nil =>
      cases c with
      | str s => rfl
      | _ => simp [kindsOk, C.is] at h
theorem rows_ints {rows : List (List C)} (h : rowsOk [.int .i64] rows = true) : rows = (ints rows).map eInt := by
  simp only [rowsOk, List.all_eq_true] at h
  simp only [ints, List.map_map]
  rw [List.map_congr_left (g := id)]
  · simp
  · intro r hr; exact (row_int (h r hr)).symm
theorem rows_strs {rows : List (List C)} (h : rowsOk [.str] rows = true) : rows = (strs rows).map eStr := by
  simp only [rowsOk, List.all_eq_true] at h
  simp only [strs, List.map_map]
  rw [List.map_congr_left (g := id)]
  · simp
  · intro r hr; exact (row_str (h r hr)).symm
@[simp] theorem ints_map (l : List Int) : ints (l.map eInt) = l := by simp [ints, rowInt, Function.comp_def, C.toInt]
@[simp] theorem strs_map (l : List (List UInt8)) : strs (l.map eStr) = l := by simp [strs, rowStr, Function.comp_def, C.toStr]
@[simp] theorem rowsOk_ints (l : List Int) : rowsOk [.int .i64] (l.map eInt) = true := by simp [rowsOk, kindsOk, C.is]
@[simp] theorem rowsOk_strs (l : List (List UInt8)) : rowsOk [.str] (l.map eStr) = true := by simp [rowsOk, kindsOk, C.is]
theorem flat_ints (l : List Int) : ((l.map eInt).all fun r => r.all C.flat) = true := by simp [C.flat]
theorem flat_strs (l : List (List UInt8)) : ((l.map eStr).all fun r => r.all C.flat) = true := by simp [C.flat]
theorem map_getD {A : Type} (e : A → List C) (l : List A) (d : A) (i : Nat) (h : i < l.length) : (l.map e).getD i [] = e (l.getD i d) := by
  simp [List.getD_eq_getElem?_getD, h]
theorem copy_set {A : Type} (l : List A) (z : A) (d : A) (i : Nat) (h : i < l.length) : (l.take i ++ List.replicate (l.length - i) z).set i (l.getD i d) = l.take (i + 1) ++ List.replicate (l.length - (i + 1)) z := by
  have hlen : (l.take i).length = i := by simp; omega
  rw [List.set_append_right _ _ (by omega), hlen, Nat.sub_self]
  obtain ⟨m, hm⟩ : ∃ m, l.length - i = m + 1 := ⟨l.length - i - 1, by omega⟩
  have hm2 : l.length - (i + 1) = m := by omega
  rw [hm, hm2, List.replicate_succ, List.set_cons_zero, List.take_succ_eq_append_getElem h, List.append_assoc]
  simp [List.getD_eq_getElem?_getD, h]
/- what is known of data that fit -/
theorem fit_i64 {E : Env} {x : C} (h : Fit E (.int .i64) x) : ∃ n, x = .int .i64 n ∧ -9223372036854775808 ≤ n ∧ n ≤ 9223372036854775807 := by
  cases h with
  | int a b => exact ⟨_, rfl, a, b⟩
theorem fit_bool {E : Env} {x : C} (h : Fit E .bool x) : ∃ t, x = .bool t := by
  cases h with
  | bool => exact ⟨_, rfl⟩
theorem fit_str {E : Env} {x : C} (h : Fit E .str x) : ∃ s, x = .str s ∧ s.length ≤ 140737488351232 := by
  cases h with
  | str a => exact ⟨_, rfl, a⟩
theorem fit_sl {E : Env} {e : TypeId} {x : C} (h : Fit E (.slice e) x) : ∃ rows, x = .sl rows ∧ ∀ te, E.Ty e = some te → 1 ≤ te.bytes → rows.length ≤ 140737488351232 ∧ rowsOk te.leaves rows = true := by
  cases h with
  | @sl _ te rows h1 h2 h3 h4 =>
    refine ⟨rows, rfl, fun te' ht hb => ?_⟩
    rw [h1] at ht
    obtain rfl := Option.some.inj ht
    refine ⟨Nat.le_trans (Nat.le_mul_of_pos_right _ hb) h2, ?_⟩
    simp only [rowsOk, List.all_eq_true]
    intro r hr
    exact FitAll.kinds (E := E) ⟨h3 r hr, fun j kd y hj hy => h4 r hr j kd y hj hy⟩
theorem byte_lt (l : List UInt8) (j : Nat) : (l.getD j 0).toNat < 256 := (l.getD j 0).toNat_lt
theorem drop_cons {A : Type} (l : List A) (i : Nat) (d : A) (hi : i < l.length) : l.drop i = l.getD i d :: l.drop (i + 1) := by
  rw [List.drop_eq_getElem_cons hi]; simp [List.getD_eq_getElem?_getD, hi]
theorem row_append (l : List UInt8) (v : Nat) (h : v < 256) : (rowsOfStr l).append [[C.int .u8 (v : Int)]] = rowsOfStr (l ++ [UInt8.ofNat v]) := by
  have := rows_one (v : Int) (by omega) (by omega)
  rw [Int.toNat_natCast] at this
  rw [this, List.append_eq, rowsStr_append]
theorem iand8_one (x : Int) : iand .u8 x 1 = x % 2 := by
  show IntKind.u8.wrap (((BitVec.ofInt 8 x &&& BitVec.ofInt 8 1).toNat : Nat) : Int) = _
  rw [BitVec.toNat_and]
  have h1 : (BitVec.ofInt 8 1).toNat = 1 := by decide
  have h2 : (BitVec.ofInt 8 x).toNat = (x % 256).toNat := by simp [BitVec.toNat_ofInt]
  rw [h1, h2, Nat.and_one_is_mod, wrapU8] <;> omega
theorem ishr8 (x : Int) (n : Nat) (hn : n < 8) : ishr .u8 x (n : Int) = x / 2 ^ n := by
  show x.fdiv (2 ^ (min ((n : Int).toNat) 8)) = _
  have : min ((n : Int).toNat) 8 = n := by omega
  rw [this, Int.fdiv_eq_ediv_of_nonneg]
  exact Int.pow_nonneg (by omega)
theorem ixor8_nat (a b : Nat) (ha : a < 256) (hb : b < 256) : ixor .u8 (a : Int) (b : Int) = ((a ^^^ b : Nat) : Int) := by
  show IntKind.u8.wrap (((BitVec.ofInt 8 (a : Int) ^^^ BitVec.ofInt 8 (b : Int)).toNat : Nat) : Int) = _
  rw [BitVec.toNat_xor]
  have h1 : (BitVec.ofInt 8 (a : Int)).toNat = a := by simp [BitVec.toNat_ofInt]; omega
  have h2 : (BitVec.ofInt 8 (b : Int)).toNat = b := by simp [BitVec.toNat_ofInt]; omega
  have h3 : a ^^^ b < 256 := Nat.xor_lt_two_pow (n := 8) ha hb
  rw [h1, h2, wrapU8] <;> omega
theorem ixor8_zero (x y : UInt8) : ixor .u8 (x.toNat : Int) (y.toNat : Int) = 0 ↔ x = y := by
  rw [ixor8_nat _ _ x.toNat_lt y.toNat_lt, Int.natCast_eq_zero]
  constructor
  · intro h
    have h2 : (x.toNat ^^^ y.toNat) ^^^ y.toNat = 0 ^^^ y.toNat := by rw [h]
    rw [Nat.xor_assoc, Nat.xor_self, Nat.xor_zero, Nat.zero_xor] at h2
    exact UInt8.toNat_inj.1 h2
  · rintro rfl; exact Nat.xor_self _


end Go.Proofs.YtggmbjbmklimdaaGreatDoor.V

namespace Go.Proofs.YtggmbjbmklimdaaGreatDoor.V
noncomputable section

def inB (n lo hi : Int) : Bool := decide (lo ≤ n) && decide (n ≤ hi)
def inSpec : Spec := fun cs => match cs with
  | [.int .i64 n, .int .i64 lo, .int .i64 hi] => some (true, [.bool (inB n lo hi)])
  | _ => none
def E_sIn : Env := mkE [] []
def E_iIn : Env := mkE [] []

def isVersionSpec : Spec := fun cs => match cs with
  | [.int .i64 n] => some (true, [.bool (inB n 1 2)])
  | _ => none
def E_iIsVersion : Env := mkE [] []

def newOk (v s r : Int) : Bool := inB v 1 2 && inB s 1 20 && inB r 1 50
def sel (b : Bool) (x : Int) : Int := if b then x else 0
def writerNewSpec : Spec := fun cs => match cs with
  | [.int .i64 v, .int .i64 s, .int .i64 r] => some (true, [.int .i64 (sel (newOk v s r) v), .int .i64 (sel (newOk v s r) s), .int .i64 (sel (newOk v s r) r), .int .i64 0, .int .i64 0, .sl [], .int .i64 0, .bool false, .int .i64 0, .bool (newOk v s r)])
  | _ => none
def rWriter : RTy := ⟨true, [(.int .i64, false), (.int .i64, false), (.int .i64, false), (.int .i64, false), (.int .i64, false), (.slice 56, true), (.int .i64, false), (.bool, false), (.int .i64, false)]⟩
def E_sWriterNew : Env := mkE [] [(105, (sg [pI, pI, pI] [rB]), inSpec)]
def E_iWriterNew : Env := mkE [] [(125, (sg [pI, pI, pI] [rB]), inSpec), (114, (sg [pI] [rB]), isVersionSpec)]

end
end Go.Proofs.YtggmbjbmklimdaaGreatDoor.V

namespace Go.Proofs.YtggmbjbmklimdaaGreatDoor.V
set_option maxRecDepth 100000
theorem sIn_tree (H : List Pt → Nat → St → T (List C)) (n : Int) (a : Int) (b : Int) : vBodyL E_sIn noInl (sg [pI, pI, pI] [rB]) Tryz.f105 H [C.int IntKind.i64 n, C.int IntKind.i64 a, C.int IntKind.i64 b] =
 (.must true
 (.ask (decide (a ≤ n))
  (.ask (decide (n ≤ b))
   (.must true
    (.ret [C.bool true]))
   (.must true
    (.ret [C.bool false])))
  (.must true
   (.ret [C.bool false])))) := by kernel_rfl
theorem iIn_tree (H : List Pt → Nat → St → T (List C)) (n : Int) (a : Int) (b : Int) : vBodyL E_iIn noInl (sg [pI, pI, pI] [rB]) Tryz.f125 H [C.int IntKind.i64 n, C.int IntKind.i64 a, C.int IntKind.i64 b] =
 (.must true
 (.ask (decide (a ≤ n))
  (.ask (decide (n ≤ b))
   (.must true
    (.ret [C.bool true]))
   (.must true
    (.ret [C.bool false])))
  (.must true
   (.ret [C.bool false])))) := by kernel_rfl
theorem iIsVersion_tree (H : List Pt → Nat → St → T (List C)) (n : Int) : vBodyL E_iIsVersion noInl (sg [pI] [rB]) Tryz.f114 H [C.int IntKind.i64 n] =
 (.must true
 (.ask (decide (n = (1 : Int)))
  (.must true
   (.ret [C.bool true]))
  (.ask (decide (n = (2 : Int)))
   (.must true
    (.ret [C.bool true]))
   (.must true
    (.ret [C.bool false]))))) := by kernel_rfl
theorem sWriterNew_tree (H : List Pt → Nat → St → T (List C)) (n : Int) (a : Int) (b : Int) : vBodyL E_sWriterNew noInl (sg [pI, pI, pI] [rWriter, rB]) Tryz.f89 H
  [C.int IntKind.i64 n, C.int IntKind.i64 a, C.int IntKind.i64 b] =
 (.must true
 (.must true
  (.must true
   (.must true
    (.ask (inB n (1 : Int) (2 : Int))
     (.must true
      (.must true
       (.must true
        (.ask (inB a (1 : Int) (20 : Int))
         (.must true
          (.must true
           (.must true
            (.ask (inB b (1 : Int) (50 : Int))
             (.must true
              (.ret [C.int IntKind.i64 n, C.int IntKind.i64 a, C.int IntKind.i64 b, C.int IntKind.i64 (0 : Int),
  C.int IntKind.i64 (0 : Int), C.sl [], C.int IntKind.i64 (0 : Int), C.bool false, C.int IntKind.i64 (0 : Int),
  C.bool true]))
             (.must true
              (.ret [C.int IntKind.i64 (0 : Int), C.int IntKind.i64 (0 : Int), C.int IntKind.i64 (0 : Int), C.int IntKind.i64 (0 : Int),
  C.int IntKind.i64 (0 : Int), C.sl [], C.int IntKind.i64 (0 : Int), C.bool false, C.int IntKind.i64 (0 : Int),
  C.bool false]))))))
         (.must true
          (.ret [C.int IntKind.i64 (0 : Int), C.int IntKind.i64 (0 : Int), C.int IntKind.i64 (0 : Int), C.int IntKind.i64 (0 : Int),
  C.int IntKind.i64 (0 : Int), C.sl [], C.int IntKind.i64 (0 : Int), C.bool false, C.int IntKind.i64 (0 : Int),
  C.bool false]))))))
     (.must true
      (.ret [C.int IntKind.i64 (0 : Int), C.int IntKind.i64 (0 : Int), C.int IntKind.i64 (0 : Int), C.int IntKind.i64 (0 : Int),
  C.int IntKind.i64 (0 : Int), C.sl [], C.int IntKind.i64 (0 : Int), C.bool false, C.int IntKind.i64 (0 : Int),
  C.bool false]))))))) := by kernel_rfl
theorem iWriterNew_tree (H : List Pt → Nat → St → T (List C)) (n : Int) (a : Int) (b : Int) : vBodyL E_iWriterNew noInl (sg [pI, pI, pI] [rWriter, rB]) Tryz.f93 H
  [C.int IntKind.i64 n, C.int IntKind.i64 a, C.int IntKind.i64 b] =
 (.must true
 (.must true
  (.must true
   (.must true
    (.ask (inB n (1 : Int) (2 : Int))
     (.must true
      (.must true
       (.must true
        (.ask (inB a (1 : Int) (20 : Int))
         (.must true
          (.must true
           (.must true
            (.ask (inB b (1 : Int) (50 : Int))
             (.must true
              (.ret [C.int IntKind.i64 n, C.int IntKind.i64 a, C.int IntKind.i64 b, C.int IntKind.i64 (0 : Int),
  C.int IntKind.i64 (0 : Int), C.sl [], C.int IntKind.i64 (0 : Int), C.bool false, C.int IntKind.i64 (0 : Int),
  C.bool true]))
             (.must true
              (.ret [C.int IntKind.i64 (0 : Int), C.int IntKind.i64 (0 : Int), C.int IntKind.i64 (0 : Int), C.int IntKind.i64 (0 : Int),
  C.int IntKind.i64 (0 : Int), C.sl [], C.int IntKind.i64 (0 : Int), C.bool false, C.int IntKind.i64 (0 : Int),
  C.bool false]))))))
         (.must true
          (.ret [C.int IntKind.i64 (0 : Int), C.int IntKind.i64 (0 : Int), C.int IntKind.i64 (0 : Int), C.int IntKind.i64 (0 : Int),
  C.int IntKind.i64 (0 : Int), C.sl [], C.int IntKind.i64 (0 : Int), C.bool false, C.int IntKind.i64 (0 : Int),
  C.bool false]))))))
     (.must true
      (.ret [C.int IntKind.i64 (0 : Int), C.int IntKind.i64 (0 : Int), C.int IntKind.i64 (0 : Int), C.int IntKind.i64 (0 : Int),
  C.int IntKind.i64 (0 : Int), C.sl [], C.int IntKind.i64 (0 : Int), C.bool false, C.int IntKind.i64 (0 : Int),
  C.bool false]))))))) := by kernel_rfl
end Go.Proofs.YtggmbjbmklimdaaGreatDoor.V

namespace Go.Proofs.YtggmbjbmklimdaaGreatDoor.V

theorem sIn_E : EnvSound Tryz.prog E_sIn := mkE_sound (by simp [])
theorem sIn_sound : Sound Tryz.prog 105 (sg [pI, pI, pI] [rB]) inSpec := vBody_sound sIn_E noInl_ok Tryz.func105 (by kernel_rfl) fun cs outs hk h => by
  unfold inSpec at h
  split at h
  · simp only [Option.some.injEq, Prod.mk.injEq, true_and] at h
    rw [← h, vBody_L, sIn_tree]
    simp only [eval_must', eval_ask', eval_ret', decide_eq_true_eq, if_true, inB]
    repeat' split
    all_goals first | rfl | (simp_all; done) | (simp_all; omega)
  · cases h
theorem iIn_E : EnvSound Tryz.prog E_iIn := mkE_sound (by simp [])
theorem iIn_sound : Sound Tryz.prog 125 (sg [pI, pI, pI] [rB]) inSpec := vBody_sound iIn_E noInl_ok Tryz.func125 (by kernel_rfl) fun cs outs hk h => by
  unfold inSpec at h
  split at h
  · simp only [Option.some.injEq, Prod.mk.injEq, true_and] at h
    rw [← h, vBody_L, iIn_tree]
    simp only [eval_must', eval_ask', eval_ret', decide_eq_true_eq, if_true, inB]
    repeat' split
    all_goals first | rfl | (simp_all; done) | (simp_all; omega)
  · cases h

theorem iIsVersion_E : EnvSound Tryz.prog E_iIsVersion := mkE_sound (by simp [])
theorem iIsVersion_sound : Sound Tryz.prog 114 (sg [pI] [rB]) isVersionSpec := vBody_sound iIsVersion_E noInl_ok Tryz.func114 (by kernel_rfl) fun cs outs hk h => by
  unfold isVersionSpec at h
  split at h
  · simp only [Option.some.injEq, Prod.mk.injEq, true_and] at h
    rw [← h, vBody_L, iIsVersion_tree]
    simp only [eval_must', eval_ask', eval_ret', decide_eq_true_eq, if_true, inB]
    repeat' split
    all_goals first | rfl | (simp_all; done) | (simp; omega)
  · cases h

theorem sWriterNew_E : EnvSound Tryz.prog E_sWriterNew := mkE_sound (by simp [sIn_sound])
theorem sWriterNew_sound : Sound Tryz.prog 89 (sg [pI, pI, pI] [rWriter, rB]) writerNewSpec := vBody_sound sWriterNew_E noInl_ok Tryz.func89 (by kernel_rfl) fun cs outs hk h => by
  unfold writerNewSpec at h
  split at h
  · simp only [Option.some.injEq, Prod.mk.injEq, true_and] at h
    rw [← h, vBody_L, sWriterNew_tree]
    simp only [eval_must', eval_ask', eval_ret', if_true, newOk, sel]
    repeat' split
    all_goals first | rfl | simp_all
  · cases h
theorem iWriterNew_E : EnvSound Tryz.prog E_iWriterNew := mkE_sound (by simp [iIn_sound, iIsVersion_sound])
theorem iWriterNew_sound : Sound Tryz.prog 93 (sg [pI, pI, pI] [rWriter, rB]) writerNewSpec := vBody_sound iWriterNew_E noInl_ok Tryz.func93 (by kernel_rfl) fun cs outs hk h => by
  unfold writerNewSpec at h
  split at h
  · simp only [Option.some.injEq, Prod.mk.injEq, true_and] at h
    rw [← h, vBody_L, iWriterNew_tree]
    simp only [eval_must', eval_ask', eval_ret', if_true, newOk, sel]
    repeat' split
    all_goals first | rfl | simp_all
  · cases h

end Go.Proofs.YtggmbjbmklimdaaGreatDoor.V

namespace Go.Proofs.YtggmbjbmklimdaaGreatDoor.V
noncomputable section

def ss_spec (f : List UInt8 → List UInt8 → Int) : Spec := fun cs => match cs with
  | [.str b, .str c] => some (decide (b.length ≤ 1048576) && decide (c.length ≤ 1048576), [.int .i64 (f b c)])
  | _ => none
def siLaw : Spec := fun cs => match cs with
  | [.str _, .int .i64 _] => some (true, [.bool true])
  | _ => none
def ssLaw : Spec := fun cs => match cs with
  | [.str _, .str _] => some (true, [.bool true])
  | _ => none
def siiLaw : Spec := fun cs => match cs with
  | [.str _, .int .i64 a, .int .i64 _] => some (decide (-9223372036854775808 ≤ a) && decide (a ≤ 9223372036854775807), [.bool true])
  | _ => none

def broughtOf (n least most : Int) : Int := if most < least ∨ n < least then least else if n > most then most else n
def broughtSpec : Spec := fun cs => match cs with
  | [.int .i64 n, .int .i64 least, .int .i64 most] => some (true, [.int .i64 (broughtOf n least most)])
  | _ => none
def E_sBrought : Env := mkE [] []
def E_iBrought : Env := mkE [] []

/-- bit i of 'bits' turned at bit place at + i -/
def turnStep (at' bits : Int) (l : List UInt8) (i : Nat) : List UInt8 :=
  if iand .i64 (ishr .i64 bits i) 1 = 1 ∧ 0 ≤ at' ∧ at' + i < 8 * l.length then
    l.set ((at' + i) / 8).toNat (UInt8.ofNat (ixor .u8 ((l.getD ((at' + i) / 8).toNat 0).toNat : Int) (ishl .u8 1 ((at' + i) % 8))).toNat)
  else l
def turnOf (b : List UInt8) (at' bits : Int) : List UInt8 := (List.range 32).foldl (turnStep at' bits) b
def turnTo (b : List UInt8) (a m : Int) (i : Nat) : List UInt8 := (List.range i).foldl (turnStep a m) b
def turnSpec : Spec := fun cs => match cs with
  | [.str b, .int .i64 a, .int .i64 m] => some (decide (b.length ≤ 1048576) && decide (-9223372036854775808 ≤ a) && decide (a ≤ 9223372036854775807), [.str (turnOf b a m)])
  | _ => none

def lastDiff (b c : List UInt8) : Nat → Nat
  | 0 => 0
  | i + 1 => if b.getD i 0 = c.getD i 0 then lastDiff b c i else i + 1
def endOf (b c : List UInt8) : Int := if b.length = c.length then (lastDiff b c b.length : Int) else imax b.length c.length

/-- how far two texts are alike -/
def common : List UInt8 → List UInt8 → Nat
  | x :: xs, y :: ys => if x = y then common xs ys + 1 else 0
  | _, _ => 0
def firstOf (b c : List UInt8) : Int := if b = c then -1 else common b c

end
end Go.Proofs.YtggmbjbmklimdaaGreatDoor.V

namespace Go.Proofs.YtggmbjbmklimdaaGreatDoor.V
set_option maxRecDepth 100000
theorem sBrought_tree (H : List Pt → Nat → St → T (List C)) (n : Int) (a : Int) (b : Int) : vBodyL E_sBrought noInl (sg [pI, pI, pI] [rI]) Tryz.f85 H
  [C.int IntKind.i64 n, C.int IntKind.i64 a, C.int IntKind.i64 b] =
 (.must true
 (.ask (decide (b < a))
  (.must true
   (.ret [C.int IntKind.i64 a]))
  (.ask (decide (n < a))
   (.must true
    (.ret [C.int IntKind.i64 a]))
   (.ask (decide (b < n))
    (.must true
     (.ret [C.int IntKind.i64 b]))
    (.must true
     (.ret [C.int IntKind.i64 n])))))) := by kernel_rfl
theorem iBrought_tree (H : List Pt → Nat → St → T (List C)) (n : Int) (a : Int) (b : Int) : vBodyL E_iBrought noInl (sg [pI, pI, pI] [rI]) Tryz.f86 H
  [C.int IntKind.i64 n, C.int IntKind.i64 a, C.int IntKind.i64 b] =
 (.must true
 (.ask (decide (b < a))
  (.must true
   (.ret [C.int IntKind.i64 a]))
  (.must true
   (.ret [C.int IntKind.i64 (imin (imax n a) b)])))) := by kernel_rfl
end Go.Proofs.YtggmbjbmklimdaaGreatDoor.V

namespace Go.Proofs.YtggmbjbmklimdaaGreatDoor.V

theorem u8_ne (x y : UInt8) : (((x.toNat : Int) != (y.toNat : Int)) = true) ↔ x ≠ y := by
  rw [bne_iff_ne, ne_eq, Int.ofNat_inj, UInt8.toNat_inj]
theorem u8_eq (x y : UInt8) : ((x.toNat : Int) = (y.toNat : Int)) ↔ x = y := by
  rw [Int.ofNat_inj, UInt8.toNat_inj]
theorem imin_nat (a b : Nat) : imin (a : Int) (b : Int) = ((min a b : Nat) : Int) := by unfold imin; split <;> omega
theorem imax_nat (a b : Nat) : imax (a : Int) (b : Int) = ((max a b : Nat) : Int) := by unfold imax; split <;> omega
theorem iand_one (x : Int) : iand .i64 x 1 = x % 2 := by
  show IntKind.i64.wrap (((BitVec.ofInt 64 x &&& BitVec.ofInt 64 1).toNat : Nat) : Int) = _
  rw [BitVec.toNat_and]
  have h1 : (BitVec.ofInt 64 1).toNat = 1 := by decide
  have h2 : (BitVec.ofInt 64 x).toNat = (x % 18446744073709551616).toNat := by simp [BitVec.toNat_ofInt]
  rw [h1, h2, Nat.and_one_is_mod, wrap64] <;> omega
theorem ishr_one (x : Int) : ishr .i64 x 1 = x / 2 := by
  show x.fdiv (2 ^ (min (Int.toNat 1) 64)) = _
  rw [Int.fdiv_eq_ediv_of_nonneg] <;> simp

theorem sBrought_E : EnvSound Tryz.prog E_sBrought := mkE_sound (by simp [])
theorem sBrought_sound : Sound Tryz.prog 85 (sg [pI, pI, pI] [rI]) broughtSpec := vBody_sound sBrought_E noInl_ok Tryz.func85 (by kernel_rfl) fun cs outs hk h => by
  unfold broughtSpec at h
  split at h
  · simp only [Option.some.injEq, Prod.mk.injEq, true_and] at h
    rw [← h, vBody_L, sBrought_tree]
    simp only [eval_must', eval_ask', eval_ret', decide_eq_true_eq, if_true, broughtOf]
    repeat' split
    all_goals first | rfl | omega
  · cases h
theorem iBrought_E : EnvSound Tryz.prog E_iBrought := mkE_sound (by simp [])
theorem iBrought_sound : Sound Tryz.prog 86 (sg [pI, pI, pI] [rI]) broughtSpec := vBody_sound iBrought_E noInl_ok Tryz.func86 (by kernel_rfl) fun cs outs hk h => by
  unfold broughtSpec at h
  split at h
  · simp only [Option.some.injEq, Prod.mk.injEq, true_and] at h
    rw [← h, vBody_L, iBrought_tree]
    simp only [eval_must', eval_ask', eval_ret', decide_eq_true_eq, if_true, broughtOf, imin, imax]
    repeat' split
    all_goals first | rfl | omega | (congr 3; omega)
  · cases h
theorem brought_range (n : Int) (m : Nat) : 0 ≤ broughtOf n 0 m ∧ broughtOf n 0 m ≤ m := by unfold broughtOf; repeat' split <;> omega

theorem turnTo_succ (b : List UInt8) (a m : Int) (i : Nat) : turnTo b a m (i + 1) = turnStep a m (turnTo b a m i) i := by
  simp [turnTo, List.range_succ, List.foldl_append]
theorem turnStep_length (l : List UInt8) (a m : Int) (i : Nat) : (turnStep a m l i).length = l.length := by
  unfold turnStep; split <;> simp
theorem turnTo_length (b : List UInt8) (a m : Int) : ∀ i, (turnTo b a m i).length = b.length
  | 0 => rfl
  | i + 1 => by rw [turnTo_succ, turnStep_length, turnTo_length b a m i]
theorem turn_store (l : List UInt8) (a m : Int) (i : Nat) (h1 : iand .i64 (ishr .i64 m i) 1 = 1) (h2 : 0 ≤ a) (h3 : a + i < 8 * l.length) :
    (rowsOfStr l).set ((a + i) / 8).toNat (C.int .u8 (ixor .u8 (((rowsOfStr l).getD ((a + i) / 8).toNat []).getD 0 (C.fn 0 [])).toInt (ishl .u8 1 ((a + i) % 8))) :: List.drop (0 + 1) ((rowsOfStr l).getD ((a + i) / 8).toNat [])) = rowsOfStr (turnStep a m l i) := by
  have hj : ((a + i) / 8).toNat < l.length := by omega
  rw [rows_get l _ hj]
  simp only [List.getD_cons_zero, C.toInt, List.drop_succ_cons, List.drop_nil, Nat.zero_add]
  rw [rows_set _ _ _ (ixor8_range _ _).1 (ixor8_range _ _).2]
  simp only [turnStep, h1, h2, h3, and_self, if_true]
theorem turn_neg (b : List UInt8) (a m : Int) (h : a < 0) : turnOf b a m = b := by
  have : ∀ i, turnTo b a m i = b := by
    intro i
    induction i with
    | zero => rfl
    | succ i ih => rw [turnTo_succ, ih]; unfold turnStep; rw [if_neg (by omega)]
  exact this 32

theorem lastDiff_le (b c : List UInt8) : ∀ i, lastDiff b c i ≤ i
  | 0 => Nat.le_refl _
  | i + 1 => by simp only [lastDiff]; have := lastDiff_le b c i; split <;> omega

theorem common_le : ∀ (b c : List UInt8), common b c ≤ b.length ∧ common b c ≤ c.length
  | [], _ => by simp [common]
  | _ :: _, [] => by simp [common]
  | x :: xs, y :: ys => by
    simp only [common]
    have := common_le xs ys
    split <;> simp <;> omega
theorem common_lt : ∀ (b c : List UInt8) (i : Nat), i < common b c → b.getD i 0 = c.getD i 0
  | [], _, i => by simp [common]
  | _ :: _, [], i => by simp [common]
  | x :: xs, y :: ys, i => by
    simp only [common]
    split
    · rename_i h
      cases i with
      | zero => intro _; simpa using h
      | succ i => intro hi; have := common_lt xs ys i (by omega); simpa using this
    · intro h; omega
theorem common_ne : ∀ (b c : List UInt8), common b c < b.length → common b c < c.length → b.getD (common b c) 0 ≠ c.getD (common b c) 0
  | [], _ => by simp [common]
  | _ :: _, [] => by simp [common]
  | x :: xs, y :: ys => by
    simp only [common]
    split
    · intro h1 h2
      have := common_ne xs ys (by simpa using h1) (by simpa using h2)
      simpa using this
    · rename_i h; intro _ _; simpa using h
theorem common_self : ∀ (b : List UInt8), common b b = b.length
  | [] => rfl
  | x :: xs => by simp [common, common_self xs]
theorem common_eq : ∀ (b c : List UInt8), common b c = b.length → b.length = c.length → b = c
  | [], [] => by simp
  | [], _ :: _ => by simp
  | _ :: _, [] => by simp
  | x :: xs, y :: ys => by
    simp only [common]
    split
    · rename_i h
      intro h1 h2
      rw [h, common_eq xs ys (by simpa using h1) (by simpa using h2)]
    · intro h; simp at h

end Go.Proofs.YtggmbjbmklimdaaGreatDoor.V

namespace Go.Proofs.YtggmbjbmklimdaaGreatDoor.V
noncomputable section

end
end Go.Proofs.YtggmbjbmklimdaaGreatDoor.V

namespace Go.Proofs.YtggmbjbmklimdaaGreatDoor.V
set_option maxRecDepth 100000

end Go.Proofs.YtggmbjbmklimdaaGreatDoor.V

namespace Go.Proofs.YtggmbjbmklimdaaGreatDoor.V

end Go.Proofs.YtggmbjbmklimdaaGreatDoor.V

namespace Go.Proofs.YtggmbjbmklimdaaGreatDoor.V
noncomputable section

end
end Go.Proofs.YtggmbjbmklimdaaGreatDoor.V

namespace Go.Proofs.YtggmbjbmklimdaaGreatDoor.V
set_option maxRecDepth 100000

end Go.Proofs.YtggmbjbmklimdaaGreatDoor.V

namespace Go.Proofs.YtggmbjbmklimdaaGreatDoor.V

end Go.Proofs.YtggmbjbmklimdaaGreatDoor.V

namespace Go.Proofs.YtggmbjbmklimdaaGreatDoor.V
noncomputable section

def crcStep (x : Nat) : Nat := if x % 2 = 1 then (x / 2) ^^^ 2197175160 else x / 2
def crcIter : Nat → Nat → Nat
  | 0, x => x
  | n + 1, x => crcIter n (crcStep x)
def crcByte (s b : Nat) : Nat := crcIter 8 (s ^^^ b)
def low32 (s : Int) : Nat := (s % 4294967296).toNat
def crcFold (x : Nat) (t : List UInt8) : Nat := t.foldl (fun x c => crcByte x c.toNat) x
def crcMore (s : Nat) (t : List UInt8) : Nat := crcFold (s ^^^ 4294967295) t ^^^ 4294967295
def sumByteSpec : Spec := fun cs => match cs with
  | [.int .i64 s, .int .i64 b] => some (true, [.int .i64 (crcByte (low32 s) (b % 256).toNat : Nat)])
  | _ => none
def sumByte32Spec : Spec := fun cs => match cs with
  | [.int .u32 s, .int .u8 b] => some (decide (0 ≤ s ∧ s ≤ 4294967295) && decide (0 ≤ b ∧ b ≤ 255), [.int .u32 (crcByte s.toNat b.toNat : Nat)])
  | _ => none
def sumMoreSpec : Spec := fun cs => match cs with
  | [.int .i64 s, .str t] => some (decide (t.length ≤ 281474976710656), [.int .i64 (crcMore (low32 s) t : Nat)])
  | _ => none
def sumOfSpec : Spec := fun cs => match cs with
  | [.str t] => some (decide (t.length ≤ 281474976710656), [.int .i64 (crcMore 0 t : Nat)])
  | _ => none
def H_sSumByte (x i : Int) : St := st0 [(5, int64 x), (6, int64 i)]
def H_iSumByte32 (x i : Int) : St := st0 [(0, .l (.i .u32 x)), (10, int64 i)]
def H_sSumMore (t : List UInt8) (x i : Int) : St := st0 [(1, wstr t), (5, int64 x), (6, int64 i)]
def H_iSumMore (t : List UInt8) (x n i : Int) : St := st0 [(1, wstr t), (5, .l (.i .u32 x)), (11, int64 n), (12, int64 i)]
def E_sSumByte : Env := mkE [(3, [5, 6])] []
def E_iSumByte32 : Env := mkE [(3, [0, 10])] []
def E_sSumMore : Env := mkE [(3, [1, 5, 6])] [(273, (sg [pI, pI] [rI]), sumByteSpec)]
def E_iSumMore : Env := mkE [(3, [1, 5, 11, 12])] [(275, (sg [pU32, pU8] [rU32]), sumByte32Spec)]
def E_sSumOf : Env := mkE [] [(231, (sg [pI, pS] [rI]), sumMoreSpec)]
def E_iSumOf : Env := mkE [] [(246, (sg [pI, pS] [rI]), sumMoreSpec)]

end
end Go.Proofs.YtggmbjbmklimdaaGreatDoor.V

namespace Go.Proofs.YtggmbjbmklimdaaGreatDoor.V
set_option maxRecDepth 100000
theorem sSumByte_tree (H : List Pt → Nat → St → T (List C)) (s : Int) (b : Int) : vBodyL E_sSumByte noInl (sg [pI, pI] [rI]) Tryz.f273 H [C.int IntKind.i64 s, C.int IntKind.i64 b] =
 (.must true
 (H [Pt.r, Pt.r, Pt.l, Pt.r, Pt.b] (9223372036854775808 : Nat) (H_sSumByte (ixor IntKind.i64 (iand IntKind.i64 s (4294967295 : Int)) (iand IntKind.i64 b (255 : Int))) ((0 : Int))))) := by kernel_rfl
theorem iSumByte32_tree (H : List Pt → Nat → St → T (List C)) (s : Int) (b : Int) : vBodyL E_iSumByte32 noInl (sg [pU32, pU8] [rU32]) Tryz.f275 H [C.int IntKind.u32 s, C.int IntKind.u8 b] =
 (.must true
 (H [Pt.r, Pt.r, Pt.l, Pt.r, Pt.b] (9223372036854775808 : Nat) (H_iSumByte32 (ixor IntKind.u32 s (IntKind.u32.wrap b)) ((0 : Int))))) := by kernel_rfl
theorem sSumByte_round0 (H : List Pt → Nat → St → T (List C)) (x : Int) (i : Int) (k : Nat) : vRound E_sSumByte noInl (sg [pI, pI] [rI]) Tryz.f273 H [Pt.r, Pt.r, Pt.l, Pt.r, Pt.b] k (H_sSumByte x i) =
 (.ask (decide (i < (8 : Int)))
 (.ask (decide (iand IntKind.i64 x (1 : Int) = (1 : Int)))
  (.must true
   (H [Pt.r, Pt.r, Pt.l, Pt.r, Pt.b] k (H_sSumByte (ixor IntKind.i64 (ishr IntKind.i64 x (1 : Int)) (2197175160 : Int)) (IntKind.i64.wrap (i + (1 : Int))))))
  (.must true
   (H [Pt.r, Pt.r, Pt.l, Pt.r, Pt.b] k (H_sSumByte (ishr IntKind.i64 x (1 : Int)) (IntKind.i64.wrap (i + (1 : Int)))))))
 (.must true
  (.ret [C.int IntKind.i64 x]))) := by kernel_rfl
theorem iSumByte32_round0 (H : List Pt → Nat → St → T (List C)) (x : Int) (i : Int) (k : Nat) : vRound E_iSumByte32 noInl (sg [pU32, pU8] [rU32]) Tryz.f275 H [Pt.r, Pt.r, Pt.l, Pt.r, Pt.b] k (H_iSumByte32 x i) =
 (.ask (decide (i < (8 : Int)))
 (.ask (decide (iand IntKind.u32 x (1 : Int) = (1 : Int)))
  (.must true
   (H [Pt.r, Pt.r, Pt.l, Pt.r, Pt.b] k (H_iSumByte32 (ixor IntKind.u32 (ishr IntKind.u32 x (1 : Int)) (2197175160 : Int)) (IntKind.i64.wrap (i + (1 : Int))))))
  (.must true
   (H [Pt.r, Pt.r, Pt.l, Pt.r, Pt.b] k (H_iSumByte32 (ishr IntKind.u32 x (1 : Int)) (IntKind.i64.wrap (i + (1 : Int)))))))
 (.must true
  (.ret [C.int IntKind.u32 x]))) := by kernel_rfl
theorem sSumMore_round0 (H : List Pt → Nat → St → T (List C)) (t : List UInt8) (x : Int) (i : Int) (k : Nat) : vRound E_sSumMore noInl (sg [pI, pS] [rI]) Tryz.f231 H [Pt.r, Pt.r, Pt.l, Pt.r, Pt.b] k (H_sSumMore t x i) =
 (.ask (decide (i < (↑t.length : Int)))
 (.must (decide ((0 : Int) ≤ i) && decide (i < (↑t.length : Int)))
  (.must true
   (.must true
    (.must true
     (H [Pt.r, Pt.r, Pt.l, Pt.r, Pt.b] k (H_sSumMore (t) (Int.ofNat (crcByte (low32 x) (IntKind.i64.wrap (↑(t.getD i.toNat (0 : UInt8)).toNat : Int) % (256 : Int)).toNat)) (IntKind.i64.wrap (i + (1 : Int)))))))))
 (.must true
  (.ret [C.int IntKind.i64 (ixor IntKind.i64 x (4294967295 : Int))]))) := by kernel_rfl
theorem iSumMore_round0 (H : List Pt → Nat → St → T (List C)) (t : List UInt8) (x : Int) (n : Int) (i : Int) (k : Nat) : vRound E_iSumMore noInl (sg [pI, pS] [rI]) Tryz.f246 H [Pt.r, Pt.r, Pt.l, Pt.r, Pt.b] k (H_iSumMore t x n i) =
 (.ask (decide (i < n))
 (.must (decide ((0 : Int) ≤ i) && decide (i < (↑t.length : Int)))
  (.must true
   (.must (decide ((0 : Int) ≤ x ∧ x ≤ (4294967295 : Int)) &&
  decide
    ((0 : Int) ≤ (↑(t.getD i.toNat (0 : UInt8)).toNat : Int) ∧
      (↑(t.getD i.toNat (0 : UInt8)).toNat : Int) ≤ (255 : Int)))
    (.must true
     (H [Pt.r, Pt.r, Pt.l, Pt.r, Pt.b] k (H_iSumMore (t) (Int.ofNat (crcByte x.toNat (↑(t.getD i.toNat (0 : UInt8)).toNat : Int).toNat)) (n) (IntKind.i64.wrap (i + (1 : Int)))))))))
 (.must true
  (.ret [C.int IntKind.i64 (IntKind.i64.wrap (ixor IntKind.u32 x (4294967295 : Int)))]))) := by kernel_rfl
theorem sSumMore_tree (H : List Pt → Nat → St → T (List C)) (s : Int) (t : List UInt8) : vBodyL E_sSumMore noInl (sg [pI, pS] [rI]) Tryz.f231 H [C.int IntKind.i64 s, C.str t] =
 (.must true
 (H [Pt.r, Pt.r, Pt.l, Pt.r, Pt.b] (9223372036854775808 : Nat) (H_sSumMore (t) (ixor IntKind.i64 (iand IntKind.i64 s (4294967295 : Int)) (4294967295 : Int)) ((0 : Int))))) := by kernel_rfl
theorem iSumMore_tree (H : List Pt → Nat → St → T (List C)) (s : Int) (t : List UInt8) : vBodyL E_iSumMore noInl (sg [pI, pS] [rI]) Tryz.f246 H [C.int IntKind.i64 s, C.str t] =
 (.must true
 (H [Pt.r, Pt.r, Pt.l, Pt.r, Pt.b] (9223372036854775808 : Nat) (H_iSumMore (t) (ixor IntKind.u32 (IntKind.u32.wrap s) (4294967295 : Int)) ((↑t.length : Int)) ((0 : Int))))) := by kernel_rfl
theorem sSumOf_tree (H : List Pt → Nat → St → T (List C)) (t : List UInt8) : vBodyL E_sSumOf noInl (sg [pS] [rI]) Tryz.f237 H [C.str t] =
 (.must true
 (.must true
  (.must (decide (t.length ≤ (281474976710656 : Nat)))
   (.must true
    (.must true
     (.ret [C.int IntKind.i64 (Int.ofNat (crcMore (low32 (0 : Int)) t))])))))) := by kernel_rfl
theorem iSumOf_tree (H : List Pt → Nat → St → T (List C)) (t : List UInt8) : vBodyL E_iSumOf noInl (sg [pS] [rI]) Tryz.f263 H [C.str t] =
 (.must true
 (.must true
  (.must (decide (t.length ≤ (281474976710656 : Nat)))
   (.must true
    (.must true
     (.ret [C.int IntKind.i64 (Int.ofNat (crcMore (low32 (0 : Int)) t))])))))) := by kernel_rfl
end Go.Proofs.YtggmbjbmklimdaaGreatDoor.V

namespace Go.Proofs.YtggmbjbmklimdaaGreatDoor.V

theorem iand32 (s : Int) : iand .i64 s 4294967295 = (low32 s : Int) := by
  show IntKind.i64.wrap (((BitVec.ofInt 64 s &&& BitVec.ofInt 64 4294967295).toNat : Nat) : Int) = _
  rw [BitVec.toNat_and]
  have h1 : (BitVec.ofInt 64 4294967295).toNat = 2 ^ 32 - 1 := by decide
  have h2 : (BitVec.ofInt 64 s).toNat = (s % 18446744073709551616).toNat := by simp [BitVec.toNat_ofInt]
  rw [h1, h2, Nat.and_two_pow_sub_one_eq_mod]
  unfold low32
  rw [wrap64] <;> omega
theorem iand255 (s : Int) : iand .i64 s 255 = s % 256 := by
  show IntKind.i64.wrap (((BitVec.ofInt 64 s &&& BitVec.ofInt 64 255).toNat : Nat) : Int) = _
  rw [BitVec.toNat_and]
  have h1 : (BitVec.ofInt 64 255).toNat = 2 ^ 8 - 1 := by decide
  have h2 : (BitVec.ofInt 64 s).toNat = (s % 18446744073709551616).toNat := by simp [BitVec.toNat_ofInt]
  rw [h1, h2, Nat.and_two_pow_sub_one_eq_mod, wrap64] <;> omega
theorem ixor64_nat (a b : Nat) (ha : a < 4294967296) (hb : b < 4294967296) : ixor .i64 (a : Int) (b : Int) = ((a ^^^ b : Nat) : Int) := by
  show IntKind.i64.wrap (((BitVec.ofInt 64 (a : Int) ^^^ BitVec.ofInt 64 (b : Int)).toNat : Nat) : Int) = _
  rw [BitVec.toNat_xor]
  have h1 : (BitVec.ofInt 64 (a : Int)).toNat = a := by simp [BitVec.toNat_ofInt]; omega
  have h2 : (BitVec.ofInt 64 (b : Int)).toNat = b := by simp [BitVec.toNat_ofInt]; omega
  have h3 : a ^^^ b < 4294967296 := Nat.xor_lt_two_pow (n := 32) ha hb
  rw [h1, h2, wrap64] <;> omega
theorem ixor32_nat (a b : Nat) (ha : a < 4294967296) (hb : b < 4294967296) : ixor .u32 (a : Int) (b : Int) = ((a ^^^ b : Nat) : Int) := by
  show IntKind.u32.wrap (((BitVec.ofInt 32 (a : Int) ^^^ BitVec.ofInt 32 (b : Int)).toNat : Nat) : Int) = _
  rw [BitVec.toNat_xor]
  have h1 : (BitVec.ofInt 32 (a : Int)).toNat = a := by simp [BitVec.toNat_ofInt]; omega
  have h2 : (BitVec.ofInt 32 (b : Int)).toNat = b := by simp [BitVec.toNat_ofInt]; omega
  have h3 : a ^^^ b < 4294967296 := Nat.xor_lt_two_pow (n := 32) ha hb
  rw [h1, h2, wrapU32] <;> omega
theorem iand32_one (x : Int) : iand .u32 x 1 = x % 2 := by
  show IntKind.u32.wrap (((BitVec.ofInt 32 x &&& BitVec.ofInt 32 1).toNat : Nat) : Int) = _
  rw [BitVec.toNat_and]
  have h1 : (BitVec.ofInt 32 1).toNat = 1 := by decide
  have h2 : (BitVec.ofInt 32 x).toNat = (x % 4294967296).toNat := by simp [BitVec.toNat_ofInt]
  rw [h1, h2, Nat.and_one_is_mod, wrapU32] <;> omega
theorem ishr32_one (x : Int) : ishr .u32 x 1 = x / 2 := by
  show x.fdiv (2 ^ (min (Int.toNat 1) 32)) = _
  rw [Int.fdiv_eq_ediv_of_nonneg] <;> simp
theorem wrapU32_low (s : Int) : IntKind.u32.wrap s = (low32 s : Int) := by
  unfold low32
  simp only [IntKind.wrap, IntKind.bits, IntKind.signed]
  simp
  omega
theorem low32_lt (s : Int) : low32 s < 4294967296 := by unfold low32; omega
theorem crcStep_lt (x : Nat) (h : x < 4294967296) : crcStep x < 4294967296 := by
  unfold crcStep
  split
  · exact Nat.xor_lt_two_pow (n := 32) (by omega) (by omega)
  · omega
theorem crcIter_lt : ∀ (n x : Nat), x < 4294967296 → crcIter n x < 4294967296
  | 0, x, h => h
  | n + 1, x, h => crcIter_lt n _ (crcStep_lt x h)
theorem crcByte_lt (s b : Nat) (hs : s < 4294967296) (hb : b < 256) : crcByte s b < 4294967296 :=
  crcIter_lt 8 _ (Nat.xor_lt_two_pow (n := 32) hs (by omega))
theorem crcFold_lt : ∀ (t : List UInt8) (x : Nat), x < 4294967296 → crcFold x t < 4294967296
  | [], x, h => h
  | c :: t, x, h => crcFold_lt t _ (crcByte_lt x c.toNat h c.toNat_lt)
theorem crcMore_lt (s : Nat) (t : List UInt8) (hs : s < 4294967296) : crcMore s t < 4294967296 :=
  Nat.xor_lt_two_pow (n := 32) (crcFold_lt t _ (Nat.xor_lt_two_pow (n := 32) hs (by omega))) (by omega)

theorem sSumByte_loop : ∀ (n i x : Nat), x < 4294967296 → i ≤ 8 → 8 < i + n →
    (vLoop E_sSumByte noInl (sg [pI, pI] [rI]) Tryz.f273 [.r, .r, .l, .r, .b] n (H_sSumByte x i)).eval = some [.int .i64 (crcIter (8 - i) x : Nat)] := by
  intro n
  induction n with
  | zero => intro i x hx h1 h2; omega
  | succ n ih =>
    intro i x hx h1 h2
    rw [vLoop_L _ _ _ _ _ _ _ (by kernel_rfl), sSumByte_round0]
    by_cases hi : i < 8
    · have e := ih (i + 1) (crcStep x) (crcStep_lt x hx) (by omega) (by omega)
      have hs : 8 - i = (8 - (i + 1)) + 1 := by omega
      have w : IntKind.i64.wrap ((i : Int) + 1) = ((i + 1 : Nat) : Int) := by rw [wrap64] <;> omega
      have hi' : (i : Int) < 8 := by omega
      have d : (x : Int) / 2 = ((x / 2 : Nat) : Int) := by omega
      have m : (x : Int) % 2 = ((x % 2 : Nat) : Int) := by omega
      have hx2 : ixor .i64 ((x / 2 : Nat) : Int) 2197175160 = ((x / 2 ^^^ 2197175160 : Nat) : Int) := ixor64_nat (x / 2) 2197175160 (by omega) (by omega)
      rw [hs]
      simp only [crcIter]
      rw [← e]
      simp only [eval_must', eval_ask', eval_ret', if_true, decide_eq_true_eq, w, hi', iand_one, ishr_one, d, m, hx2]
      unfold crcStep
      by_cases ho : x % 2 = 1
      · simp [ho]
      · simp only [ho, if_false]; rw [if_neg (by omega)]
    · have : i = 8 := by omega
      subst this
      simp [eval_must', eval_ask', eval_ret', crcIter]
theorem sSumByte_E : EnvSound Tryz.prog E_sSumByte := mkE_sound (by simp [])
theorem sSumByte_sound : Sound Tryz.prog 273 (sg [pI, pI] [rI]) sumByteSpec := vBody_sound sSumByte_E noInl_ok Tryz.func273 (by kernel_rfl) fun cs outs hk h => by
  unfold sumByteSpec at h
  split at h
  · simp only [Option.some.injEq, Prod.mk.injEq, true_and] at h
    rename_i s b
    rw [← h, vBody_L, sSumByte_tree]
    have e : b % 256 = ((b % 256).toNat : Int) := by omega
    have hb : (b % 256).toNat < 256 := by omega
    simp only [eval_must', if_true, iand32, iand255]
    rw [e, ixor64_nat _ _ (low32_lt s) (by omega)]
    exact sSumByte_loop _ 0 _ (Nat.xor_lt_two_pow (n := 32) (low32_lt s) (by omega)) (by omega) (by omega)
  · cases h

theorem iSumByte32_loop : ∀ (n i x : Nat), x < 4294967296 → i ≤ 8 → 8 < i + n →
    (vLoop E_iSumByte32 noInl (sg [pU32, pU8] [rU32]) Tryz.f275 [.r, .r, .l, .r, .b] n (H_iSumByte32 x i)).eval = some [.int .u32 (crcIter (8 - i) x : Nat)] := by
  intro n
  induction n with
  | zero => intro i x hx h1 h2; omega
  | succ n ih =>
    intro i x hx h1 h2
    rw [vLoop_L _ _ _ _ _ _ _ (by kernel_rfl), iSumByte32_round0]
    by_cases hi : i < 8
    · have e := ih (i + 1) (crcStep x) (crcStep_lt x hx) (by omega) (by omega)
      have hs : 8 - i = (8 - (i + 1)) + 1 := by omega
      have w : IntKind.i64.wrap ((i : Int) + 1) = ((i + 1 : Nat) : Int) := by rw [wrap64] <;> omega
      have hi' : (i : Int) < 8 := by omega
      have d : (x : Int) / 2 = ((x / 2 : Nat) : Int) := by omega
      have m : (x : Int) % 2 = ((x % 2 : Nat) : Int) := by omega
      have hx2 : ixor .u32 ((x / 2 : Nat) : Int) 2197175160 = ((x / 2 ^^^ 2197175160 : Nat) : Int) := ixor32_nat (x / 2) 2197175160 (by omega) (by omega)
      rw [hs]
      simp only [crcIter]
      rw [← e]
      simp only [eval_must', eval_ask', eval_ret', if_true, decide_eq_true_eq, w, hi', iand32_one, ishr32_one, d, m, hx2]
      unfold crcStep
      by_cases ho : x % 2 = 1
      · simp [ho]
      · simp only [ho, if_false]; rw [if_neg (by omega)]
    · have : i = 8 := by omega
      subst this
      simp [eval_must', eval_ask', eval_ret', crcIter]
theorem iSumByte32_E : EnvSound Tryz.prog E_iSumByte32 := mkE_sound (by simp [])
theorem iSumByte32_sound : Sound Tryz.prog 275 (sg [pU32, pU8] [rU32]) sumByte32Spec := vBody_sound iSumByte32_E noInl_ok Tryz.func275 (by kernel_rfl) fun cs outs hk h => by
  unfold sumByte32Spec at h
  split at h
  · simp only [Option.some.injEq, Prod.mk.injEq, Bool.and_eq_true, decide_eq_true_eq] at h
    obtain ⟨⟨⟨h1, h2⟩, h3, h4⟩, rfl⟩ := h
    rename_i s b
    obtain ⟨s, rfl⟩ := Int.eq_ofNat_of_zero_le h1
    obtain ⟨b, rfl⟩ := Int.eq_ofNat_of_zero_le h3
    rw [vBody_L, iSumByte32_tree]
    simp only [eval_must', if_true, Int.toNat_natCast]
    rw [wrapU32 (by omega) (by omega), ixor32_nat _ _ (by omega) (by omega)]
    exact iSumByte32_loop _ 0 _ (Nat.xor_lt_two_pow (n := 32) (by omega) (by omega)) (by omega) (by omega)
  · cases h

theorem drop_step (t : List UInt8) (i : Nat) (h : i < t.length) : t.drop i = t.getD i 0 :: t.drop (i + 1) := by
  rw [List.drop_eq_getElem_cons h]; simp [List.getD_eq_getElem?_getD, h]
theorem sSumMore_loop (t : List UInt8) (ht : t.length ≤ 281474976710656) : ∀ (n i x : Nat), x < 4294967296 → i ≤ t.length → t.length < i + n →
    (vLoop E_sSumMore noInl (sg [pI, pS] [rI]) Tryz.f231 [.r, .r, .l, .r, .b] n (H_sSumMore t x i)).eval = some [.int .i64 (crcFold x (t.drop i) ^^^ 4294967295 : Nat)] := by
  intro n
  induction n with
  | zero => intro i x hx h1 h2; omega
  | succ n ih =>
    intro i x hx h1 h2
    rw [vLoop_L _ _ _ _ _ _ _ (by kernel_rfl), sSumMore_round0]
    by_cases hi : i < t.length
    · have hb := byte_lt t i
      have e := ih (i + 1) (crcByte x (t.getD i 0).toNat) (crcByte_lt _ _ hx hb) (by omega) (by omega)
      have w : IntKind.i64.wrap ((i : Int) + 1) = ((i + 1 : Nat) : Int) := by rw [wrap64] <;> omega
      have hz : (0 : Int) ≤ i := by omega
      have w2 : IntKind.i64.wrap ((t.getD i 0).toNat : Int) = ((t.getD i 0).toNat : Int) := by rw [wrap64] <;> omega
      have l1 : low32 (x : Int) = x := by unfold low32; omega
      have l2 : (((t.getD i 0).toNat : Int) % 256).toNat = (t.getD i 0).toNat := by omega
      rw [drop_step t i hi]
      simp only [crcFold, List.foldl_cons] at e ⊢
      simp only [eval_must', eval_ask', eval_ret', if_true, decide_eq_true_eq, Bool.and_eq_true, w, hz, Int.toNat_natCast, Int.ofNat_lt, hi, and_self, w2, l1, l2]
      exact e
    · have : i = t.length := by omega
      subst this
      have hx2 : ixor .i64 (x : Int) 4294967295 = ((x ^^^ 4294967295 : Nat) : Int) := ixor64_nat x 4294967295 hx (by omega)
      simp [eval_must', eval_ask', eval_ret', crcFold, hx2]
theorem sSumMore_E : EnvSound Tryz.prog E_sSumMore := mkE_sound (by simp [sSumByte_sound])
theorem sSumMore_sound : Sound Tryz.prog 231 (sg [pI, pS] [rI]) sumMoreSpec := vBody_sound sSumMore_E noInl_ok Tryz.func231 (by kernel_rfl) fun cs outs hk h => by
  unfold sumMoreSpec at h
  split at h
  · simp only [Option.some.injEq, Prod.mk.injEq, decide_eq_true_eq] at h
    obtain ⟨h1, rfl⟩ := h
    rename_i s t
    rw [vBody_L, sSumMore_tree]
    have hx2 : ixor .i64 (low32 s : Int) 4294967295 = ((low32 s ^^^ 4294967295 : Nat) : Int) := ixor64_nat _ 4294967295 (low32_lt s) (by omega)
    simp only [eval_must', if_true, iand32, hx2]
    exact sSumMore_loop t h1 _ 0 _ (Nat.xor_lt_two_pow (n := 32) (low32_lt s) (by omega)) (by omega) (by omega)
  · cases h
theorem iSumMore_loop (t : List UInt8) (ht : t.length ≤ 281474976710656) : ∀ (n i x : Nat), x < 4294967296 → i ≤ t.length → t.length < i + n →
    (vLoop E_iSumMore noInl (sg [pI, pS] [rI]) Tryz.f246 [.r, .r, .l, .r, .b] n (H_iSumMore t x t.length i)).eval = some [.int .i64 (crcFold x (t.drop i) ^^^ 4294967295 : Nat)] := by
  intro n
  induction n with
  | zero => intro i x hx h1 h2; omega
  | succ n ih =>
    intro i x hx h1 h2
    rw [vLoop_L _ _ _ _ _ _ _ (by kernel_rfl), iSumMore_round0]
    by_cases hi : i < t.length
    · have hb := byte_lt t i
      have e := ih (i + 1) (crcByte x (t.getD i 0).toNat) (crcByte_lt _ _ hx hb) (by omega) (by omega)
      have w : IntKind.i64.wrap ((i : Int) + 1) = ((i + 1 : Nat) : Int) := by rw [wrap64] <;> omega
      have hz : (0 : Int) ≤ i := by omega
      have hx1 : (0 : Int) ≤ x := by omega
      have hx2 : (x : Int) ≤ 4294967295 := by omega
      have hb1 : (0 : Int) ≤ ((t.getD i 0).toNat : Int) := by omega
      have hb2 : ((t.getD i 0).toNat : Int) ≤ 255 := by omega
      rw [drop_step t i hi]
      simp only [crcFold, List.foldl_cons] at e ⊢
      simp only [eval_must', eval_ask', eval_ret', if_true, decide_eq_true_eq, Bool.and_eq_true, w, hz, Int.toNat_natCast, Int.ofNat_lt, hi, and_self, hx1, hx2, hb1, hb2]
      exact e
    · have : i = t.length := by omega
      subst this
      have hx2 : ixor .u32 (x : Int) 4294967295 = ((x ^^^ 4294967295 : Nat) : Int) := ixor32_nat x 4294967295 hx (by omega)
      have hl : x ^^^ 4294967295 < 4294967296 := Nat.xor_lt_two_pow (n := 32) hx (by omega)
      have w : IntKind.i64.wrap ((x ^^^ 4294967295 : Nat) : Int) = ((x ^^^ 4294967295 : Nat) : Int) := by rw [wrap64] <;> omega
      simp [eval_must', eval_ask', eval_ret', crcFold, hx2, w]
theorem iSumMore_E : EnvSound Tryz.prog E_iSumMore := mkE_sound (by simp [iSumByte32_sound])
theorem iSumMore_sound : Sound Tryz.prog 246 (sg [pI, pS] [rI]) sumMoreSpec := vBody_sound iSumMore_E noInl_ok Tryz.func246 (by kernel_rfl) fun cs outs hk h => by
  unfold sumMoreSpec at h
  split at h
  · simp only [Option.some.injEq, Prod.mk.injEq, decide_eq_true_eq] at h
    obtain ⟨h1, rfl⟩ := h
    rename_i s t
    rw [vBody_L, iSumMore_tree]
    have hx2 : ixor .u32 (low32 s : Int) 4294967295 = ((low32 s ^^^ 4294967295 : Nat) : Int) := ixor32_nat _ 4294967295 (low32_lt s) (by omega)
    simp only [eval_must', if_true, wrapU32_low, hx2]
    exact iSumMore_loop t h1 _ 0 _ (Nat.xor_lt_two_pow (n := 32) (low32_lt s) (by omega)) (by omega) (by omega)
  · cases h
theorem sSumOf_E : EnvSound Tryz.prog E_sSumOf := mkE_sound (by simp [sSumMore_sound])
theorem sSumOf_sound : Sound Tryz.prog 237 (sg [pS] [rI]) sumOfSpec := vBody_sound sSumOf_E noInl_ok Tryz.func237 (by kernel_rfl) fun cs outs hk h => by
  unfold sumOfSpec at h
  split at h
  · simp only [Option.some.injEq, Prod.mk.injEq, decide_eq_true_eq] at h
    obtain ⟨h1, rfl⟩ := h
    rw [vBody_L, sSumOf_tree]
    simp [eval_must', eval_ret', h1]
    rfl
  · cases h
theorem iSumOf_E : EnvSound Tryz.prog E_iSumOf := mkE_sound (by simp [iSumMore_sound])
theorem iSumOf_sound : Sound Tryz.prog 263 (sg [pS] [rI]) sumOfSpec := vBody_sound iSumOf_E noInl_ok Tryz.func263 (by kernel_rfl) fun cs outs hk h => by
  unfold sumOfSpec at h
  split at h
  · simp only [Option.some.injEq, Prod.mk.injEq, decide_eq_true_eq] at h
    obtain ⟨h1, rfl⟩ := h
    rw [vBody_L, iSumOf_tree]
    simp [eval_must', eval_ret', h1]
    rfl
  · cases h

end Go.Proofs.YtggmbjbmklimdaaGreatDoor.V

namespace Go.Proofs.YtggmbjbmklimdaaGreatDoor.V
noncomputable section

def isNumberSpec : Spec := fun cs => match cs with
  | [.int .i64 n] => some (true, [.bool (inB n 0 1000000000)])
  | _ => none
def E_iIsNumber : Env := mkE [] [(125, (sg [pI, pI, pI] [rB]), inSpec)]

def leBytes : Nat → Nat → List UInt8
  | 0, _ => []
  | k + 1, n => UInt8.ofNat (n % 256) :: leBytes k (n / 256)
def fixOf (n w : Int) : List UInt8 := if 0 ≤ n ∧ 1 ≤ w ∧ w ≤ 8 ∧ n.toNat < 256 ^ w.toNat then leBytes w.toNat n.toNat else []
def leVal : List UInt8 → Nat
  | [] => 0
  | c :: t => c.toNat + 256 * leVal t
def fixVal (b : List UInt8) (at' w : Int) : Nat := leVal ((b.drop at'.toNat).take w.toNat)
def fixOk (b : List UInt8) (at' w : Int) : Bool := decide (1 ≤ w ∧ w ≤ 8 ∧ 0 ≤ at' ∧ at' ≤ b.length - w ∧ fixVal b at' w < 9223372036854775808)
def fixRead (b : List UInt8) (at' w : Int) : Int := if fixOk b at' w then (fixVal b at' w : Int) else 0

def fixSpec : Spec := fun cs => match cs with
  | [.int .i64 n, .int .i64 w] => some (decide (-9223372036854775808 ≤ n) && decide (n ≤ 9223372036854775807), [.str (fixOf n w)])
  | _ => none
def readFixSpec : Spec := fun cs => match cs with
  | [.str b, .int .i64 a, .int .i64 w] => some (decide (b.length ≤ 281474976710656) && (decide (-9223372036854775808 ≤ a) && decide (a ≤ 9223372036854775807)), [.int .i64 (fixRead b a w), .bool (fixOk b a w)])
  | _ => none
def E_sFixText : Env := mkE [(5, [0, 1, 5, 6])] [(105, (sg [pI, pI, pI] [rB]), inSpec)]
def E_iFixText : Env := mkE [(5, [0, 5, 28, 29])] [(125, (sg [pI, pI, pI] [rB]), inSpec)]
def E_sReadFix : Env := mkE [(7, [0, 1, 8, 9])] [(105, (sg [pI, pI, pI] [rB]), inSpec)]
def E_iReadFix : Env := mkE [(5, [0, 1, 8, 22, 23])] [(125, (sg [pI, pI, pI] [rB]), inSpec)]
def H_sFixText (n w : Int) (m : Nat) (r : List (List C)) (i : Int) : St := st1 [(0, int64 n), (1, int64 w), (5, .l (.ref 0 0 m)), (6, int64 i)] 1 r
def H_iFixText (n : Int) (m : Nat) (r : List (List C)) (e i : Int) : St := st1 [(0, int64 n), (5, .l (.ref 0 0 m)), (28, int64 e), (29, int64 i)] 1 r
def H_sReadFix (b : List UInt8) (a n i : Int) : St := st0 [(0, wstr b), (1, int64 a), (8, int64 n), (9, int64 i)]
def H_iReadFix (b : List UInt8) (a n e i : Int) : St := st0 [(0, wstr b), (1, int64 a), (8, int64 n), (22, int64 e), (23, int64 i)]

end
end Go.Proofs.YtggmbjbmklimdaaGreatDoor.V

namespace Go.Proofs.YtggmbjbmklimdaaGreatDoor.V
set_option maxRecDepth 100000
theorem iIsNumber_tree (H : List Pt → Nat → St → T (List C)) (n : Int) : vBodyL E_iIsNumber noInl (sg [pI] [rB]) Tryz.f136 H [C.int IntKind.i64 n] =
 (.must true
 (.must true
  (.must true
   (.must true
    (.ask (inB n (0 : Int) (1000000000 : Int))
     (.must true
      (.ret [C.bool true]))
     (.must true
      (.ret [C.bool false]))))))) := by kernel_rfl
theorem sFixText_tree (H : List Pt → Nat → St → T (List C)) (n : Int) (w : Int) : vBodyL E_sFixText noInl (sg [pI, pI] [rS]) Tryz.f232 H [C.int IntKind.i64 n, C.int IntKind.i64 w] =
 (.must true
 (.ask (decide (n < (0 : Int)))
  (.must true
   (.ret [C.str []]))
  (.must true
   (.must true
    (.must true
     (.ask (inB w (1 : Int) (8 : Int))
      (H [Pt.r, Pt.r, Pt.r, Pt.l, Pt.r, Pt.b] (9223372036854775808 : Nat) (H_sFixText (n) (w) ((0 : Nat)) ([]) ((0 : Int))))
      (.must true
       (.ret [C.str []])))))))) := by kernel_rfl
theorem sFixText_round0 (H : List Pt → Nat → St → T (List C)) (n : Int) (w : Int) (q : Nat) (r : List (List C)) (i : Int) (k : Nat) : vRound E_sFixText noInl (sg [pI, pI] [rS]) Tryz.f232 H [Pt.r, Pt.r, Pt.r, Pt.l, Pt.r, Pt.b] k (H_sFixText n w q r i) =
 (.ask (decide (i < w))
 (.must (decide (q = r.length) && roomy (r.length + (1 : Nat)) (1 : Nat) && (decide ((1 : Nat) = (1 : Nat)) && true))
  (.must true
   (H [Pt.r, Pt.r, Pt.r, Pt.l, Pt.r, Pt.b] k (H_sFixText (ishr IntKind.i64 n (8 : Int)) (w) (r.length + (1 : Nat)) (r.append [[C.int IntKind.u8 (IntKind.u8.wrap n)]]) (IntKind.i64.wrap (i + (1 : Int)))))))
 (.ask (decide ((0 : Int) < n))
  (.must true
   (.ret [C.str []]))
  (.must ((List.take q r).all byteRow)
   (.must true
    (.ret [C.str (strOfRows (List.take q r))]))))) := by kernel_rfl
theorem iFixText_tree (H : List Pt → Nat → St → T (List C)) (n : Int) (w : Int) : vBodyL E_iFixText noInl (sg [pI, pI] [rS]) Tryz.f247 H [C.int IntKind.i64 n, C.int IntKind.i64 w] =
 (.must true
 (.ask (decide (n < (0 : Int)))
  (.must true
   (.ret [C.str []]))
  (.must true
   (.must true
    (.must true
     (.ask (inB w (1 : Int) (8 : Int))
      (.ask (decide (w < (8 : Int)))
       (.must (decide ((0 : Int) ≤ IntKind.i64.wrap ((8 : Int) * w)))
        (.ask (ishr IntKind.i64 n (IntKind.i64.wrap ((8 : Int) * w)) != (0 : Int))
         (.must true
          (.ret [C.str []]))
         (.must (decide ((0 : Int) ≤ w) && decide (w ≤ w) && decide ((↑(1 : Nat) : Int) * w ≤ (281474976710656 : Int)))
          (H [Pt.r, Pt.r, Pt.r, Pt.l, Pt.r, Pt.b] (9223372036854775808 : Nat) (H_iFixText (n) (w.toNat) (List.replicate w.toNat [C.int IntKind.u8 (0 : Int)]) ((↑w.toNat : Int)) ((0 : Int)))))))
       (.must (decide ((0 : Int) ≤ w) && decide (w ≤ w) && decide ((↑(1 : Nat) : Int) * w ≤ (281474976710656 : Int)))
        (H [Pt.r, Pt.r, Pt.r, Pt.l, Pt.r, Pt.b] (9223372036854775808 : Nat) (H_iFixText (n) (w.toNat) (List.replicate w.toNat [C.int IntKind.u8 (0 : Int)]) ((↑w.toNat : Int)) ((0 : Int))))))
      (.must true
       (.ret [C.str []])))))))) := by kernel_rfl
theorem iFixText_round0 (H : List Pt → Nat → St → T (List C)) (n : Int) (q : Nat) (r : List (List C)) (e : Int) (i : Int) (k : Nat) : vRound E_iFixText noInl (sg [pI, pI] [rS]) Tryz.f247 H [Pt.r, Pt.r, Pt.r, Pt.l, Pt.r, Pt.b] k (H_iFixText n q r e i) =
 (.ask (decide (i < e))
 (.must (decide ((0 : Int) ≤ IntKind.i64.wrap ((8 : Int) * i)))
  (.must (decide ((0 : Int) ≤ i) && decide (i < (↑q : Int)))
   (.must (decide ((0 : Nat) + i.toNat < r.length))
    (H [Pt.r, Pt.r, Pt.r, Pt.l, Pt.r, Pt.b] k (H_iFixText (n) (q) (r.set ((0 : Nat) + i.toNat)
  (C.int IntKind.u8 (IntKind.u8.wrap (ishr IntKind.i64 n (IntKind.i64.wrap ((8 : Int) * i)))) ::
    List.drop ((0 : Nat) + (1 : Nat)) (r.getD ((0 : Nat) + i.toNat) []))) (e) (IntKind.i64.wrap (i + (1 : Int))))))))
 (.must ((List.take q r).all byteRow)
  (.must true
   (.ret [C.str (strOfRows (List.take q r))])))) := by kernel_rfl
theorem sReadFix_tree (H : List Pt → Nat → St → T (List C)) (b : List UInt8) (a : Int) (w : Int) : vBodyL E_sReadFix noInl (sg [pS, pI, pI] [rI, rB]) Tryz.f234 H [C.str b, C.int IntKind.i64 a, C.int IntKind.i64 w] =
 (.must true
 (.must true
  (.must true
   (.must true
    (.ask (inB w (1 : Int) (8 : Int))
     (.must true
      (.must true
       (.must true
        (.ask (inB a (0 : Int) (IntKind.i64.wrap ((↑b.length : Int) - w)))
         (.ask (decide (w = (8 : Int)))
          (.must (decide ((0 : Int) ≤ IntKind.i64.wrap (a + (7 : Int))) && decide (IntKind.i64.wrap (a + (7 : Int)) < (↑b.length : Int)))
           (.ask (decide ((127 : Int) < (↑(b.getD (IntKind.i64.wrap (a + (7 : Int))).toNat (0 : UInt8)).toNat : Int)))
            (.must true
             (.ret [C.int IntKind.i64 (0 : Int), C.bool false]))
            (H [Pt.r, Pt.r, Pt.r, Pt.r, Pt.l, Pt.r, Pt.b] (9223372036854775808 : Nat) (H_sReadFix (b) (a) ((0 : Int)) (IntKind.i64.wrap (w - (1 : Int)))))))
          (H [Pt.r, Pt.r, Pt.r, Pt.r, Pt.l, Pt.r, Pt.b] (9223372036854775808 : Nat) (H_sReadFix (b) (a) ((0 : Int)) (IntKind.i64.wrap (w - (1 : Int))))))
         (.must true
          (.ret [C.int IntKind.i64 (0 : Int), C.bool false]))))))
     (.must true
      (.ret [C.int IntKind.i64 (0 : Int), C.bool false]))))))) := by kernel_rfl
theorem sReadFix_round0 (H : List Pt → Nat → St → T (List C)) (b : List UInt8) (a : Int) (n : Int) (i : Int) (k : Nat) : vRound E_sReadFix noInl (sg [pS, pI, pI] [rI, rB]) Tryz.f234 H [Pt.r, Pt.r, Pt.r, Pt.r, Pt.l, Pt.r, Pt.b] k
  (H_sReadFix b a n i) =
 (.ask (decide ((0 : Int) ≤ i))
 (.must true
  (.must (decide ((0 : Int) ≤ IntKind.i64.wrap (a + i)) && decide (IntKind.i64.wrap (a + i) < (↑b.length : Int)))
   (H [Pt.r, Pt.r, Pt.r, Pt.r, Pt.l, Pt.r, Pt.b] k (H_sReadFix (b) (a) (ior IntKind.i64 (ishl IntKind.i64 n (8 : Int))
  (IntKind.i64.wrap (↑(b.getD (IntKind.i64.wrap (a + i)).toNat (0 : UInt8)).toNat : Int))) (IntKind.i64.wrap (i - (1 : Int)))))))
 (.must true
  (.ret [C.int IntKind.i64 n, C.bool true]))) := by kernel_rfl
theorem iReadFix_tree (H : List Pt → Nat → St → T (List C)) (b : List UInt8) (a : Int) (w : Int) : vBodyL E_iReadFix noInl (sg [pS, pI, pI] [rI, rB]) Tryz.f242 H [C.str b, C.int IntKind.i64 a, C.int IntKind.i64 w] =
 (.must true
 (.must true
  (.must true
   (.must true
    (.ask (inB w (1 : Int) (8 : Int))
     (.must true
      (.must true
       (.must true
        (.ask (inB a (0 : Int) (IntKind.i64.wrap ((↑b.length : Int) - w)))
         (H [Pt.r, Pt.r, Pt.r, Pt.l, Pt.r, Pt.b] (9223372036854775808 : Nat) (H_iReadFix (b) (a) ((0 : Int)) (w) ((0 : Int))))
         (.must true
          (.ret [C.int IntKind.i64 (0 : Int), C.bool false]))))))
     (.must true
      (.ret [C.int IntKind.i64 (0 : Int), C.bool false]))))))) := by kernel_rfl
theorem iReadFix_round0 (H : List Pt → Nat → St → T (List C)) (b : List UInt8) (a : Int) (n : Int) (e : Int) (i : Int) (k : Nat) : vRound E_iReadFix noInl (sg [pS, pI, pI] [rI, rB]) Tryz.f242 H [Pt.r, Pt.r, Pt.r, Pt.l, Pt.r, Pt.b] k
  (H_iReadFix b a n e i) =
 (.ask (decide (i < e))
 (.must (decide ((0 : Int) ≤ IntKind.i64.wrap (a + i)) && decide (IntKind.i64.wrap (a + i) < (↑b.length : Int)))
  (.must (decide ((0 : Int) ≤ IntKind.i64.wrap ((8 : Int) * i)))
   (H [Pt.r, Pt.r, Pt.r, Pt.l, Pt.r, Pt.b] k (H_iReadFix (b) (a) (ior IntKind.i64 n
  (ishl IntKind.i64 (IntKind.i64.wrap (↑(b.getD (IntKind.i64.wrap (a + i)).toNat (0 : UInt8)).toNat : Int))
    (IntKind.i64.wrap ((8 : Int) * i)))) (e) (IntKind.i64.wrap (i + (1 : Int)))))))
 (.ask (decide (n < (0 : Int)))
  (.must true
   (.ret [C.int IntKind.i64 (0 : Int), C.bool false]))
  (.must true
   (.ret [C.int IntKind.i64 n, C.bool true])))) := by kernel_rfl
end Go.Proofs.YtggmbjbmklimdaaGreatDoor.V

namespace Go.Proofs.YtggmbjbmklimdaaGreatDoor.V

theorem iIsNumber_E : EnvSound Tryz.prog E_iIsNumber := mkE_sound (by simp [iIn_sound])
theorem iIsNumber_sound : Sound Tryz.prog 136 (sg [pI] [rB]) isNumberSpec := vBody_sound iIsNumber_E noInl_ok Tryz.func136 (by kernel_rfl) fun cs outs hk h => by
  unfold isNumberSpec at h
  split at h
  · simp only [Option.some.injEq, Prod.mk.injEq, true_and] at h
    rw [← h, vBody_L, iIsNumber_tree]
    rename_i n
    by_cases hb : inB n 0 1000000000 = true <;> simp [eval_must', eval_ask', eval_ret', hb]
  · cases h

theorem ishr64 (x : Int) (k : Nat) (hk : k < 64) : ishr .i64 x (k : Int) = x / 2 ^ k := by
  show x.fdiv (2 ^ (min ((k : Int).toNat) 64)) = _
  have : min ((k : Int).toNat) 64 = k := by omega
  rw [this, Int.fdiv_eq_ediv_of_nonneg]
  exact Int.pow_nonneg (by omega)
theorem ishr64_nat (x k : Nat) (hk : k < 64) : ishr .i64 (x : Int) (k : Int) = ((x / 2 ^ k : Nat) : Int) := by
  rw [ishr64 _ _ hk]
  simp
theorem wrapU8_mod (x : Int) : IntKind.u8.wrap x = x % 256 := by
  simp only [IntKind.wrap, IntKind.bits, IntKind.signed]
  simp
theorem pow256 (i : Nat) : (2 : Nat) ^ (8 * i) = 256 ^ i := by rw [Nat.pow_mul]
theorem leBytes_length : ∀ (k n : Nat), (leBytes k n).length = k
  | 0, _ => rfl
  | k + 1, n => by simp [leBytes, leBytes_length k]
theorem leBytes_succ : ∀ (k n : Nat), leBytes (k + 1) n = leBytes k n ++ [UInt8.ofNat (n / 256 ^ k % 256)]
  | 0, n => by simp [leBytes]
  | k + 1, n => by
    rw [leBytes, leBytes_succ k (n / 256)]
    simp only [leBytes, List.cons_append]
    rw [Nat.div_div_eq_div_mul, Nat.pow_succ, Nat.mul_comm 256 (256 ^ k)]

theorem in_iff (n a b : Int) : inB n a b = true ↔ a ≤ n ∧ n ≤ b := by simp [inB]

theorem sFixText_loop (n0 w : Nat) (hw : w ≤ 8) (hn : n0 ≤ 9223372036854775807) : ∀ (n i : Nat), i ≤ w → w < i + n →
    (vLoop E_sFixText noInl (sg [pI, pI] [rS]) Tryz.f232 [.r, .r, .r, .l, .r, .b] n (H_sFixText (n0 / 256 ^ i : Nat) w i (rowsOfStr (leBytes i n0)) i)).eval = some [.str (if n0 < 256 ^ w then leBytes w n0 else [])] := by
  intro n
  induction n with
  | zero => intro i h1 h2; omega
  | succ n ih =>
    intro i h1 h2
    rw [vLoop_L _ _ _ _ _ _ _ (by kernel_rfl), sFixText_round0]
    by_cases hi : i < w
    · have e := ih (i + 1) (by omega) (by omega)
      have w1 : IntKind.i64.wrap ((i : Int) + 1) = ((i + 1 : Nat) : Int) := by rw [wrap64] <;> omega
      have hi' : (i : Int) < w := by omega
      have hr : roomy (i + 1) 1 = true := by simp only [roomy, decide_eq_true_eq]; omega
      have d : ishr .i64 ((n0 / 256 ^ i : Nat) : Int) 8 = ((n0 / 256 ^ (i + 1) : Nat) : Int) := by
        have := ishr64_nat (n0 / 256 ^ i) 8 (by omega)
        rw [show ((8 : Nat) : Int) = 8 from rfl] at this
        rw [this, Nat.div_div_eq_div_mul, show (2 : Nat) ^ 8 = 256 from rfl, ← Nat.pow_succ]
      have u : IntKind.u8.wrap ((n0 / 256 ^ i : Nat) : Int) = ((n0 / 256 ^ i % 256 : Nat) : Int) := by rw [wrapU8_mod]; omega
      have ro : [[C.int .u8 ((n0 / 256 ^ i % 256 : Nat) : Int)]] = rowsOfStr [UInt8.ofNat (n0 / 256 ^ i % 256)] := by
        have := rows_one ((n0 / 256 ^ i % 256 : Nat) : Int) (by omega) (by omega)
        rw [Int.toNat_natCast] at this
        exact this
      rw [leBytes_succ, ← rowsStr_append, ← ro] at e
      simp only [eval_must', eval_ask', eval_ret', if_true, decide_eq_true_eq, Bool.and_eq_true, w1, hi', rows_length, leBytes_length, hr, d, u, and_self, List.append_eq]
      exact e
    · have : i = w := by omega
      subst this
      have hlt : ¬ ((i : Int) < i) := by omega
      have z : (0 : Int) < ((n0 / 256 ^ i : Nat) : Int) ↔ ¬ n0 < 256 ^ i := by
        have hp : (256 : Nat) ^ i ≠ 0 := Nat.pos_iff_ne_zero.1 (Nat.pow_pos (by omega))
        have h0 : n0 / 256 ^ i = 0 ↔ n0 < 256 ^ i := by
          rw [Nat.div_eq_zero_iff]
          exact ⟨fun h => h.resolve_left hp, .inr⟩
        rw [← h0]
        generalize n0 / 256 ^ i = y
        omega
      have tk : (rowsOfStr (leBytes i n0)).take i = rowsOfStr (leBytes i n0) := List.take_of_length_le (by rw [rows_length, leBytes_length]; omega)
      simp only [eval_must', eval_ask', eval_ret', if_true, decide_eq_true_eq, hlt, if_false, z, tk, rows_bytes, str_rows]
      by_cases hc : n0 < 256 ^ i <;> simp [hc]
theorem fix_bad (n w : Int) (h : ¬ (0 ≤ n ∧ 1 ≤ w ∧ w ≤ 8)) : fixOf n w = [] := by
  unfold fixOf; rw [if_neg (fun h' => h ⟨h'.1, h'.2.1, h'.2.2.1⟩)]
theorem fix_good (n w : Nat) (h1 : 1 ≤ w) (h2 : w ≤ 8) : fixOf n w = if n < 256 ^ w then leBytes w n else [] := by
  unfold fixOf
  simp only [Int.toNat_natCast]
  by_cases h : n < 256 ^ w
  · rw [if_pos ⟨by omega, by omega, by omega, h⟩, if_pos h]
  · rw [if_neg (fun h' => h h'.2.2.2), if_neg h]
theorem sFixText_E : EnvSound Tryz.prog E_sFixText := mkE_sound (by simp [sIn_sound])
theorem sFixText_sound : Sound Tryz.prog 232 (sg [pI, pI] [rS]) fixSpec := vBody_sound sFixText_E noInl_ok Tryz.func232 (by kernel_rfl) fun cs outs hk h => by
  unfold fixSpec at h
  split at h
  · simp only [Option.some.injEq, Prod.mk.injEq, Bool.and_eq_true, decide_eq_true_eq] at h
    obtain ⟨⟨h1, h2⟩, rfl⟩ := h
    rename_i n w
    rw [vBody_L, sFixText_tree]
    by_cases hn : n < 0
    · simp [eval_must', eval_ask', eval_ret', hn, fix_bad n w (by omega)]
    · by_cases hw : inB w 1 8 = true
      · have hw' := (in_iff _ _ _).1 hw
        obtain ⟨n, rfl⟩ := Int.eq_ofNat_of_zero_le (show 0 ≤ n by omega)
        obtain ⟨w, rfl⟩ := Int.eq_ofNat_of_zero_le (show 0 ≤ w by omega)
        have := sFixText_loop n w (by omega) (by omega) 9223372036854775808 0 (by omega) (by omega)
        rw [← fix_good n w (by omega) (by omega)] at this
        simp only [eval_must', eval_ask', if_true, hn, decide_false, Bool.false_eq_true, if_false, hw, Bool.not_true]
        simpa [leBytes, rowsOfStr] using this
      · have : ¬ (1 ≤ w ∧ w ≤ 8) := fun h => hw ((in_iff _ _ _).2 h)
        simp [eval_must', eval_ask', eval_ret', hn, hw, fix_bad n w (by omega)]
  · cases h

theorem iFixText_loop (n0 w : Nat) (hw : w ≤ 8) (hn : n0 ≤ 9223372036854775807) : ∀ (n i : Nat), i ≤ w → w < i + n →
    (vLoop E_iFixText noInl (sg [pI, pI] [rS]) Tryz.f247 [.r, .r, .r, .l, .r, .b] n (H_iFixText n0 w (rowsOfStr (leBytes i n0 ++ List.replicate (w - i) 0)) w i)).eval = some [.str (leBytes w n0)] := by
  intro n
  induction n with
  | zero => intro i h1 h2; omega
  | succ n ih =>
    intro i h1 h2
    rw [vLoop_L _ _ _ _ _ _ _ (by kernel_rfl), iFixText_round0]
    by_cases hi : i < w
    · have e := ih (i + 1) (by omega) (by omega)
      have w1 : IntKind.i64.wrap ((i : Int) + 1) = ((i + 1 : Nat) : Int) := by rw [wrap64] <;> omega
      have w2 : IntKind.i64.wrap (8 * (i : Int)) = ((8 * i : Nat) : Int) := by rw [wrap64] <;> omega
      have hi' : (i : Int) < w := by omega
      have hz : (0 : Int) ≤ i := by omega
      have hz8 : (0 : Int) ≤ ((8 * i : Nat) : Int) := by omega
      have d : ishr .i64 (n0 : Int) ((8 * i : Nat) : Int) = ((n0 / 256 ^ i : Nat) : Int) := by rw [ishr64_nat _ _ (by omega), pow256]
      have u : IntKind.u8.wrap ((n0 / 256 ^ i : Nat) : Int) = ((n0 / 256 ^ i % 256 : Nat) : Int) := by rw [wrapU8_mod]; omega
      have hlen : (leBytes i n0 ++ List.replicate (w - i) (0 : UInt8)).length = w := by simp [leBytes_length]; omega
      have g := rows_get (leBytes i n0 ++ List.replicate (w - i) 0) i (by omega)
      have sset := rows_set (leBytes i n0 ++ List.replicate (w - i) 0) i ((n0 / 256 ^ i % 256 : Nat) : Int) (by omega) (by omega)
      have sl : (leBytes i n0 ++ List.replicate (w - i) (0 : UInt8)).set i (UInt8.ofNat (((n0 / 256 ^ i % 256 : Nat) : Int)).toNat) = leBytes (i + 1) n0 ++ List.replicate (w - (i + 1)) 0 := by
        obtain ⟨m, hm⟩ : ∃ m, w - i = m + 1 := ⟨w - i - 1, by omega⟩
        have hm2 : w - (i + 1) = m := by omega
        rw [List.set_append_right _ _ (by rw [leBytes_length]; omega), leBytes_length, Nat.sub_self, hm, hm2, List.replicate_succ, List.set_cons_zero, leBytes_succ, Int.toNat_natCast, List.append_assoc]
        rfl
      rw [sl] at sset
      simp only [eval_must', eval_ask', eval_ret', if_true, decide_eq_true_eq, Bool.and_eq_true, w1, w2, hi', hz, hz8, d, u, rows_length, hlen, Int.toNat_natCast, Nat.zero_add, hi, and_self, g, List.drop_succ_cons, List.drop_zero, sset]
      exact e
    · have : i = w := by omega
      subst this
      have hlt : ¬ ((i : Int) < i) := by omega
      have tk : (rowsOfStr (leBytes i n0)).take i = rowsOfStr (leBytes i n0) := List.take_of_length_le (by rw [rows_length, leBytes_length]; omega)
      simp only [eval_must', eval_ask', eval_ret', if_true, decide_eq_true_eq, hlt, if_false, Nat.sub_self, List.replicate_zero, List.append_nil, tk, rows_bytes, str_rows]
theorem iFixText_E : EnvSound Tryz.prog E_iFixText := mkE_sound (by simp [iIn_sound])
theorem iFixText_sound : Sound Tryz.prog 247 (sg [pI, pI] [rS]) fixSpec := vBody_sound iFixText_E noInl_ok Tryz.func247 (by kernel_rfl) fun cs outs hk h => by
  unfold fixSpec at h
  split at h
  · simp only [Option.some.injEq, Prod.mk.injEq, Bool.and_eq_true, decide_eq_true_eq] at h
    obtain ⟨⟨h1, h2⟩, rfl⟩ := h
    rename_i n w
    rw [vBody_L, iFixText_tree]
    by_cases hn : n < 0
    · simp [eval_must', eval_ask', eval_ret', hn, fix_bad n w (by omega)]
    · by_cases hw : inB w 1 8 = true
      · have hw' := (in_iff _ _ _).1 hw
        obtain ⟨n, rfl⟩ := Int.eq_ofNat_of_zero_le (show 0 ≤ n by omega)
        obtain ⟨w, rfl⟩ := Int.eq_ofNat_of_zero_le (show 0 ≤ w by omega)
        have lp := iFixText_loop n w (by omega) (by omega) 9223372036854775808 0 (by omega) (by omega)
        have rp : rowsOfStr (leBytes 0 n ++ List.replicate (w - 0) 0) = List.replicate w [C.int .u8 0] := by simp [leBytes, rowsOfStr]
        rw [rp] at lp
        have w2 : IntKind.i64.wrap (8 * (w : Int)) = ((8 * w : Nat) : Int) := by rw [wrap64] <;> omega
        have hz8 : (0 : Int) ≤ ((8 * w : Nat) : Int) := by omega
        have c1 : (0 : Int) ≤ w := by omega
        have c2 : ((1 : Nat) : Int) * (w : Int) ≤ 281474976710656 := by omega
        rw [fix_good n w (by omega) (by omega)]
        simp only [eval_must', eval_ask', eval_ret', if_true, hn, decide_false, Bool.false_eq_true, if_false, hw, Bool.not_true, w2, hz8, decide_true, decide_eq_true_eq, Bool.and_eq_true, c1, c2, Int.le_refl, and_self, Int.toNat_natCast]
        by_cases h8 : (w : Int) < 8
        · have d : ishr .i64 (n : Int) ((8 * w : Nat) : Int) = ((n / 256 ^ w : Nat) : Int) := by rw [ishr64_nat _ _ (by omega), pow256]
          have z : n / 256 ^ w = 0 ↔ n < 256 ^ w := by
            have hp : (256 : Nat) ^ w ≠ 0 := Nat.pos_iff_ne_zero.1 (Nat.pow_pos (by omega))
            rw [Nat.div_eq_zero_iff]
            exact ⟨fun h => h.resolve_left hp, .inr⟩
          simp only [h8, if_true, d, bne_iff_ne, ne_eq, Int.natCast_eq_zero, z]
          by_cases hc : n < 256 ^ w
          · simp only [hc, not_true_eq_false, if_false, if_true]; exact lp
          · simp only [hc, not_false_eq_true, if_true, if_false]
        · have : w = 8 := by omega
          subst this
          have hc : n < 256 ^ 8 := by omega
          simp only [h8, if_false, hc, if_true]
          exact lp
      · have : ¬ (1 ≤ w ∧ w ≤ 8) := fun h => hw ((in_iff _ _ _).2 h)
        simp [eval_must', eval_ask', eval_ret', hn, hw, fix_bad n w (by omega)]
  · cases h
theorem leVal_lt : ∀ l : List UInt8, leVal l < 256 ^ l.length
  | [] => by simp [leVal]
  | c :: t => by
    have := leVal_lt t
    have hc := c.toNat_lt
    simp only [leVal, List.length_cons, Nat.pow_succ]
    omega
theorem leVal_append : ∀ (l : List UInt8) (c : UInt8), leVal (l ++ [c]) = leVal l + c.toNat * 256 ^ l.length
  | [], c => by simp [leVal]
  | x :: t, c => by
    simp only [List.cons_append, leVal, leVal_append t c, List.length_cons, Nat.pow_succ]
    rw [Nat.mul_add, ← Nat.add_assoc, Nat.mul_left_comm, Nat.mul_comm 256 (256 ^ t.length)]
theorem leVal_drop_le : ∀ (j : Nat) (l : List UInt8), leVal (l.drop j) ≤ leVal l
  | 0, l => by simp
  | j + 1, [] => by simp
  | j + 1, c :: t => by
    have := leVal_drop_le j t
    simp only [List.drop_succ_cons, leVal]
    omega
theorem ior_shift (n c k : Nat) (hk : n < 2 ^ k) (h : n + c * 2 ^ k < 18446744073709551616) (x y : Int) (hx : (x % 18446744073709551616).toNat = n) (hy : (y % 18446744073709551616).toNat = c * 2 ^ k) :
    ior .i64 x y = IntKind.i64.wrap ((n + c * 2 ^ k : Nat) : Int) := by
  show IntKind.i64.wrap (((BitVec.ofInt 64 x ||| BitVec.ofInt 64 y).toNat : Nat) : Int) = _
  rw [BitVec.toNat_or]
  have h1 : (BitVec.ofInt 64 x).toNat = n := by rw [← hx]; simp [BitVec.toNat_ofInt]
  have h2 : (BitVec.ofInt 64 y).toNat = c * 2 ^ k := by rw [← hy]; simp [BitVec.toNat_ofInt]
  rw [h1, h2, ← Nat.shiftLeft_eq, Nat.or_comm, ← Nat.shiftLeft_add_eq_or_of_lt hk, Nat.add_comm]
theorem wrap64_mod (x : Int) : IntKind.i64.wrap x % 18446744073709551616 = x % 18446744073709551616 := by
  simp only [IntKind.wrap, IntKind.bits, IntKind.signed]
  first
    | (split <;> omega)
    | (simp; split <;> omega)
theorem ishl64_mod (x : Int) (k : Nat) (hk : k < 64) : ishl .i64 x (k : Int) % 18446744073709551616 = x * 2 ^ k % 18446744073709551616 := by
  show IntKind.i64.wrap (x * 2 ^ (min ((k : Int).toNat) 64)) % 18446744073709551616 = _
  have : min ((k : Int).toNat) 64 = k := by omega
  rw [this, wrap64_mod]

theorem sReadFix_loop (b : List UInt8) (a w : Nat) (hb : a + w ≤ b.length) (hbl : b.length ≤ 281474976710656) (hw : w ≤ 8) (hv : fixVal b a w < 9223372036854775808) : ∀ (n j : Nat), j ≤ w → j < n →
    (vLoop E_sReadFix noInl (sg [pS, pI, pI] [rI, rB]) Tryz.f234 [.r, .r, .r, .r, .l, .r, .b] n (H_sReadFix b a (leVal (((b.drop a).take w).drop j) : Nat) ((j : Int) - 1))).eval = some [.int .i64 (fixVal b a w : Nat), .bool true] := by
  intro n
  induction n with
  | zero => intro j h1 h2; omega
  | succ n ih =>
    intro j h1 h2
    rw [vLoop_L _ _ _ _ _ _ _ (by kernel_rfl), sReadFix_round0]
    cases j with
    | zero =>
      have : ¬ ((0 : Int) ≤ ((0 : Nat) : Int) - 1) := by omega
      simp only [eval_must', eval_ask', eval_ret', decide_eq_true_eq, this, if_false, if_true]
      simp [fixVal]
    | succ i =>
      have e := ih i (by omega) (by omega)
      have hl : ((b.drop a).take w).length = w := by simp; omega
      have hg : ((b.drop a).take w).getD i 0 = b.getD (a + i) 0 := by
        simp [List.getD_eq_getElem?_getD, List.getElem?_take, List.getElem?_drop, show i < w by omega]
      rw [drop_step _ i (by omega), hg] at e
      have hle : leVal (((b.drop a).take w).drop i) ≤ fixVal b a w := by
        have := leVal_drop_le i ((b.drop a).take w)
        simpa [fixVal] using this
      rw [drop_step _ i (by omega), hg] at hle
      simp only [leVal] at e hle
      generalize leVal (((b.drop a).take w).drop (i + 1)) = y at e hle
      have hc := byte_lt b (a + i)
      have w1 : IntKind.i64.wrap ((((i + 1 : Nat) : Int) - 1) - 1) = (i : Int) - 1 := by rw [wrap64] <;> omega
      have w2 : IntKind.i64.wrap ((a : Int) + (((i + 1 : Nat) : Int) - 1)) = ((a + i : Nat) : Int) := by rw [wrap64] <;> omega
      have w3 : IntKind.i64.wrap ((b.getD (a + i) 0).toNat : Int) = ((b.getD (a + i) 0).toNat : Int) := by rw [wrap64] <;> omega
      have z1 : (0 : Int) ≤ ((i + 1 : Nat) : Int) - 1 := by omega
      have z2 : (0 : Int) ≤ ((a + i : Nat) : Int) := by omega
      have z3 : a + i < b.length := by omega
      have hm := ishl64_mod (y : Int) 8 (by omega)
      rw [show ((8 : Nat) : Int) = 8 from rfl] at hm
      have ho : ior .i64 (ishl .i64 (y : Int) 8) ((b.getD (a + i) 0).toNat : Int) = (((b.getD (a + i) 0).toNat + 256 * y : Nat) : Int) := by
        have := ior_shift (b.getD (a + i) 0).toNat y 8 (by omega) (by omega) ((b.getD (a + i) 0).toNat : Int) (ishl .i64 (y : Int) 8) (by omega) (by rw [hm]; omega)
        rw [wrap64 (by omega) (by omega)] at this
        have hcomm : ior .i64 (ishl .i64 (y : Int) 8) ((b.getD (a + i) 0).toNat : Int) = ior .i64 ((b.getD (a + i) 0).toNat : Int) (ishl .i64 (y : Int) 8) := by
          unfold ior; rw [BitVec.or_comm]
        rw [hcomm, this]
        omega
      simp only [eval_must', eval_ask', eval_ret', decide_eq_true_eq, Bool.and_eq_true, if_true, w1, w2, z1, z2, Int.toNat_natCast, Int.ofNat_lt, z3, w3, ho, and_self]
      exact e
theorem fixVal_top (b : List UInt8) (a : Nat) (hb : a + 8 ≤ b.length) : fixVal b a (8 : Int) = leVal ((b.drop a).take 7) + (b.getD (a + 7) 0).toNat * 72057594037927936 ∧ leVal ((b.drop a).take 7) < 72057594037927936 := by
  have hl : ((b.drop a).take 7).length = 7 := by simp; omega
  have e : (b.drop a).take 8 = (b.drop a).take 7 ++ [b.getD (a + 7) 0] := by
    rw [List.take_add_one]
    simp [List.getElem?_drop, List.getD_eq_getElem?_getD, show a + 7 < b.length by omega]
  have h1 := leVal_append ((b.drop a).take 7) (b.getD (a + 7) 0)
  have h2 := leVal_lt ((b.drop a).take 7)
  rw [hl] at h1 h2
  refine ⟨?_, h2⟩
  show leVal ((b.drop (a : Int).toNat).take (8 : Int).toNat) = _
  rw [Int.toNat_natCast, show (8 : Int).toNat = 8 from rfl, e, h1]
theorem fixVal_small (b : List UInt8) (a w : Nat) (hw : w ≤ 7) : fixVal b a w < 72057594037927936 := by
  have h := leVal_lt ((b.drop a).take w)
  have hl : ((b.drop a).take w).length ≤ w := by simp; omega
  have : 256 ^ ((b.drop a).take w).length ≤ 256 ^ 7 := Nat.pow_le_pow_right (by omega) (by omega)
  show leVal ((b.drop (a : Int).toNat).take (w : Int).toNat) < _
  simp only [Int.toNat_natCast]
  omega
theorem fixOk_iff (b : List UInt8) (a w : Int) : fixOk b a w = true ↔ (1 ≤ w ∧ w ≤ 8 ∧ 0 ≤ a ∧ a ≤ b.length - w ∧ fixVal b a w < 9223372036854775808) := by simp [fixOk]
theorem sReadFix_E : EnvSound Tryz.prog E_sReadFix := mkE_sound (by simp [sIn_sound])
theorem sReadFix_sound : Sound Tryz.prog 234 (sg [pS, pI, pI] [rI, rB]) readFixSpec := vBody_sound sReadFix_E noInl_ok Tryz.func234 (by kernel_rfl) fun cs outs hk h => by
  unfold readFixSpec at h
  split at h
  · simp only [Option.some.injEq, Prod.mk.injEq, Bool.and_eq_true, decide_eq_true_eq] at h
    obtain ⟨⟨h1, h2, h3⟩, rfl⟩ := h
    rename_i b a w
    rw [vBody_L, sReadFix_tree]
    have bad : ¬ (1 ≤ w ∧ w ≤ 8 ∧ 0 ≤ a ∧ a ≤ b.length - w ∧ fixVal b a w < 9223372036854775808) → fixRead b a w = 0 ∧ fixOk b a w = false := fun h => by
      have : fixOk b a w = false := by
        cases hh : fixOk b a w with
        | true => exact absurd ((fixOk_iff b a w).1 hh) h
        | false => rfl
      exact ⟨by unfold fixRead; rw [this]; rfl, this⟩
    by_cases hw : inB w 1 8 = true
    · have hw' := (in_iff _ _ _).1 hw
      have wr : IntKind.i64.wrap ((b.length : Int) - w) = b.length - w := by rw [wrap64] <;> omega
      by_cases ha : inB a 0 ((b.length : Int) - w) = true
      · have ha' := (in_iff _ _ _).1 ha
        obtain ⟨a, rfl⟩ := Int.eq_ofNat_of_zero_le ha'.1
        obtain ⟨w, rfl⟩ := Int.eq_ofNat_of_zero_le (show 0 ≤ w by omega)
        have lp := fun hv => sReadFix_loop b a w (by omega) h1 (by omega) hv 9223372036854775808 w (by omega) (by omega)
        have w1 : IntKind.i64.wrap ((w : Int) - 1) = (w : Int) - 1 := by rw [wrap64] <;> omega
        have dr : ((b.drop a).take w).drop w = [] := by
          apply List.drop_eq_nil_of_le; simp; omega
        rw [dr] at lp
        have good : fixVal b a w < 9223372036854775808 → fixRead b a w = (fixVal b a w : Nat) ∧ fixOk b a w = true := fun h => by
          have : fixOk b a w = true := (fixOk_iff _ _ _).2 ⟨hw'.1, hw'.2, ha'.1, ha'.2, h⟩
          exact ⟨by unfold fixRead; rw [this]; rfl, this⟩
        by_cases h8 : (w : Int) = 8
        · have h8t : ((w : Int) = 8) = True := eq_true h8
          obtain ⟨t1, t2⟩ := fixVal_top b a (by omega)
          rw [← h8] at t1
          have w7 : IntKind.i64.wrap ((a : Int) + 7) = ((a + 7 : Nat) : Int) := by rw [wrap64] <;> omega
          have z1 : (0 : Int) ≤ ((a + 7 : Nat) : Int) := by omega
          have z2 : a + 7 < b.length := by omega
          by_cases hc : (127 : Int) < ((b.getD (a + 7) 0).toNat : Int)
          · obtain ⟨b1, b2⟩ := bad (fun h => by
              have := h.2.2.2.2
              rw [t1] at this
              omega)
            simp only [eval_must', eval_ask', eval_ret', if_true, hw, wr, ha, Bool.not_true, Bool.false_eq_true, if_false, h8t, w7, z1, z2, Bool.and_eq_true, decide_eq_true_eq, Int.toNat_natCast, Int.ofNat_lt, and_self, hc, b1, b2]
          · have hv : fixVal b a w < 9223372036854775808 := by rw [t1]; omega
            obtain ⟨b1, b2⟩ := good hv
            simp only [eval_must', eval_ask', eval_ret', if_true, hw, wr, ha, Bool.not_true, Bool.false_eq_true, if_false, h8t, w7, z1, z2, Bool.and_eq_true, decide_eq_true_eq, Int.toNat_natCast, Int.ofNat_lt, and_self, hc, w1, b1, b2]
            exact lp hv
        · have hv : fixVal b a w < 9223372036854775808 := by have := fixVal_small b a w (by omega); omega
          obtain ⟨b1, b2⟩ := good hv
          simp only [eval_must', eval_ask', eval_ret', if_true, hw, wr, ha, Bool.not_true, Bool.false_eq_true, if_false, h8, decide_false, w1, b1, b2]
          exact lp hv
      · obtain ⟨b1, b2⟩ := bad (fun h => ha ((in_iff _ _ _).2 ⟨h.2.2.1, h.2.2.2.1⟩))
        simp [eval_must', eval_ask', eval_ret', hw, wr, ha, b1, b2]
    · obtain ⟨b1, b2⟩ := bad (fun h => hw ((in_iff _ _ _).2 ⟨h.1, h.2.1⟩))
      simp [eval_must', eval_ask', eval_ret', hw, b1, b2]
  · cases h

theorem iReadFix_loop (b : List UInt8) (a w : Nat) (hb : a + w ≤ b.length) (hbl : b.length ≤ 281474976710656) (hw1 : 1 ≤ w) (hw : w ≤ 8) : ∀ (n i : Nat), i ≤ w → w < i + n →
    (vLoop E_iReadFix noInl (sg [pS, pI, pI] [rI, rB]) Tryz.f242 [.r, .r, .r, .l, .r, .b] n (H_iReadFix b a (IntKind.i64.wrap (leVal ((b.drop a).take i) : Nat)) w i)).eval = some [.int .i64 (fixRead b a w), .bool (fixOk b a w)] := by
  intro n
  induction n with
  | zero => intro i h1 h2; omega
  | succ n ih =>
    intro i h1 h2
    rw [vLoop_L _ _ _ _ _ _ _ (by kernel_rfl), iReadFix_round0]
    by_cases hi : i < w
    · have e := ih (i + 1) (by omega) (by omega)
      have hl : ((b.drop a).take i).length = i := by simp; omega
      have ee : (b.drop a).take (i + 1) = (b.drop a).take i ++ [b.getD (a + i) 0] := by
        rw [List.take_add_one]
        simp [List.getElem?_drop, List.getD_eq_getElem?_getD, show a + i < b.length by omega]
      rw [ee, leVal_append, hl] at e
      have hlt := leVal_lt ((b.drop a).take i)
      rw [hl] at hlt
      have h7 : 256 ^ i ≤ 256 ^ 7 := Nat.pow_le_pow_right (by omega) (by omega)
      generalize leVal ((b.drop a).take i) = y at e hlt
      have hc := byte_lt b (a + i)
      have w1 : IntKind.i64.wrap ((i : Int) + 1) = ((i + 1 : Nat) : Int) := by rw [wrap64] <;> omega
      have w2 : IntKind.i64.wrap ((a : Int) + i) = ((a + i : Nat) : Int) := by rw [wrap64] <;> omega
      have w3 : IntKind.i64.wrap ((b.getD (a + i) 0).toNat : Int) = ((b.getD (a + i) 0).toNat : Int) := by rw [wrap64] <;> omega
      have w4 : IntKind.i64.wrap (8 * (i : Int)) = ((8 * i : Nat) : Int) := by rw [wrap64] <;> omega
      have w5 : IntKind.i64.wrap (y : Int) = y := by rw [wrap64] <;> omega
      have z1 : (i : Int) < w := by omega
      have z2 : (0 : Int) ≤ ((a + i : Nat) : Int) := by omega
      have z3 : a + i < b.length := by omega
      have z4 : (0 : Int) ≤ ((8 * i : Nat) : Int) := by omega
      have hm := ishl64_mod ((b.getD (a + i) 0).toNat : Int) (8 * i) (by omega)
      have hpow : (b.getD (a + i) 0).toNat * 256 ^ i ≤ 255 * 256 ^ i := Nat.mul_le_mul_right _ (by omega)
      have hp2 : ((b.getD (a + i) 0).toNat : Int) * 2 ^ (8 * i) = (((b.getD (a + i) 0).toNat * 256 ^ i : Nat) : Int) := by
        rw [← pow256]; simp
      rw [hp2] at hm
      have ho := ior_shift y (b.getD (a + i) 0).toNat (8 * i) (by rw [pow256]; exact hlt) (by rw [pow256]; omega) (y : Int) (ishl .i64 ((b.getD (a + i) 0).toNat : Int) ((8 * i : Nat) : Int)) (by omega) (by rw [hm, pow256]; omega)
      rw [pow256] at ho
      simp only [eval_must', eval_ask', eval_ret', decide_eq_true_eq, Bool.and_eq_true, if_true, w1, w2, w3, w4, w5, z1, z2, Int.toNat_natCast, Int.ofNat_lt, z3, z4, ho, and_self, hi]
      exact e
    · have hiw : i = w := by omega
      subst hiw
      have hlt : ¬ ((i : Int) < i) := by omega
      have hfv : fixVal b a i = leVal ((b.drop a).take i) := by simp [fixVal]
      have hl : ((b.drop a).take i).length = i := by simp; omega
      have hb8 := leVal_lt ((b.drop a).take i)
      rw [hl] at hb8
      have h8 : 256 ^ i ≤ 256 ^ 8 := Nat.pow_le_pow_right (by omega) (by omega)
      rw [← hfv] at hb8 ⊢
      simp only [eval_must', eval_ask', eval_ret', decide_eq_true_eq, if_true, hlt, if_false]
      by_cases hv : fixVal b a i < 9223372036854775808
      · have hok : fixOk b a i = true := (fixOk_iff _ _ _).2 ⟨by omega, by omega, by omega, by omega, hv⟩
        have w5 : IntKind.i64.wrap ((fixVal b a i : Nat) : Int) = (fixVal b a i : Nat) := by rw [wrap64] <;> omega
        have hn : ¬ (((fixVal b a i : Nat) : Int) < 0) := by omega
        simp only [w5, hn, if_false, fixRead, hok, if_true]
      · have hok : fixOk b a i = false := by
          cases hh : fixOk b a i with
          | true => exact absurd ((fixOk_iff _ _ _).1 hh).2.2.2.2 hv
          | false => rfl
        have hr := wrap64_range ((fixVal b a i : Nat) : Int)
        have hm := wrap64_mod ((fixVal b a i : Nat) : Int)
        have hn : IntKind.i64.wrap ((fixVal b a i : Nat) : Int) < 0 := by omega
        simp only [hn, if_true, fixRead, hok, Bool.false_eq_true, if_false]
theorem iReadFix_E : EnvSound Tryz.prog E_iReadFix := mkE_sound (by simp [iIn_sound])
theorem iReadFix_sound : Sound Tryz.prog 242 (sg [pS, pI, pI] [rI, rB]) readFixSpec := vBody_sound iReadFix_E noInl_ok Tryz.func242 (by kernel_rfl) fun cs outs hk h => by
  unfold readFixSpec at h
  split at h
  · simp only [Option.some.injEq, Prod.mk.injEq, Bool.and_eq_true, decide_eq_true_eq] at h
    obtain ⟨⟨h1, h2, h3⟩, rfl⟩ := h
    rename_i b a w
    rw [vBody_L, iReadFix_tree]
    have bad : ¬ (1 ≤ w ∧ w ≤ 8 ∧ 0 ≤ a ∧ a ≤ b.length - w ∧ fixVal b a w < 9223372036854775808) → fixRead b a w = 0 ∧ fixOk b a w = false := fun h => by
      have : fixOk b a w = false := by
        cases hh : fixOk b a w with
        | true => exact absurd ((fixOk_iff b a w).1 hh) h
        | false => rfl
      exact ⟨by unfold fixRead; rw [this]; rfl, this⟩
    by_cases hw : inB w 1 8 = true
    · have hw' := (in_iff _ _ _).1 hw
      have wr : IntKind.i64.wrap ((b.length : Int) - w) = b.length - w := by rw [wrap64] <;> omega
      by_cases ha : inB a 0 ((b.length : Int) - w) = true
      · have ha' := (in_iff _ _ _).1 ha
        obtain ⟨a, rfl⟩ := Int.eq_ofNat_of_zero_le ha'.1
        obtain ⟨w, rfl⟩ := Int.eq_ofNat_of_zero_le (show 0 ≤ w by omega)
        have lp := iReadFix_loop b a w (by omega) h1 (by omega) (by omega) 9223372036854775808 0 (by omega) (by omega)
        simp only [eval_must', eval_ask', eval_ret', if_true, hw, wr, ha, Bool.not_true, Bool.false_eq_true, if_false]
        exact lp
      · obtain ⟨b1, b2⟩ := bad (fun h => ha ((in_iff _ _ _).2 ⟨h.2.2.1, h.2.2.2.1⟩))
        simp [eval_must', eval_ask', eval_ret', hw, wr, ha, b1, b2]
    · obtain ⟨b1, b2⟩ := bad (fun h => hw ((in_iff _ _ _).2 ⟨h.1, h.2.1⟩))
      simp [eval_must', eval_ask', eval_ret', hw, b1, b2]
  · cases h

end Go.Proofs.YtggmbjbmklimdaaGreatDoor.V

namespace Go.Proofs.YtggmbjbmklimdaaGreatDoor.V
noncomputable section

def headOk (v s b l : Int) : Bool := inB v 1 2 && inB s 1 20 && inB b 0 1000000000 && inB l 0 4294967295
def pHead : PTy := .val true [.int .i64, .int .i64, .int .i64, .int .i64]
def rHead : RTy := ⟨true, [(.int .i64, false), (.int .i64, false), (.int .i64, false), (.int .i64, false)]⟩
def headOkSpec : Spec := fun cs => match cs with
  | [.int .i64 v, .int .i64 s, .int .i64 b, .int .i64 l] => some (true, [.bool (headOk v s b l)])
  | _ => none
/-- a head's bytes ahead of the sum -/
def headPre (v s b l : Int) : List UInt8 := [83, 69, 71, 77] ++ fixOf v 1 ++ fixOf s 1 ++ [0, 0] ++ fixOf b 8 ++ fixOf l 4
def headText (v s b l : Int) : List UInt8 := if headOk v s b l then headPre v s b l ++ fixOf (crcMore 0 (headPre v s b l) : Nat) 4 else []
def headTextSpec : Spec := fun cs => match cs with
  | [.int .i64 v, .int .i64 s, .int .i64 b, .int .i64 l] => some (true, [.str (headText v s b l)])
  | _ => none
def E_sHeadOk : Env := mkE [] [(105, (sg [pI, pI, pI] [rB]), inSpec)]
def E_iHeadOk : Env := mkE [] [(125, (sg [pI, pI, pI] [rB]), inSpec), (114, (sg [pI] [rB]), isVersionSpec), (136, (sg [pI] [rB]), isNumberSpec)]
def E_sHeadText : Env := mkE [] [(237, (sg [pS] [rI]), sumOfSpec), (232, (sg [pI, pI] [rS]), fixSpec), (198, (sg [pHead] [rB]), headOkSpec)]
def E_iHeadText : Env := mkE [] [(263, (sg [pS] [rI]), sumOfSpec), (247, (sg [pI, pI] [rS]), fixSpec), (218, (sg [pHead] [rB]), headOkSpec)]

/-- what a text's first bytes say of a head -/
def rhV (b : List UInt8) : Int := (b.getD 4 0).toNat
def rhS (b : List UInt8) : Int := (b.getD 5 0).toNat
def rhB (b : List UInt8) : Int := fixRead b 8 8
def rhL (b : List UInt8) : Int := fixRead b 16 4
def readHeadOk (b : List UInt8) : Bool := decide (24 ≤ b.length) && fixOk b 8 8 && decide (headText (rhV b) (rhS b) (rhB b) (rhL b) = b.take 24)
def ifI (c : Bool) (x : Int) : Int := if c then x else 0
def readHeadSpec : Spec := fun cs => match cs with
  | [.str b] => some (decide (b.length ≤ 281474976710656), [.int .i64 (ifI (readHeadOk b) (rhV b)), .int .i64 (ifI (readHeadOk b) (rhS b)), .int .i64 (ifI (readHeadOk b) (rhB b)), .int .i64 (ifI (readHeadOk b) (rhL b)), .bool (readHeadOk b)])
  | _ => none
def E_sReadHead : Env := mkE [] [(234, (sg [pS, pI, pI] [rI, rB]), readFixSpec), (199, (sg [pHead] [rS]), headTextSpec)]
def E_iReadHead : Env := mkE [] [(242, (sg [pS, pI, pI] [rI, rB]), readFixSpec), (221, (sg [pHead] [rS]), headTextSpec)]

end
end Go.Proofs.YtggmbjbmklimdaaGreatDoor.V

namespace Go.Proofs.YtggmbjbmklimdaaGreatDoor.V
set_option maxRecDepth 100000
theorem sHeadOk_tree (H : List Pt → Nat → St → T (List C)) (v : Int) (s : Int) (b : Int) (l : Int) : vBodyL E_sHeadOk noInl (sg [pHead] [rB]) Tryz.f198 H
  [C.int IntKind.i64 v, C.int IntKind.i64 s, C.int IntKind.i64 b, C.int IntKind.i64 l] =
 (.must true
 (.must true
  (.must true
   (.must true
    (.ask (inB v (1 : Int) (2 : Int))
     (.must true
      (.must true
       (.must true
        (.ask (inB s (1 : Int) (20 : Int))
         (.must true
          (.must true
           (.must true
            (.ask (inB b (0 : Int) (1000000000 : Int))
             (.must true
              (.must true
               (.must true
                (.ask (inB l (0 : Int) (4294967295 : Int))
                 (.must true
                  (.ret [C.bool true]))
                 (.must true
                  (.ret [C.bool false]))))))
             (.must true
              (.ret [C.bool false]))))))
         (.must true
          (.ret [C.bool false]))))))
     (.must true
      (.ret [C.bool false]))))))) := by kernel_rfl
theorem iHeadOk_tree (H : List Pt → Nat → St → T (List C)) (v : Int) (s : Int) (b : Int) (l : Int) : vBodyL E_iHeadOk noInl (sg [pHead] [rB]) Tryz.f218 H
  [C.int IntKind.i64 v, C.int IntKind.i64 s, C.int IntKind.i64 b, C.int IntKind.i64 l] =
 (.must true
 (.must true
  (.must true
   (.must true
    (.ask (inB v (1 : Int) (2 : Int))
     (.must true
      (.must true
       (.must true
        (.ask (inB s (1 : Int) (20 : Int))
         (.must true
          (.must true
           (.must true
            (.ask (inB b (0 : Int) (1000000000 : Int))
             (.must true
              (.must true
               (.must true
                (.ask (inB l (0 : Int) (4294967295 : Int))
                 (.must true
                  (.ret [C.bool true]))
                 (.must true
                  (.ret [C.bool false]))))))
             (.must true
              (.ret [C.bool false]))))))
         (.must true
          (.ret [C.bool false]))))))
     (.must true
      (.ret [C.bool false]))))))) := by kernel_rfl
theorem sHeadText_tree (H : List Pt → Nat → St → T (List C)) (v : Int) (s : Int) (b : Int) (l : Int) : vBodyL E_sHeadText noInl (sg [pHead] [rS]) Tryz.f199 H
  [C.int IntKind.i64 v, C.int IntKind.i64 s, C.int IntKind.i64 b, C.int IntKind.i64 l] =
 (.must true
 (.must true
  (.must true
   (.must true
    (.ask (headOk v s b l)
     (.must true
      (.must (decide ((-9223372036854775808 : Int) ≤ v) && decide (v ≤ (9223372036854775807 : Int)))
       (.must true
        (.must (decide ((4 : Nat) + (fixOf v (1 : Int)).length ≤ (9223372036854775807 : Nat)))
         (.must true
          (.must (decide ((-9223372036854775808 : Int) ≤ s) && decide (s ≤ (9223372036854775807 : Int)))
           (.must true
            (.must (decide
  (([(83 : UInt8), (69 : UInt8), (71 : UInt8), (77 : UInt8)] ++ fixOf v (1 : Int)).length + (fixOf s (1 : Int)).length ≤
    (9223372036854775807 : Nat)))
             (.must (decide
  (([(83 : UInt8), (69 : UInt8), (71 : UInt8), (77 : UInt8)] ++ fixOf v (1 : Int) ++ fixOf s (1 : Int)).length +
      (2 : Nat) ≤
    (9223372036854775807 : Nat)))
              (.must true
               (.must (decide ((-9223372036854775808 : Int) ≤ b) && decide (b ≤ (9223372036854775807 : Int)))
                (.must true
                 (.must (decide
  (([(83 : UInt8), (69 : UInt8), (71 : UInt8), (77 : UInt8)] ++ fixOf v (1 : Int) ++ fixOf s (1 : Int) ++
          [(0 : UInt8), (0 : UInt8)]).length +
      (fixOf b (8 : Int)).length ≤
    (9223372036854775807 : Nat)))
                  (.must true
                   (.must (decide ((-9223372036854775808 : Int) ≤ l) && decide (l ≤ (9223372036854775807 : Int)))
                    (.must true
                     (.must (decide
  (([(83 : UInt8), (69 : UInt8), (71 : UInt8), (77 : UInt8)] ++ fixOf v (1 : Int) ++ fixOf s (1 : Int) ++
            [(0 : UInt8), (0 : UInt8)] ++
          fixOf b (8 : Int)).length +
      (fixOf l (4 : Int)).length ≤
    (9223372036854775807 : Nat)))
                      (.must true
                       (.must (decide
  (([(83 : UInt8), (69 : UInt8), (71 : UInt8), (77 : UInt8)] ++ fixOf v (1 : Int) ++ fixOf s (1 : Int) ++
            [(0 : UInt8), (0 : UInt8)] ++
          fixOf b (8 : Int) ++
        fixOf l (4 : Int)).length ≤
    (281474976710656 : Nat)))
                        (.must true
                         (.must true
                          (.must (decide
    ((-9223372036854775808 : Int) ≤
      Int.ofNat
        (crcMore (0 : Nat)
          ([(83 : UInt8), (69 : UInt8), (71 : UInt8), (77 : UInt8)] ++ fixOf v (1 : Int) ++ fixOf s (1 : Int) ++
                [(0 : UInt8), (0 : UInt8)] ++
              fixOf b (8 : Int) ++
            fixOf l (4 : Int)))) &&
  decide
    (Int.ofNat
        (crcMore (0 : Nat)
          ([(83 : UInt8), (69 : UInt8), (71 : UInt8), (77 : UInt8)] ++ fixOf v (1 : Int) ++ fixOf s (1 : Int) ++
                [(0 : UInt8), (0 : UInt8)] ++
              fixOf b (8 : Int) ++
            fixOf l (4 : Int))) ≤
      (9223372036854775807 : Int)))
                           (.must true
                            (.must (decide
  (([(83 : UInt8), (69 : UInt8), (71 : UInt8), (77 : UInt8)] ++ fixOf v (1 : Int) ++ fixOf s (1 : Int) ++
              [(0 : UInt8), (0 : UInt8)] ++
            fixOf b (8 : Int) ++
          fixOf l (4 : Int)).length +
      (fixOf
          (Int.ofNat
            (crcMore (0 : Nat)
              ([(83 : UInt8), (69 : UInt8), (71 : UInt8), (77 : UInt8)] ++ fixOf v (1 : Int) ++ fixOf s (1 : Int) ++
                    [(0 : UInt8), (0 : UInt8)] ++
                  fixOf b (8 : Int) ++
                fixOf l (4 : Int))))
          (4 : Int)).length ≤
    (9223372036854775807 : Nat)))
                             (.must true
                              (.ret [C.str
    ([(83 : UInt8), (69 : UInt8), (71 : UInt8), (77 : UInt8)] ++ fixOf v (1 : Int) ++ fixOf s (1 : Int) ++
            [(0 : UInt8), (0 : UInt8)] ++
          fixOf b (8 : Int) ++
        fixOf l (4 : Int) ++
      fixOf
        (Int.ofNat
          (crcMore (0 : Nat)
            ([(83 : UInt8), (69 : UInt8), (71 : UInt8), (77 : UInt8)] ++ fixOf v (1 : Int) ++ fixOf s (1 : Int) ++
                  [(0 : UInt8), (0 : UInt8)] ++
                fixOf b (8 : Int) ++
              fixOf l (4 : Int))))
        (4 : Int))]))))))))))))))))))))))))))
     (.must true
      (.ret [C.str []]))))))) := by kernel_rfl
theorem iHeadText_tree (H : List Pt → Nat → St → T (List C)) (v : Int) (s : Int) (b : Int) (l : Int) : vBodyL E_iHeadText noInl (sg [pHead] [rS]) Tryz.f221 H
  [C.int IntKind.i64 v, C.int IntKind.i64 s, C.int IntKind.i64 b, C.int IntKind.i64 l] =
 (.must true
 (.must true
  (.must true
   (.must true
    (.ask (headOk v s b l)
     (.must true
      (.must (decide ((-9223372036854775808 : Int) ≤ v) && decide (v ≤ (9223372036854775807 : Int)))
       (.must true
        (.must (decide ((4 : Nat) + (fixOf v (1 : Int)).length ≤ (9223372036854775807 : Nat)))
         (.must true
          (.must (decide ((-9223372036854775808 : Int) ≤ s) && decide (s ≤ (9223372036854775807 : Int)))
           (.must true
            (.must (decide
  (([(83 : UInt8), (69 : UInt8), (71 : UInt8), (77 : UInt8)] ++ fixOf v (1 : Int)).length + (fixOf s (1 : Int)).length ≤
    (9223372036854775807 : Nat)))
             (.must true
              (.must true
               (.must true
                (.must (decide
  (([(83 : UInt8), (69 : UInt8), (71 : UInt8), (77 : UInt8)] ++ fixOf v (1 : Int) ++ fixOf s (1 : Int)).length +
      ((1 : Nat) + (1 : Nat)) ≤
    (9223372036854775807 : Nat)))
                 (.must true
                  (.must (decide ((-9223372036854775808 : Int) ≤ b) && decide (b ≤ (9223372036854775807 : Int)))
                   (.must true
                    (.must (decide
  (([(83 : UInt8), (69 : UInt8), (71 : UInt8), (77 : UInt8)] ++ fixOf v (1 : Int) ++ fixOf s (1 : Int) ++
          fixOf (0 : Int) (2 : Int)).length +
      (fixOf b (8 : Int)).length ≤
    (9223372036854775807 : Nat)))
                     (.must true
                      (.must (decide ((-9223372036854775808 : Int) ≤ l) && decide (l ≤ (9223372036854775807 : Int)))
                       (.must true
                        (.must (decide
  (([(83 : UInt8), (69 : UInt8), (71 : UInt8), (77 : UInt8)] ++ fixOf v (1 : Int) ++ fixOf s (1 : Int) ++
            fixOf (0 : Int) (2 : Int) ++
          fixOf b (8 : Int)).length +
      (fixOf l (4 : Int)).length ≤
    (9223372036854775807 : Nat)))
                         (.must true
                          (.must (decide
  (([(83 : UInt8), (69 : UInt8), (71 : UInt8), (77 : UInt8)] ++ fixOf v (1 : Int) ++ fixOf s (1 : Int) ++
            fixOf (0 : Int) (2 : Int) ++
          fixOf b (8 : Int) ++
        fixOf l (4 : Int)).length ≤
    (281474976710656 : Nat)))
                           (.must true
                            (.must true
                             (.must (decide
    ((-9223372036854775808 : Int) ≤
      Int.ofNat
        (crcMore (0 : Nat)
          ([(83 : UInt8), (69 : UInt8), (71 : UInt8), (77 : UInt8)] ++ fixOf v (1 : Int) ++ fixOf s (1 : Int) ++
                fixOf (0 : Int) (2 : Int) ++
              fixOf b (8 : Int) ++
            fixOf l (4 : Int)))) &&
  decide
    (Int.ofNat
        (crcMore (0 : Nat)
          ([(83 : UInt8), (69 : UInt8), (71 : UInt8), (77 : UInt8)] ++ fixOf v (1 : Int) ++ fixOf s (1 : Int) ++
                fixOf (0 : Int) (2 : Int) ++
              fixOf b (8 : Int) ++
            fixOf l (4 : Int))) ≤
      (9223372036854775807 : Int)))
                              (.must true
                               (.must (decide
  (([(83 : UInt8), (69 : UInt8), (71 : UInt8), (77 : UInt8)] ++ fixOf v (1 : Int) ++ fixOf s (1 : Int) ++
              fixOf (0 : Int) (2 : Int) ++
            fixOf b (8 : Int) ++
          fixOf l (4 : Int)).length +
      (fixOf
          (Int.ofNat
            (crcMore (0 : Nat)
              ([(83 : UInt8), (69 : UInt8), (71 : UInt8), (77 : UInt8)] ++ fixOf v (1 : Int) ++ fixOf s (1 : Int) ++
                    fixOf (0 : Int) (2 : Int) ++
                  fixOf b (8 : Int) ++
                fixOf l (4 : Int))))
          (4 : Int)).length ≤
    (9223372036854775807 : Nat)))
                                (.must true
                                 (.ret [C.str
    ([(83 : UInt8), (69 : UInt8), (71 : UInt8), (77 : UInt8)] ++ fixOf v (1 : Int) ++ fixOf s (1 : Int) ++
            fixOf (0 : Int) (2 : Int) ++
          fixOf b (8 : Int) ++
        fixOf l (4 : Int) ++
      fixOf
        (Int.ofNat
          (crcMore (0 : Nat)
            ([(83 : UInt8), (69 : UInt8), (71 : UInt8), (77 : UInt8)] ++ fixOf v (1 : Int) ++ fixOf s (1 : Int) ++
                  fixOf (0 : Int) (2 : Int) ++
                fixOf b (8 : Int) ++
              fixOf l (4 : Int))))
        (4 : Int))])))))))))))))))))))))))))))))
     (.must true
      (.ret [C.str []]))))))) := by kernel_rfl
theorem sReadHead_tree (H : List Pt → Nat → St → T (List C)) (b : List UInt8) : vBodyL E_sReadHead noInl (sg [pS] [rHead, rB]) Tryz.f195 H [C.str b] =
 (.must true
 (.ask (decide ((↑b.length : Int) < (24 : Int)))
  (.must true
   (.ret [C.int IntKind.i64 (0 : Int), C.int IntKind.i64 (0 : Int), C.int IntKind.i64 (0 : Int), C.int IntKind.i64 (0 : Int),
  C.bool false]))
  (.must true
   (.must (decide (b.length ≤ (281474976710656 : Nat)) &&
  (decide ((-9223372036854775808 : Int) ≤ (8 : Int)) && decide ((8 : Int) ≤ (9223372036854775807 : Int))))
    (.must true
     (.ask (fixOk b (8 : Int) (8 : Int))
      (.must true
       (.must (decide (b.length ≤ (281474976710656 : Nat)) &&
  (decide ((-9223372036854775808 : Int) ≤ (16 : Int)) && decide ((16 : Int) ≤ (9223372036854775807 : Int))))
        (.must true
         (.ask (fixOk b (16 : Int) (4 : Int))
          (.must (decide ((0 : Int) ≤ (4 : Int)) && decide ((4 : Int) < (↑b.length : Int)))
           (.must (decide ((0 : Int) ≤ (5 : Int)) && decide ((5 : Int) < (↑b.length : Int)))
            (.must true
             (.must true
              (.must true
               (.must (decide ((0 : Int) ≤ (24 : Int)) && decide ((24 : Int) ≤ (↑b.length : Int)))
                (.ask (!headText (IntKind.i64.wrap (↑(b.getD (Int.toNat (4 : Int)) (0 : UInt8)).toNat : Int))
      (IntKind.i64.wrap (↑(b.getD (Int.toNat (5 : Int)) (0 : UInt8)).toNat : Int)) (fixRead b (8 : Int) (8 : Int))
      (fixRead b (16 : Int) (4 : Int)) ==
    List.drop (0 : Nat) (List.take (Int.toNat (24 : Int)) b))
                 (.must true
                  (.ret [C.int IntKind.i64 (0 : Int), C.int IntKind.i64 (0 : Int), C.int IntKind.i64 (0 : Int), C.int IntKind.i64 (0 : Int),
  C.bool false]))
                 (.must true
                  (.ret [C.int IntKind.i64 (IntKind.i64.wrap (↑(b.getD (Int.toNat (4 : Int)) (0 : UInt8)).toNat : Int)),
  C.int IntKind.i64 (IntKind.i64.wrap (↑(b.getD (Int.toNat (5 : Int)) (0 : UInt8)).toNat : Int)),
  C.int IntKind.i64 (fixRead b (8 : Int) (8 : Int)), C.int IntKind.i64 (fixRead b (16 : Int) (4 : Int)), C.bool true])))))))))
          (.must (decide ((0 : Int) ≤ (4 : Int)) && decide ((4 : Int) < (↑b.length : Int)))
           (.must (decide ((0 : Int) ≤ (5 : Int)) && decide ((5 : Int) < (↑b.length : Int)))
            (.must true
             (.must true
              (.must true
               (.must (decide ((0 : Int) ≤ (24 : Int)) && decide ((24 : Int) ≤ (↑b.length : Int)))
                (.ask (!headText (IntKind.i64.wrap (↑(b.getD (Int.toNat (4 : Int)) (0 : UInt8)).toNat : Int))
      (IntKind.i64.wrap (↑(b.getD (Int.toNat (5 : Int)) (0 : UInt8)).toNat : Int)) (fixRead b (8 : Int) (8 : Int))
      (fixRead b (16 : Int) (4 : Int)) ==
    List.drop (0 : Nat) (List.take (Int.toNat (24 : Int)) b))
                 (.must true
                  (.ret [C.int IntKind.i64 (0 : Int), C.int IntKind.i64 (0 : Int), C.int IntKind.i64 (0 : Int), C.int IntKind.i64 (0 : Int),
  C.bool false]))
                 (.must true
                  (.ret [C.int IntKind.i64 (IntKind.i64.wrap (↑(b.getD (Int.toNat (4 : Int)) (0 : UInt8)).toNat : Int)),
  C.int IntKind.i64 (IntKind.i64.wrap (↑(b.getD (Int.toNat (5 : Int)) (0 : UInt8)).toNat : Int)),
  C.int IntKind.i64 (fixRead b (8 : Int) (8 : Int)), C.int IntKind.i64 (fixRead b (16 : Int) (4 : Int)), C.bool true])))))))))))))
      (.must true
       (.must (decide (b.length ≤ (281474976710656 : Nat)) &&
  (decide ((-9223372036854775808 : Int) ≤ (16 : Int)) && decide ((16 : Int) ≤ (9223372036854775807 : Int))))
        (.must true
         (.ask (fixOk b (16 : Int) (4 : Int))
          (.must (decide ((0 : Int) ≤ (4 : Int)) && decide ((4 : Int) < (↑b.length : Int)))
           (.must (decide ((0 : Int) ≤ (5 : Int)) && decide ((5 : Int) < (↑b.length : Int)))
            (.must true
             (.ret [C.int IntKind.i64 (0 : Int), C.int IntKind.i64 (0 : Int), C.int IntKind.i64 (0 : Int), C.int IntKind.i64 (0 : Int),
  C.bool false]))))
          (.must (decide ((0 : Int) ≤ (4 : Int)) && decide ((4 : Int) < (↑b.length : Int)))
           (.must (decide ((0 : Int) ≤ (5 : Int)) && decide ((5 : Int) < (↑b.length : Int)))
            (.must true
             (.ret [C.int IntKind.i64 (0 : Int), C.int IntKind.i64 (0 : Int), C.int IntKind.i64 (0 : Int), C.int IntKind.i64 (0 : Int),
  C.bool false])))))))))))))) := by kernel_rfl
theorem iReadHead_tree (H : List Pt → Nat → St → T (List C)) (b : List UInt8) : vBodyL E_iReadHead noInl (sg [pS] [rHead, rB]) Tryz.f203 H [C.str b] =
 (.must true
 (.ask (decide ((↑b.length : Int) < (24 : Int)))
  (.must true
   (.ret [C.int IntKind.i64 (0 : Int), C.int IntKind.i64 (0 : Int), C.int IntKind.i64 (0 : Int), C.int IntKind.i64 (0 : Int),
  C.bool false]))
  (.must true
   (.must (decide (b.length ≤ (281474976710656 : Nat)) &&
  (decide ((-9223372036854775808 : Int) ≤ (8 : Int)) && decide ((8 : Int) ≤ (9223372036854775807 : Int))))
    (.must true
     (.ask (fixOk b (8 : Int) (8 : Int))
      (.must true
       (.must (decide (b.length ≤ (281474976710656 : Nat)) &&
  (decide ((-9223372036854775808 : Int) ≤ (16 : Int)) && decide ((16 : Int) ≤ (9223372036854775807 : Int))))
        (.must true
         (.ask (fixOk b (16 : Int) (4 : Int))
          (.must (decide ((0 : Int) ≤ (4 : Int)) && decide ((4 : Int) < (↑b.length : Int)))
           (.must (decide ((0 : Int) ≤ (5 : Int)) && decide ((5 : Int) < (↑b.length : Int)))
            (.must true
             (.must true
              (.must true
               (.must (decide ((0 : Int) ≤ (24 : Int)) && decide ((24 : Int) ≤ (↑b.length : Int)))
                (.ask (!headText (IntKind.i64.wrap (↑(b.getD (Int.toNat (4 : Int)) (0 : UInt8)).toNat : Int))
      (IntKind.i64.wrap (↑(b.getD (Int.toNat (5 : Int)) (0 : UInt8)).toNat : Int)) (fixRead b (8 : Int) (8 : Int))
      (fixRead b (16 : Int) (4 : Int)) ==
    List.drop (0 : Nat) (List.take (Int.toNat (24 : Int)) b))
                 (.must true
                  (.ret [C.int IntKind.i64 (0 : Int), C.int IntKind.i64 (0 : Int), C.int IntKind.i64 (0 : Int), C.int IntKind.i64 (0 : Int),
  C.bool false]))
                 (.must true
                  (.ret [C.int IntKind.i64 (IntKind.i64.wrap (↑(b.getD (Int.toNat (4 : Int)) (0 : UInt8)).toNat : Int)),
  C.int IntKind.i64 (IntKind.i64.wrap (↑(b.getD (Int.toNat (5 : Int)) (0 : UInt8)).toNat : Int)),
  C.int IntKind.i64 (fixRead b (8 : Int) (8 : Int)), C.int IntKind.i64 (fixRead b (16 : Int) (4 : Int)), C.bool true])))))))))
          (.must (decide ((0 : Int) ≤ (4 : Int)) && decide ((4 : Int) < (↑b.length : Int)))
           (.must (decide ((0 : Int) ≤ (5 : Int)) && decide ((5 : Int) < (↑b.length : Int)))
            (.must true
             (.must true
              (.must true
               (.must (decide ((0 : Int) ≤ (24 : Int)) && decide ((24 : Int) ≤ (↑b.length : Int)))
                (.ask (!headText (IntKind.i64.wrap (↑(b.getD (Int.toNat (4 : Int)) (0 : UInt8)).toNat : Int))
      (IntKind.i64.wrap (↑(b.getD (Int.toNat (5 : Int)) (0 : UInt8)).toNat : Int)) (fixRead b (8 : Int) (8 : Int))
      (fixRead b (16 : Int) (4 : Int)) ==
    List.drop (0 : Nat) (List.take (Int.toNat (24 : Int)) b))
                 (.must true
                  (.ret [C.int IntKind.i64 (0 : Int), C.int IntKind.i64 (0 : Int), C.int IntKind.i64 (0 : Int), C.int IntKind.i64 (0 : Int),
  C.bool false]))
                 (.must true
                  (.ret [C.int IntKind.i64 (IntKind.i64.wrap (↑(b.getD (Int.toNat (4 : Int)) (0 : UInt8)).toNat : Int)),
  C.int IntKind.i64 (IntKind.i64.wrap (↑(b.getD (Int.toNat (5 : Int)) (0 : UInt8)).toNat : Int)),
  C.int IntKind.i64 (fixRead b (8 : Int) (8 : Int)), C.int IntKind.i64 (fixRead b (16 : Int) (4 : Int)), C.bool true])))))))))))))
      (.must true
       (.must (decide (b.length ≤ (281474976710656 : Nat)) &&
  (decide ((-9223372036854775808 : Int) ≤ (16 : Int)) && decide ((16 : Int) ≤ (9223372036854775807 : Int))))
        (.must true
         (.ask (fixOk b (16 : Int) (4 : Int))
          (.must (decide ((0 : Int) ≤ (4 : Int)) && decide ((4 : Int) < (↑b.length : Int)))
           (.must (decide ((0 : Int) ≤ (5 : Int)) && decide ((5 : Int) < (↑b.length : Int)))
            (.must true
             (.ret [C.int IntKind.i64 (0 : Int), C.int IntKind.i64 (0 : Int), C.int IntKind.i64 (0 : Int), C.int IntKind.i64 (0 : Int),
  C.bool false]))))
          (.must (decide ((0 : Int) ≤ (4 : Int)) && decide ((4 : Int) < (↑b.length : Int)))
           (.must (decide ((0 : Int) ≤ (5 : Int)) && decide ((5 : Int) < (↑b.length : Int)))
            (.must true
             (.ret [C.int IntKind.i64 (0 : Int), C.int IntKind.i64 (0 : Int), C.int IntKind.i64 (0 : Int), C.int IntKind.i64 (0 : Int),
  C.bool false])))))))))))))) := by kernel_rfl
end Go.Proofs.YtggmbjbmklimdaaGreatDoor.V

namespace Go.Proofs.YtggmbjbmklimdaaGreatDoor.V

theorem fixOf_len (n w : Int) : (fixOf n w).length ≤ 8 := by
  unfold fixOf; split
  · rw [leBytes_length]; omega
  · simp
theorem sHeadOk_E : EnvSound Tryz.prog E_sHeadOk := mkE_sound (by simp [sIn_sound])
theorem sHeadOk_sound : Sound Tryz.prog 198 (sg [pHead] [rB]) headOkSpec := vBody_sound sHeadOk_E noInl_ok Tryz.func198 (by kernel_rfl) fun cs outs hk h => by
  unfold headOkSpec at h
  split at h
  · simp only [Option.some.injEq, Prod.mk.injEq, true_and] at h
    rw [← h, vBody_L, sHeadOk_tree]
    simp only [eval_must', eval_ask', eval_ret', if_true, headOk]
    repeat' split
    all_goals first | rfl | (simp_all; done)
  · cases h
theorem iHeadOk_E : EnvSound Tryz.prog E_iHeadOk := mkE_sound (by simp [iIn_sound, iIsVersion_sound, iIsNumber_sound])
theorem iHeadOk_sound : Sound Tryz.prog 218 (sg [pHead] [rB]) headOkSpec := vBody_sound iHeadOk_E noInl_ok Tryz.func218 (by kernel_rfl) fun cs outs hk h => by
  unfold headOkSpec at h
  split at h
  · simp only [Option.some.injEq, Prod.mk.injEq, true_and] at h
    rw [← h, vBody_L, iHeadOk_tree]
    simp only [eval_must', eval_ask', eval_ret', if_true, headOk]
    repeat' split
    all_goals first | rfl | (simp_all; done)
  · cases h
theorem headOk_iff (v s b l : Int) : headOk v s b l = true ↔ (1 ≤ v ∧ v ≤ 2) ∧ (1 ≤ s ∧ s ≤ 20) ∧ (0 ≤ b ∧ b ≤ 1000000000) ∧ (0 ≤ l ∧ l ≤ 4294967295) := by
  simp [headOk, inB, and_assoc]
theorem sHeadText_E : EnvSound Tryz.prog E_sHeadText := mkE_sound (by simp [sSumOf_sound, sFixText_sound, sHeadOk_sound])
theorem sHeadText_sound : Sound Tryz.prog 199 (sg [pHead] [rS]) headTextSpec := vBody_sound sHeadText_E noInl_ok Tryz.func199 (by kernel_rfl) fun cs outs hk h => by
  unfold headTextSpec at h
  split at h
  · simp only [Option.some.injEq, Prod.mk.injEq, true_and] at h
    rename_i v s b l
    rw [← h, vBody_L, sHeadText_tree]
    by_cases hok : headOk v s b l = true
    · obtain ⟨⟨a1, a2⟩, ⟨a3, a4⟩, ⟨a5, a6⟩, a7, a8⟩ := (headOk_iff v s b l).1 hok
      have l1 := fixOf_len v 1
      have l2 := fixOf_len s 1
      have l3 := fixOf_len b 8
      have l4 := fixOf_len l 4
      have l5 := fixOf_len (crcMore 0 (headPre v s b l) : Nat) 4
      have c1 := crcMore_lt 0 (headPre v s b l) (by omega)
      have e : headText v s b l = headPre v s b l ++ fixOf (crcMore 0 (headPre v s b l) : Nat) 4 := by simp [headText, hok]
      rw [e]
      unfold headPre at *
      simp only [eval_must', eval_ask', eval_ret', if_true, hok, decide_eq_true_eq, Bool.and_eq_true, List.length_append, List.length_cons, List.length_nil, Int.ofNat_eq_natCast]
      repeat rw [if_pos (by omega)]
    · simp [eval_must', eval_ask', eval_ret', hok, headText]
  · cases h
theorem iHeadText_E : EnvSound Tryz.prog E_iHeadText := mkE_sound (by simp [iSumOf_sound, iFixText_sound, iHeadOk_sound])
theorem iHeadText_sound : Sound Tryz.prog 221 (sg [pHead] [rS]) headTextSpec := vBody_sound iHeadText_E noInl_ok Tryz.func221 (by kernel_rfl) fun cs outs hk h => by
  unfold headTextSpec at h
  split at h
  · simp only [Option.some.injEq, Prod.mk.injEq, true_and] at h
    rename_i v s b l
    rw [← h, vBody_L, iHeadText_tree]
    by_cases hok : headOk v s b l = true
    · obtain ⟨⟨a1, a2⟩, ⟨a3, a4⟩, ⟨a5, a6⟩, a7, a8⟩ := (headOk_iff v s b l).1 hok
      have l1 := fixOf_len v 1
      have l2 := fixOf_len s 1
      have l3 := fixOf_len b 8
      have l4 := fixOf_len l 4
      have l5 := fixOf_len (crcMore 0 (headPre v s b l) : Nat) 4
      have c1 := crcMore_lt 0 (headPre v s b l) (by omega)
      have f0 : fixOf 0 2 = [0, 0] := by decide
      have e : headText v s b l = headPre v s b l ++ fixOf (crcMore 0 (headPre v s b l) : Nat) 4 := by simp [headText, hok]
      rw [e]
      unfold headPre at *
      simp only [eval_must', eval_ask', eval_ret', if_true, hok, decide_eq_true_eq, Bool.and_eq_true, List.length_append, List.length_cons, List.length_nil, Int.ofNat_eq_natCast, f0]
      repeat rw [if_pos (by omega)]
    · simp [eval_must', eval_ask', eval_ret', hok, headText]
  · cases h

theorem sReadHead_E : EnvSound Tryz.prog E_sReadHead := mkE_sound (by simp [sReadFix_sound, sHeadText_sound])
theorem sReadHead_sound : Sound Tryz.prog 195 (sg [pS] [rHead, rB]) readHeadSpec := vBody_sound sReadHead_E noInl_ok Tryz.func195 (by kernel_rfl) fun cs outs hk h => by
  unfold readHeadSpec at h
  split at h
  · simp only [Option.some.injEq, Prod.mk.injEq, decide_eq_true_eq] at h
    obtain ⟨h1, rfl⟩ := h
    rename_i b
    rw [vBody_L, sReadHead_tree]
    have c4 := byte_lt b 4
    have c5 := byte_lt b 5
    have w4 : IntKind.i64.wrap ((b.getD 4 0).toNat : Int) = rhV b := by rw [wrap64] <;> first | rfl | omega
    have w5 : IntKind.i64.wrap ((b.getD 5 0).toNat : Int) = rhS b := by rw [wrap64] <;> first | rfl | omega
    have t4 : Int.toNat (4 : Int) = 4 := rfl
    have t5 : Int.toNat (5 : Int) = 5 := rfl
    have t24 : Int.toNat (24 : Int) = 24 := rfl
    have eB : fixRead b 8 8 = rhB b := rfl
    have eL : fixRead b 16 4 = rhL b := rfl
    simp only [t4, t5, t24, w4, w5, eB, eL, List.drop_zero]
    by_cases h24 : (b.length : Int) < 24
    · have ho : readHeadOk b = false := by unfold readHeadOk; rw [decide_eq_false (by omega)]; rfl
      simp [eval_must', eval_ask', eval_ret', h24, ho, ifI]
    · have g1 : (4 : Int) < b.length := by omega
      have g2 : (5 : Int) < b.length := by omega
      have g3 : (24 : Int) ≤ b.length := by omega
      have g4 : 24 ≤ b.length := by omega
      by_cases h8 : fixOk b 8 8 = true
      · by_cases ht : headText (rhV b) (rhS b) (rhB b) (rhL b) = b.take 24
        · have ho : readHeadOk b = true := by unfold readHeadOk; rw [decide_eq_true g4, h8, decide_eq_true ht]; rfl
          have hb : (headText (rhV b) (rhS b) (rhB b) (rhL b) == b.take 24) = true := by rw [ht]; simp
          by_cases h16 : fixOk b 16 4 = true <;> simp [eval_must', eval_ask', eval_ret', h24, h8, h16, h1, g1, g2, g3, t4, t5, t24, w4, w5, eB, eL, ht, ho, ifI]
        · have ho : readHeadOk b = false := by unfold readHeadOk; rw [decide_eq_true g4, h8, decide_eq_false ht]; rfl
          by_cases h16 : fixOk b 16 4 = true <;> simp [eval_must', eval_ask', eval_ret', h24, h8, h16, h1, g1, g2, g3, t4, t5, t24, w4, w5, eB, eL, ht, ho, ifI]
      · have ho : readHeadOk b = false := by unfold readHeadOk; rw [Bool.eq_false_iff.2 h8]; simp
        by_cases h16 : fixOk b 16 4 = true <;> simp [eval_must', eval_ask', eval_ret', h24, h8, h16, h1, g1, g2, g3, t4, t5, t24, ho, ifI] <;> (intros; simp_all)
  · cases h
theorem iReadHead_E : EnvSound Tryz.prog E_iReadHead := mkE_sound (by simp [iReadFix_sound, iHeadText_sound])
theorem iReadHead_sound : Sound Tryz.prog 203 (sg [pS] [rHead, rB]) readHeadSpec := vBody_sound iReadHead_E noInl_ok Tryz.func203 (by kernel_rfl) fun cs outs hk h => by
  unfold readHeadSpec at h
  split at h
  · simp only [Option.some.injEq, Prod.mk.injEq, decide_eq_true_eq] at h
    obtain ⟨h1, rfl⟩ := h
    rename_i b
    rw [vBody_L, iReadHead_tree]
    have c4 := byte_lt b 4
    have c5 := byte_lt b 5
    have w4 : IntKind.i64.wrap ((b.getD 4 0).toNat : Int) = rhV b := by rw [wrap64] <;> first | rfl | omega
    have w5 : IntKind.i64.wrap ((b.getD 5 0).toNat : Int) = rhS b := by rw [wrap64] <;> first | rfl | omega
    have t4 : Int.toNat (4 : Int) = 4 := rfl
    have t5 : Int.toNat (5 : Int) = 5 := rfl
    have t24 : Int.toNat (24 : Int) = 24 := rfl
    have eB : fixRead b 8 8 = rhB b := rfl
    have eL : fixRead b 16 4 = rhL b := rfl
    simp only [t4, t5, t24, w4, w5, eB, eL, List.drop_zero]
    by_cases h24 : (b.length : Int) < 24
    · have ho : readHeadOk b = false := by unfold readHeadOk; rw [decide_eq_false (by omega)]; rfl
      simp [eval_must', eval_ask', eval_ret', h24, ho, ifI]
    · have g1 : (4 : Int) < b.length := by omega
      have g2 : (5 : Int) < b.length := by omega
      have g3 : (24 : Int) ≤ b.length := by omega
      have g4 : 24 ≤ b.length := by omega
      by_cases h8 : fixOk b 8 8 = true
      · by_cases ht : headText (rhV b) (rhS b) (rhB b) (rhL b) = b.take 24
        · have ho : readHeadOk b = true := by unfold readHeadOk; rw [decide_eq_true g4, h8, decide_eq_true ht]; rfl
          have hb : (headText (rhV b) (rhS b) (rhB b) (rhL b) == b.take 24) = true := by rw [ht]; simp
          by_cases h16 : fixOk b 16 4 = true <;> simp [eval_must', eval_ask', eval_ret', h24, h8, h16, h1, g1, g2, g3, t4, t5, t24, w4, w5, eB, eL, ht, ho, ifI]
        · have ho : readHeadOk b = false := by unfold readHeadOk; rw [decide_eq_true g4, h8, decide_eq_false ht]; rfl
          by_cases h16 : fixOk b 16 4 = true <;> simp [eval_must', eval_ask', eval_ret', h24, h8, h16, h1, g1, g2, g3, t4, t5, t24, w4, w5, eB, eL, ht, ho, ifI]
      · have ho : readHeadOk b = false := by unfold readHeadOk; rw [Bool.eq_false_iff.2 h8]; simp
        by_cases h16 : fixOk b 16 4 = true <;> simp [eval_must', eval_ask', eval_ret', h24, h8, h16, h1, g1, g2, g3, t4, t5, t24, ho, ifI] <;> (intros; simp_all)
  · cases h

end Go.Proofs.YtggmbjbmklimdaaGreatDoor.V

namespace Go.Proofs.YtggmbjbmklimdaaGreatDoor.V
noncomputable section

/-- a number, seven bits a byte, at most so many bytes -/
def varBytes : Nat → Nat → List UInt8
  | 0, _ => []
  | k + 1, n => if n < 128 then [UInt8.ofNat n] else UInt8.ofNat (n % 128 + 128) :: varBytes k (n / 128)
def varText (n : Int) : List UInt8 := if inB n 0 1000000000 then varBytes 5 n.toNat else []
def varTextSpec : Spec := fun cs => match cs with
  | [.int .i64 n] => some (true, [.str (varText n)])
  | _ => none
def varSizeSpec : Spec := fun cs => match cs with
  | [.int .i64 n] => some (true, [.int .i64 (varText n).length])
  | _ => none
def H_sVarText (n : Int) (m : Nat) (r : List (List C)) : St := st1 [(0, int64 n), (3, .l (.ref 0 0 m))] 1 r
def H_iVarText (n : Int) (m : Nat) (r : List (List C)) : St := st1 [(0, int64 n), (3, .l (.ref 0 0 m))] 1 r
def E_sVarText : Env := mkE [(4, [0, 3])] [(105, (sg [pI, pI, pI] [rB]), inSpec)]
def E_iVarText : Env := mkE [(4, [0, 3])] [(136, (sg [pI] [rB]), isNumberSpec)]

/-- a number that is read, byte by byte: k bytes so far, their value -/
def rvGo (b : List UInt8) (at' : Nat) : Nat → Nat → Nat → Option (Nat × Nat)
  | 0, _, _ => none
  | f + 1, k, n => if at' + k < b.length then
      if (b.getD (at' + k) 0).toNat < 128 then
        if (k > 0 ∧ (b.getD (at' + k) 0).toNat = 0) ∨ 1000000000 < n + (b.getD (at' + k) 0).toNat * 128 ^ k then none else some (n + (b.getD (at' + k) 0).toNat * 128 ^ k, at' + k + 1)
      else rvGo b at' f (k + 1) (n + ((b.getD (at' + k) 0).toNat - 128) * 128 ^ k)
    else none
def readVar (b : List UInt8) (at' : Int) : Option (Nat × Nat) := if 0 ≤ at' then rvGo b at'.toNat 5 0 0 else none
def rvOk (b : List UInt8) (at' : Int) : Bool := (readVar b at').isSome
def rvN (b : List UInt8) (at' : Int) : Int := match readVar b at' with | some p => p.1 | none => 0
def rvEnd (b : List UInt8) (at' : Int) : Int := match readVar b at' with | some p => p.2 | none => 0
def readVarSpec : Spec := fun cs => match cs with
  | [.str b, .int .i64 a] => some (decide (b.length ≤ 281474976710656) && (decide (-9223372036854775808 ≤ a) && decide (a ≤ 9223372036854775807)), [.int .i64 (rvN b a), .int .i64 (rvEnd b a), .bool (rvOk b a)])
  | _ => none
def H_sReadVar (b : List UInt8) (a n i : Int) : St := st0 [(0, wstr b), (1, int64 a), (7, int64 n), (8, int64 i)]
def H_iReadVar (b : List UInt8) (a n i : Int) : St := st0 [(0, wstr b), (1, int64 a), (7, int64 n), (10, int64 i)]
def E_sReadVar : Env := mkE [(5, [0, 1, 7, 8])] [(105, (sg [pI, pI, pI] [rB]), inSpec), (238, (sg [pI] [rS]), varTextSpec)]
def E_iReadVar : Env := mkE [(3, [0, 1, 7, 10])] [(125, (sg [pI, pI, pI] [rB]), inSpec), (136, (sg [pI] [rB]), isNumberSpec)]

end
end Go.Proofs.YtggmbjbmklimdaaGreatDoor.V

namespace Go.Proofs.YtggmbjbmklimdaaGreatDoor.V
set_option maxRecDepth 100000
theorem sVarText_tree (H : List Pt → Nat → St → T (List C)) (n : Int) : vBodyL E_sVarText noInl (sg [pI] [rS]) Tryz.f238 H [C.int IntKind.i64 n] =
 (.must true
 (.must true
  (.must true
   (.must true
    (.ask (inB n (0 : Int) (1000000000 : Int))
     (H [Pt.r, Pt.r, Pt.r, Pt.l, Pt.b] (9223372036854775808 : Nat) (H_sVarText (n) ((0 : Nat)) ([])))
     (.must true
      (.ret [C.str []]))))))) := by kernel_rfl
theorem iVarText_tree (H : List Pt → Nat → St → T (List C)) (n : Int) : vBodyL E_iVarText noInl (sg [pI] [rS]) Tryz.f264 H [C.int IntKind.i64 n] =
 (.must true
 (.must true
  (.must true
   (.must true
    (.ask (inB n (0 : Int) (1000000000 : Int))
     (H [Pt.r, Pt.r, Pt.r, Pt.l, Pt.b] (9223372036854775808 : Nat) (H_iVarText (n) ((0 : Nat)) ([])))
     (.must true
      (.ret [C.str []]))))))) := by kernel_rfl
theorem sVarText_round0 (H : List Pt → Nat → St → T (List C)) (n : Int) (q : Nat) (r : List (List C)) (k : Nat) : vRound E_sVarText noInl (sg [pI] [rS]) Tryz.f238 H [Pt.r, Pt.r, Pt.r, Pt.l, Pt.b] k (H_sVarText n q r) =
 (.ask (decide ((127 : Int) < n))
 (.must (decide (q = r.length) && roomy (r.length + (1 : Nat)) (1 : Nat) && (decide ((1 : Nat) = (1 : Nat)) && true))
  (.must true
   (H [Pt.r, Pt.r, Pt.r, Pt.l, Pt.b] k (H_sVarText (ishr IntKind.i64 n (7 : Int)) (r.length + (1 : Nat)) (r.append [[C.int IntKind.u8 (IntKind.u8.wrap (ior IntKind.i64 (iand IntKind.i64 n (127 : Int)) (128 : Int)))]])))))
 (.must (decide (q = r.length) && roomy (r.length + (1 : Nat)) (1 : Nat) && (decide ((1 : Nat) = (1 : Nat)) && true))
  (.must ((List.take (r.length + (1 : Nat)) (r.append [[C.int IntKind.u8 (IntKind.u8.wrap n)]])).all byteRow)
   (.must true
    (.ret [C.str (strOfRows (List.take (r.length + (1 : Nat)) (r.append [[C.int IntKind.u8 (IntKind.u8.wrap n)]])))]))))) := by kernel_rfl
theorem iVarText_round0 (H : List Pt → Nat → St → T (List C)) (n : Int) (q : Nat) (r : List (List C)) (k : Nat) : vRound E_iVarText noInl (sg [pI] [rS]) Tryz.f264 H [Pt.r, Pt.r, Pt.r, Pt.l, Pt.b] k (H_iVarText n q r) =
 (.ask (decide ((128 : Int) ≤ n))
 (.must (decide (q = r.length) && roomy (r.length + (1 : Nat)) (1 : Nat) && (decide ((1 : Nat) = (1 : Nat)) && true))
  (.must true
   (H [Pt.r, Pt.r, Pt.r, Pt.l, Pt.b] k (H_iVarText (ishr IntKind.i64 n (7 : Int)) (r.length + (1 : Nat)) (r.append [[C.int IntKind.u8 (ior IntKind.u8 (IntKind.u8.wrap n) (128 : Int))]])))))
 (.must (decide (q = r.length) && roomy (r.length + (1 : Nat)) (1 : Nat) && (decide ((1 : Nat) = (1 : Nat)) && true))
  (.must ((List.take (r.length + (1 : Nat)) (r.append [[C.int IntKind.u8 (IntKind.u8.wrap n)]])).all byteRow)
   (.must true
    (.ret [C.str (strOfRows (List.take (r.length + (1 : Nat)) (r.append [[C.int IntKind.u8 (IntKind.u8.wrap n)]])))]))))) := by kernel_rfl
theorem sReadVar_tree (H : List Pt → Nat → St → T (List C)) (b : List UInt8) (a : Int) : vBodyL E_sReadVar noInl (sg [pS, pI] [rI, rI, rB]) Tryz.f236 H [C.str b, C.int IntKind.i64 a] =
 (.must true
 (.must true
  (.must true
   (.must true
    (.ask (inB a (0 : Int) (↑b.length : Int))
     (H [Pt.r, Pt.r, Pt.r, Pt.l, Pt.r, Pt.b] (9223372036854775808 : Nat) (H_sReadVar (b) (a) ((0 : Int)) ((0 : Int))))
     (.must true
      (.ret [C.int IntKind.i64 (0 : Int), C.int IntKind.i64 (0 : Int), C.bool false]))))))) := by kernel_rfl
theorem iReadVar_tree (H : List Pt → Nat → St → T (List C)) (b : List UInt8) (a : Int) : vBodyL E_iReadVar noInl (sg [pS, pI] [rI, rI, rB]) Tryz.f245 H [C.str b, C.int IntKind.i64 a] =
 (.must true
 (H [Pt.r, Pt.r, Pt.l, Pt.r, Pt.b] (9223372036854775808 : Nat) (H_iReadVar (b) (a) ((0 : Int)) ((0 : Int))))) := by kernel_rfl
theorem sReadVar_round0 (H : List Pt → Nat → St → T (List C)) (b : List UInt8) (a : Int) (n : Int) (i : Int) (k : Nat) : vRound E_sReadVar noInl (sg [pS, pI] [rI, rI, rB]) Tryz.f236 H [Pt.r, Pt.r, Pt.r, Pt.l, Pt.r, Pt.b] k
  (H_sReadVar b a n i) =
 (.ask (decide (i < (5 : Int)))
 (.ask (decide (IntKind.i64.wrap (a + i) < (↑b.length : Int)))
  (.must (decide ((0 : Int) ≤ IntKind.i64.wrap (a + i)) && decide (IntKind.i64.wrap (a + i) < (↑b.length : Int)))
   (.must (decide ((0 : Int) ≤ IntKind.u64.wrap (IntKind.i64.wrap ((7 : Int) * i))))
    (.ask (decide (IntKind.i64.wrap (↑(b.getD (IntKind.i64.wrap (a + i)).toNat (0 : UInt8)).toNat : Int) < (128 : Int)))
     (.must true
      (.must true
       (.must true
        (.ask (varText
    (ior IntKind.i64 n
      (ishl IntKind.i64
        (iand IntKind.i64 (IntKind.i64.wrap (↑(b.getD (IntKind.i64.wrap (a + i)).toNat (0 : UInt8)).toNat : Int))
          (127 : Int))
        (IntKind.u64.wrap (IntKind.i64.wrap ((7 : Int) * i))))) ==
  [])
         (.must true
          (.ret [C.int IntKind.i64 (0 : Int), C.int IntKind.i64 (0 : Int), C.bool false]))
         (.must (decide ((0 : Int) ≤ IntKind.i64.wrap (IntKind.i64.wrap (a + i) + (1 : Int))) &&
    decide (IntKind.i64.wrap (IntKind.i64.wrap (a + i) + (1 : Int)) ≤ (↑b.length : Int)) &&
  (decide ((0 : Int) ≤ a) && decide (a ≤ IntKind.i64.wrap (IntKind.i64.wrap (a + i) + (1 : Int)))))
          (.ask (!varText
      (ior IntKind.i64 n
        (ishl IntKind.i64
          (iand IntKind.i64 (IntKind.i64.wrap (↑(b.getD (IntKind.i64.wrap (a + i)).toNat (0 : UInt8)).toNat : Int))
            (127 : Int))
          (IntKind.u64.wrap (IntKind.i64.wrap ((7 : Int) * i))))) ==
    List.drop a.toNat (List.take (IntKind.i64.wrap (IntKind.i64.wrap (a + i) + (1 : Int))).toNat b))
           (.must true
            (.ret [C.int IntKind.i64 (0 : Int), C.int IntKind.i64 (0 : Int), C.bool false]))
           (.must true
            (.ret [C.int IntKind.i64
    (ior IntKind.i64 n
      (ishl IntKind.i64
        (iand IntKind.i64 (IntKind.i64.wrap (↑(b.getD (IntKind.i64.wrap (a + i)).toNat (0 : UInt8)).toNat : Int))
          (127 : Int))
        (IntKind.u64.wrap (IntKind.i64.wrap ((7 : Int) * i))))),
  C.int IntKind.i64 (IntKind.i64.wrap (IntKind.i64.wrap (a + i) + (1 : Int))), C.bool true]))))))))
     (H [Pt.r, Pt.r, Pt.r, Pt.l, Pt.r, Pt.b] k (H_sReadVar (b) (a) (ior IntKind.i64 n
  (ishl IntKind.i64
    (iand IntKind.i64 (IntKind.i64.wrap (↑(b.getD (IntKind.i64.wrap (a + i)).toNat (0 : UInt8)).toNat : Int))
      (127 : Int))
    (IntKind.u64.wrap (IntKind.i64.wrap ((7 : Int) * i))))) (IntKind.i64.wrap (i + (1 : Int))))))))
  (.must true
   (.ret [C.int IntKind.i64 (0 : Int), C.int IntKind.i64 (0 : Int), C.bool false])))
 (.must true
  (.ret [C.int IntKind.i64 (0 : Int), C.int IntKind.i64 (0 : Int), C.bool false]))) := by kernel_rfl
theorem iReadVar_round0 (H : List Pt → Nat → St → T (List C)) (b : List UInt8) (a : Int) (n : Int) (i : Int) (k : Nat) : vRound E_iReadVar noInl (sg [pS, pI] [rI, rI, rB]) Tryz.f245 H [Pt.r, Pt.r, Pt.l, Pt.r, Pt.b] k (H_iReadVar b a n i) =
 (.ask (decide (i < (5 : Int)))
 (.must true
  (.must true
   (.must true
    (.ask (inB a (0 : Int) (IntKind.i64.wrap (IntKind.i64.wrap ((↑b.length : Int) - (1 : Int)) - i)))
     (.must (decide ((0 : Int) ≤ IntKind.i64.wrap (a + i)) && decide (IntKind.i64.wrap (a + i) < (↑b.length : Int)))
      (.must (decide ((0 : Int) ≤ IntKind.i64.wrap ((7 : Int) * i)))
       (.ask (decide ((128 : Int) ≤ IntKind.i64.wrap (↑(b.getD (IntKind.i64.wrap (a + i)).toNat (0 : UInt8)).toNat : Int)))
        (H [Pt.r, Pt.r, Pt.l, Pt.r, Pt.b] k (H_iReadVar (b) (a) (ior IntKind.i64 n
  (ishl IntKind.i64
    (iand IntKind.i64 (IntKind.i64.wrap (↑(b.getD (IntKind.i64.wrap (a + i)).toNat (0 : UInt8)).toNat : Int))
      (127 : Int))
    (IntKind.i64.wrap ((7 : Int) * i)))) (IntKind.i64.wrap (i + (1 : Int)))))
        (.ask (decide ((0 : Int) < i))
         (.ask (decide (IntKind.i64.wrap (↑(b.getD (IntKind.i64.wrap (a + i)).toNat (0 : UInt8)).toNat : Int) = (0 : Int)))
          (.must true
           (.ret [C.int IntKind.i64 (0 : Int), C.int IntKind.i64 (0 : Int), C.bool false]))
          (.must true
           (.must true
            (.must true
             (.ask (inB
  (ior IntKind.i64 n
    (ishl IntKind.i64
      (iand IntKind.i64 (IntKind.i64.wrap (↑(b.getD (IntKind.i64.wrap (a + i)).toNat (0 : UInt8)).toNat : Int))
        (127 : Int))
      (IntKind.i64.wrap ((7 : Int) * i))))
  (0 : Int) (1000000000 : Int))
              (.must true
               (.ret [C.int IntKind.i64
    (ior IntKind.i64 n
      (ishl IntKind.i64
        (iand IntKind.i64 (IntKind.i64.wrap (↑(b.getD (IntKind.i64.wrap (a + i)).toNat (0 : UInt8)).toNat : Int))
          (127 : Int))
        (IntKind.i64.wrap ((7 : Int) * i)))),
  C.int IntKind.i64 (IntKind.i64.wrap (IntKind.i64.wrap (a + i) + (1 : Int))), C.bool true]))
              (.must true
               (.ret [C.int IntKind.i64 (0 : Int), C.int IntKind.i64 (0 : Int), C.bool false])))))))
         (.must true
          (.must true
           (.must true
            (.ask (inB
  (ior IntKind.i64 n
    (ishl IntKind.i64
      (iand IntKind.i64 (IntKind.i64.wrap (↑(b.getD (IntKind.i64.wrap (a + i)).toNat (0 : UInt8)).toNat : Int))
        (127 : Int))
      (IntKind.i64.wrap ((7 : Int) * i))))
  (0 : Int) (1000000000 : Int))
             (.must true
              (.ret [C.int IntKind.i64
    (ior IntKind.i64 n
      (ishl IntKind.i64
        (iand IntKind.i64 (IntKind.i64.wrap (↑(b.getD (IntKind.i64.wrap (a + i)).toNat (0 : UInt8)).toNat : Int))
          (127 : Int))
        (IntKind.i64.wrap ((7 : Int) * i)))),
  C.int IntKind.i64 (IntKind.i64.wrap (IntKind.i64.wrap (a + i) + (1 : Int))), C.bool true]))
             (.must true
              (.ret [C.int IntKind.i64 (0 : Int), C.int IntKind.i64 (0 : Int), C.bool false]))))))))))
     (.must true
      (.ret [C.int IntKind.i64 (0 : Int), C.int IntKind.i64 (0 : Int), C.bool false]))))))
 (.must true
  (.ret [C.int IntKind.i64 (0 : Int), C.int IntKind.i64 (0 : Int), C.bool false]))) := by kernel_rfl
end Go.Proofs.YtggmbjbmklimdaaGreatDoor.V

namespace Go.Proofs.YtggmbjbmklimdaaGreatDoor.V

theorem iand127 (s : Int) : iand .i64 s 127 = s % 128 := by
  show IntKind.i64.wrap (((BitVec.ofInt 64 s &&& BitVec.ofInt 64 127).toNat : Nat) : Int) = _
  rw [BitVec.toNat_and]
  have h1 : (BitVec.ofInt 64 127).toNat = 2 ^ 7 - 1 := by decide
  have h2 : (BitVec.ofInt 64 s).toNat = (s % 18446744073709551616).toNat := by simp [BitVec.toNat_ofInt]
  rw [h1, h2, Nat.and_two_pow_sub_one_eq_mod, wrap64] <;> omega
theorem or128_fin : ∀ x : Fin 256, x.val ||| 128 = x.val % 128 + 128 := by decide +kernel
theorem ior8_128 (n : Nat) : ior .u8 (IntKind.u8.wrap (n : Int)) 128 = ((n % 128 + 128 : Nat) : Int) := by
  rw [wrapU8_mod]
  show IntKind.u8.wrap (((BitVec.ofInt 8 ((n : Int) % 256) ||| BitVec.ofInt 8 128).toNat : Nat) : Int) = _
  rw [BitVec.toNat_or]
  have h1 : (BitVec.ofInt 8 128).toNat = 128 := by decide
  have h2 : (BitVec.ofInt 8 ((n : Int) % 256)).toNat = n % 256 := by simp [BitVec.toNat_ofInt]; omega
  have h3 := or128_fin ⟨n % 256, by omega⟩
  simp only [] at h3
  rw [h1, h2, h3, wrapU8] <;> omega
theorem ior64_128 (n : Nat) : IntKind.u8.wrap (ior .i64 ((n % 128 : Nat) : Int) 128) = ((n % 128 + 128 : Nat) : Int) := by
  have := ior_shift (n % 128) 1 7 (by omega) (by omega) ((n % 128 : Nat) : Int) 128 (by omega) (by omega)
  rw [this, wrap64 (by omega) (by omega), wrapU8] <;> omega
theorem varBytes_one (f n : Nat) (h : n < 128) : varBytes (f + 1) n = [UInt8.ofNat n] := by simp [varBytes, h]
theorem varBytes_more (f n : Nat) (h : ¬ n < 128) : varBytes (f + 1) n = UInt8.ofNat (n % 128 + 128) :: varBytes f (n / 128) := by simp [varBytes, h]
theorem sVarText_loop : ∀ (f n m : Nat) (l : List UInt8), n < 128 ^ (f + 1) → n ≤ 1000000000 → l.length ≤ 100 - f → f ≤ 100 → f < m →
    (vLoop E_sVarText noInl (sg [pI] [rS]) Tryz.f238 [.r, .r, .r, .l, .b] m (H_sVarText n l.length (rowsOfStr l))).eval = some [.str (l ++ varBytes (f + 1) n)] := by
  intro f
  induction f with
  | zero =>
    intro n m l h1 hn h2 h3 h4
    cases m with
    | zero => omega
    | succ m =>
      rw [vLoop_L _ _ _ _ _ _ _ (by kernel_rfl), sVarText_round0]
      have c : ¬ ((127 : Int) < (n : Int)) := by omega
      have hr : roomy (l.length + 1) 1 = true := by simp only [roomy, decide_eq_true_eq]; omega
      have u : IntKind.u8.wrap (n : Int) = (n : Nat) := by rw [wrapU8] <;> omega
      have tk : (rowsOfStr (l ++ [UInt8.ofNat n])).take (l.length + 1) = rowsOfStr (l ++ [UInt8.ofNat n]) := List.take_of_length_le (by rw [rows_length]; simp)
      simp only [eval_must', eval_ask', eval_ret', if_true, decide_eq_true_eq, Bool.and_eq_true, c, if_false, rows_length, hr, and_self, u, row_append l n (by omega), tk, rows_bytes, str_rows, varBytes_one 0 n (by omega)]
  | succ f ih =>
    intro n m l h1 hn h2 h3 h4
    cases m with
    | zero => omega
    | succ m =>
      rw [vLoop_L _ _ _ _ _ _ _ (by kernel_rfl), sVarText_round0]
      have hr : roomy (l.length + 1) 1 = true := by simp only [roomy, decide_eq_true_eq]; omega
      by_cases hc : n < 128
      · have c : ¬ ((127 : Int) < (n : Int)) := by omega
        have u : IntKind.u8.wrap (n : Int) = (n : Nat) := by rw [wrapU8] <;> omega
        have tk : (rowsOfStr (l ++ [UInt8.ofNat n])).take (l.length + 1) = rowsOfStr (l ++ [UInt8.ofNat n]) := List.take_of_length_le (by rw [rows_length]; simp)
        simp only [eval_must', eval_ask', eval_ret', if_true, decide_eq_true_eq, Bool.and_eq_true, c, if_false, rows_length, hr, and_self, u, row_append l n (by omega), tk, rows_bytes, str_rows, varBytes_one _ n hc]
      · have c : (127 : Int) < (n : Int) := by omega
        have d : ishr .i64 (n : Int) 7 = ((n / 128 : Nat) : Int) := ishr64_nat n 7 (by omega)
        have i1 : iand .i64 (n : Int) 127 = ((n % 128 : Nat) : Int) := by rw [iand127]; omega
        have e := ih (n / 128) m (l ++ [UInt8.ofNat (n % 128 + 128)]) (by rw [Nat.pow_succ] at h1; exact Nat.div_lt_of_lt_mul (by omega)) (by omega) (by simp; omega) (by omega) (by omega)
        rw [varBytes_more _ n hc]
        simp only [eval_must', eval_ask', eval_ret', if_true, decide_eq_true_eq, Bool.and_eq_true, c, rows_length, hr, and_self, d, i1, ior64_128, ior8_128, row_append l (n % 128 + 128) (by omega)]
        rw [List.length_append, List.append_assoc] at e
        exact e
theorem sVarText_E : EnvSound Tryz.prog E_sVarText := mkE_sound (by simp [sIn_sound])
theorem sVarText_sound : Sound Tryz.prog 238 (sg [pI] [rS]) varTextSpec := vBody_sound sVarText_E noInl_ok Tryz.func238 (by kernel_rfl) fun cs outs hk h => by
  unfold varTextSpec at h
  split at h
  · simp only [Option.some.injEq, Prod.mk.injEq, true_and] at h
    rename_i n
    rw [← h, vBody_L, sVarText_tree]
    by_cases hn : inB n 0 1000000000 = true
    · have hn' := (in_iff _ _ _).1 hn
      obtain ⟨n, rfl⟩ := Int.eq_ofNat_of_zero_le hn'.1
      have lp := sVarText_loop 4 n 9223372036854775808 [] (by omega) (by omega) (by simp) (by omega) (by omega)
      simp only [eval_must', eval_ask', if_true, hn, varText, Int.toNat_natCast]
      exact lp
    · simp [eval_must', eval_ask', eval_ret', hn, varText]
  · cases h
theorem iVarText_loop : ∀ (f n m : Nat) (l : List UInt8), n < 128 ^ (f + 1) → n ≤ 1000000000 → l.length ≤ 100 - f → f ≤ 100 → f < m →
    (vLoop E_iVarText noInl (sg [pI] [rS]) Tryz.f264 [.r, .r, .r, .l, .b] m (H_iVarText n l.length (rowsOfStr l))).eval = some [.str (l ++ varBytes (f + 1) n)] := by
  intro f
  induction f with
  | zero =>
    intro n m l h1 hn h2 h3 h4
    cases m with
    | zero => omega
    | succ m =>
      rw [vLoop_L _ _ _ _ _ _ _ (by kernel_rfl), iVarText_round0]
      have c : ¬ ((128 : Int) ≤ (n : Int)) := by omega
      have hr : roomy (l.length + 1) 1 = true := by simp only [roomy, decide_eq_true_eq]; omega
      have u : IntKind.u8.wrap (n : Int) = (n : Nat) := by rw [wrapU8] <;> omega
      have tk : (rowsOfStr (l ++ [UInt8.ofNat n])).take (l.length + 1) = rowsOfStr (l ++ [UInt8.ofNat n]) := List.take_of_length_le (by rw [rows_length]; simp)
      simp only [eval_must', eval_ask', eval_ret', if_true, decide_eq_true_eq, Bool.and_eq_true, c, if_false, rows_length, hr, and_self, u, row_append l n (by omega), tk, rows_bytes, str_rows, varBytes_one 0 n (by omega)]
  | succ f ih =>
    intro n m l h1 hn h2 h3 h4
    cases m with
    | zero => omega
    | succ m =>
      rw [vLoop_L _ _ _ _ _ _ _ (by kernel_rfl), iVarText_round0]
      have hr : roomy (l.length + 1) 1 = true := by simp only [roomy, decide_eq_true_eq]; omega
      by_cases hc : n < 128
      · have c : ¬ ((128 : Int) ≤ (n : Int)) := by omega
        have u : IntKind.u8.wrap (n : Int) = (n : Nat) := by rw [wrapU8] <;> omega
        have tk : (rowsOfStr (l ++ [UInt8.ofNat n])).take (l.length + 1) = rowsOfStr (l ++ [UInt8.ofNat n]) := List.take_of_length_le (by rw [rows_length]; simp)
        simp only [eval_must', eval_ask', eval_ret', if_true, decide_eq_true_eq, Bool.and_eq_true, c, if_false, rows_length, hr, and_self, u, row_append l n (by omega), tk, rows_bytes, str_rows, varBytes_one _ n hc]
      · have c : (128 : Int) ≤ (n : Int) := by omega
        have d : ishr .i64 (n : Int) 7 = ((n / 128 : Nat) : Int) := ishr64_nat n 7 (by omega)
        have i1 : iand .i64 (n : Int) 127 = ((n % 128 : Nat) : Int) := by rw [iand127]; omega
        have e := ih (n / 128) m (l ++ [UInt8.ofNat (n % 128 + 128)]) (by rw [Nat.pow_succ] at h1; exact Nat.div_lt_of_lt_mul (by omega)) (by omega) (by simp; omega) (by omega) (by omega)
        rw [varBytes_more _ n hc]
        simp only [eval_must', eval_ask', eval_ret', if_true, decide_eq_true_eq, Bool.and_eq_true, c, rows_length, hr, and_self, d, i1, ior64_128, ior8_128, row_append l (n % 128 + 128) (by omega)]
        rw [List.length_append, List.append_assoc] at e
        exact e
theorem iVarText_E : EnvSound Tryz.prog E_iVarText := mkE_sound (by simp [iIsNumber_sound])
theorem iVarText_sound : Sound Tryz.prog 264 (sg [pI] [rS]) varTextSpec := vBody_sound iVarText_E noInl_ok Tryz.func264 (by kernel_rfl) fun cs outs hk h => by
  unfold varTextSpec at h
  split at h
  · simp only [Option.some.injEq, Prod.mk.injEq, true_and] at h
    rename_i n
    rw [← h, vBody_L, iVarText_tree]
    by_cases hn : inB n 0 1000000000 = true
    · have hn' := (in_iff _ _ _).1 hn
      obtain ⟨n, rfl⟩ := Int.eq_ofNat_of_zero_le hn'.1
      have lp := iVarText_loop 4 n 9223372036854775808 [] (by omega) (by omega) (by simp) (by omega) (by omega)
      simp only [eval_must', eval_ask', if_true, hn, varText, Int.toNat_natCast]
      exact lp
    · simp [eval_must', eval_ask', eval_ret', hn, varText]
  · cases h

/-- the value of bytes that go on, and of what is behind them -/
def valC : List UInt8 → Nat → Nat
  | [], x => x
  | c :: cs, x => (c.toNat - 128) + 128 * valC cs x
def rvOut : Option (Nat × Nat) → List C
  | some p => [.int .i64 p.1, .int .i64 p.2, .bool true]
  | none => [.int .i64 0, .int .i64 0, .bool false]
theorem valC_lin : ∀ (cs : List UInt8) (x : Nat), valC cs x = valC cs 0 + x * 128 ^ cs.length
  | [], x => by simp [valC]
  | c :: cs, x => by
    have := valC_lin cs x
    simp only [valC, List.length_cons, Nat.pow_succ, this]
    rw [Nat.mul_add, ← Nat.add_assoc, Nat.mul_left_comm, Nat.mul_comm 128 (128 ^ cs.length)]
theorem valC_snoc : ∀ (cs : List UInt8) (c : UInt8) (x : Nat), valC (cs ++ [c]) x = valC cs (c.toNat - 128 + 128 * x)
  | [], c, x => by simp [valC]
  | d :: cs, c, x => by simp only [List.cons_append, valC, valC_snoc cs c x]
theorem valC_lt : ∀ (cs : List UInt8), valC cs 0 < 128 ^ cs.length
  | [] => by simp [valC]
  | c :: cs => by
    have := valC_lt cs
    have hc := c.toNat_lt
    simp only [valC, List.length_cons, Nat.pow_succ]
    omega
theorem varBytes_valC : ∀ (cs : List UInt8) (x f : Nat), (∀ c, c ∈ cs → 128 ≤ c.toNat) → x < 128 → (cs = [] ∨ 0 < x) → cs.length < f → varBytes f (valC cs x) = cs ++ [UInt8.ofNat x]
  | [], x, f, _, hx, _, hf => by
    obtain ⟨g, rfl⟩ : ∃ g, f = g + 1 := ⟨f - 1, by simp at hf; omega⟩
    exact varBytes_one g x hx
  | c :: cs, x, f, hc, hx, h0, hf => by
    obtain ⟨g, rfl⟩ : ∃ g, f = g + 1 := ⟨f - 1, by simp at hf; omega⟩
    have hx0 : 0 < x := by rcases h0 with h | h; cases h; exact h
    have c1 := hc c List.mem_cons_self
    have c2 := c.toNat_lt
    have hv : 0 < valC cs x := by
      rw [valC_lin]
      have : 0 < 128 ^ cs.length := Nat.pow_pos (by omega)
      have : 0 < x * 128 ^ cs.length := Nat.mul_pos hx0 this
      omega
    have e1 : ((c.toNat - 128) + 128 * valC cs x) % 128 + 128 = c.toNat := by omega
    have e2 : ((c.toNat - 128) + 128 * valC cs x) / 128 = valC cs x := by omega
    simp only [valC]
    rw [varBytes_more g _ (by omega), e1, e2, varBytes_valC cs x g (fun d hd => hc d (List.mem_cons_of_mem _ hd)) hx (.inr hx0) (by simp at hf; omega)]
    simp
theorem varBytes_ne0 : ∀ (f n : Nat) (l : List UInt8), 1 ≤ n → varBytes f n ≠ l ++ [0]
  | 0, n, l, _ => by simp [varBytes]
  | f + 1, n, l, hn => by
    by_cases h : n < 128
    · rw [varBytes_one f n h]
      intro e
      cases l with
      | nil =>
        simp at e
        have := congrArg UInt8.toNat e
        rw [UInt8.toNat_ofNat_of_lt' (by show n < 256; omega)] at this
        have h0 : (0 : UInt8).toNat = 0 := rfl
        omega
      | cons a l => simp at e
    · rw [varBytes_more f n h]
      intro e
      cases l with
      | nil =>
        rw [List.nil_append, List.cons.injEq] at e
        have h1 := congrArg UInt8.toNat e.1
        rw [UInt8.toNat_ofNat_of_lt' (by show n % 128 + 128 < 256; omega)] at h1
        have h0 : (0 : UInt8).toNat = 0 := rfl
        omega
      | cons a l =>
        simp at e
        exact varBytes_ne0 f (n / 128) l (by omega) e.2
theorem rv_outs (b : List UInt8) (a : Int) : [C.int .i64 (rvN b a), C.int .i64 (rvEnd b a), C.bool (rvOk b a)] = rvOut (readVar b a) := by
  unfold rvN rvEnd rvOk
  cases readVar b a with
  | none => rfl
  | some p => rfl
theorem ior_var (n x i : Nat) (hn : n < 128 ^ i) (hx : x < 256) (hi : i < 5) : ior .i64 (n : Int) (ishl .i64 (iand .i64 (x : Int) 127) ((7 * i : Nat) : Int)) = ((n + x % 128 * 128 ^ i : Nat) : Int) := by
  have hp : (2 : Nat) ^ (7 * i) = 128 ^ i := by rw [Nat.pow_mul]
  have hq : 128 ^ i ≤ 128 ^ 4 := Nat.pow_le_pow_right (by omega) (by omega)
  have hm := ishl64_mod (iand .i64 (x : Int) 127) (7 * i) (by omega)
  have i1 : iand .i64 (x : Int) 127 = ((x % 128 : Nat) : Int) := by rw [iand127]; omega
  have hmul : x % 128 * 128 ^ i ≤ 127 * 128 ^ i := Nat.mul_le_mul_right _ (by omega)
  rw [i1] at hm ⊢
  have hp2 : ((x % 128 : Nat) : Int) * 2 ^ (7 * i) = ((x % 128 * 128 ^ i : Nat) : Int) := by rw [← hp]; simp
  rw [hp2] at hm
  have := ior_shift n (x % 128) (7 * i) (by rw [hp]; exact hn) (by rw [hp]; omega) (n : Int) (ishl .i64 ((x % 128 : Nat) : Int) ((7 * i : Nat) : Int)) (by omega) (by rw [hm, hp]; omega)
  rw [this, hp, wrap64 (by omega) (by omega)]
theorem iReadVar_loop (b : List UInt8) (a : Nat) (hb : b.length ≤ 281474976710656) (ha : a ≤ 9223372036854775807) : ∀ (m i n : Nat), i ≤ 5 → 5 < i + m → n < 128 ^ i →
    (vLoop E_iReadVar noInl (sg [pS, pI] [rI, rI, rB]) Tryz.f245 [.r, .r, .l, .r, .b] m (H_iReadVar b a n i)).eval = some (rvOut (rvGo b a (5 - i) i n)) := by
  intro m
  induction m with
  | zero => intro i n h1 h2 h3; omega
  | succ m ih =>
    intro i n h1 h2 h3
    rw [vLoop_L _ _ _ _ _ _ _ (by kernel_rfl), iReadVar_round0]
    by_cases hi : i < 5
    · have hs : 5 - i = (5 - (i + 1)) + 1 := by omega
      have w1 : IntKind.i64.wrap (IntKind.i64.wrap ((b.length : Int) - 1) - i) = (b.length : Int) - 1 - i := by
        rw [wrap64 (x := (b.length : Int) - 1) (by omega) (by omega), wrap64 (by omega) (by omega)]
      have w2 : IntKind.i64.wrap ((i : Int) + 1) = ((i + 1 : Nat) : Int) := by rw [wrap64] <;> omega
      have hi' : (i : Int) < 5 := by omega
      rw [hs]
      simp only [rvGo]
      by_cases hl : a + i < b.length
      · have hin : inB (a : Int) 0 ((b.length : Int) - 1 - i) = true := (in_iff _ _ _).2 ⟨by omega, by omega⟩
        have w3 : IntKind.i64.wrap ((a : Int) + i) = ((a + i : Nat) : Int) := by rw [wrap64] <;> omega
        have w4 : IntKind.i64.wrap (7 * (i : Int)) = ((7 * i : Nat) : Int) := by rw [wrap64] <;> omega
        have z1 : (0 : Int) ≤ ((a + i : Nat) : Int) := by omega
        have z2 : (0 : Int) ≤ ((7 * i : Nat) : Int) := by omega
        have hx := byte_lt b (a + i)
        have w5 : IntKind.i64.wrap ((b.getD (a + i) 0).toNat : Int) = ((b.getD (a + i) 0).toNat : Int) := by rw [wrap64] <;> omega
        have w6 : IntKind.i64.wrap (((a + i : Nat) : Int) + 1) = ((a + i + 1 : Nat) : Int) := by rw [wrap64] <;> omega
        have ho := ior_var n _ i h3 hx hi
        simp only [eval_must', eval_ask', eval_ret', if_true, decide_eq_true_eq, Bool.and_eq_true, hi', w1, w2, w3, w4, w5, w6, hin, z1, z2, hl, Int.toNat_natCast, Int.ofNat_lt, and_self, ho]
        generalize (b.getD (a + i) 0).toNat = x at *
        have hpow : (0 : Nat) < 128 ^ i := Nat.pow_pos (by omega)
        by_cases hc : 128 ≤ x
        · have hm : x % 128 = x - 128 := by omega
          have e := ih (i + 1) (n + (x - 128) * 128 ^ i) (by omega) (by omega) (by
            have : (x - 128) * 128 ^ i ≤ 127 * 128 ^ i := Nat.mul_le_mul_right _ (by omega)
            rw [Nat.pow_succ]; omega)
          rw [if_pos (show (128 : Int) ≤ (x : Int) by omega), if_neg (show ¬ x < 128 by omega), hm]
          exact e
        · have hm : x % 128 = x := by omega
          rw [if_neg (show ¬ (128 : Int) ≤ (x : Int) by omega), if_pos (show x < 128 by omega), hm]
          by_cases h0 : 0 < i ∧ x = 0
          · have hip : ((0 : Int) < i) = True := eq_true (by omega)
            have hx0 : ((x : Int) = 0) = True := eq_true (by omega)
            simp only [hip, hx0, if_true]
            rw [if_pos (c := (i > 0 ∧ x = 0 ∨ _)) (.inl ⟨h0.1, h0.2⟩)]
            rfl
          · have hinn : inB ((n + x * 128 ^ i : Nat) : Int) 0 1000000000 = true ↔ ¬ 1000000000 < n + x * 128 ^ i := by rw [in_iff]; omega
            have fin : (if inB ((n + x * 128 ^ i : Nat) : Int) 0 1000000000 = true then some [C.int .i64 ((n + x * 128 ^ i : Nat) : Int), C.int .i64 ((a + i + 1 : Nat) : Int), C.bool true] else some [C.int .i64 0, C.int .i64 0, C.bool false]) = some (rvOut (if i > 0 ∧ x = 0 ∨ 1000000000 < n + x * 128 ^ i then none else some (n + x * 128 ^ i, a + i + 1))) := by
              by_cases hg : 1000000000 < n + x * 128 ^ i
              · rw [if_neg (fun h => (hinn.1 h) hg), if_pos (.inr hg)]; rfl
              · rw [if_pos (hinn.2 hg), if_neg (by omega)]; rfl
            by_cases hip : (0 : Int) < i
            · have hx0 : ¬ ((x : Int) = 0) := by omega
              rw [if_pos hip, if_neg hx0]
              exact fin
            · rw [if_neg hip]
              exact fin
      · have hin : ¬ (inB (a : Int) 0 ((b.length : Int) - 1 - i) = true) := fun h => by have := (in_iff _ _ _).1 h; omega
        simp only [eval_must', eval_ask', eval_ret', if_true, decide_eq_true_eq, hi', w1, hin, hl, if_false]
        rfl
    · have : i = 5 := by omega
      subst this
      simp [eval_must', eval_ask', eval_ret', rvGo, rvOut]
theorem iReadVar_E : EnvSound Tryz.prog E_iReadVar := mkE_sound (by simp [iIn_sound, iIsNumber_sound])
theorem iReadVar_sound : Sound Tryz.prog 245 (sg [pS, pI] [rI, rI, rB]) readVarSpec := vBody_sound iReadVar_E noInl_ok Tryz.func245 (by kernel_rfl) fun cs outs hk h => by
  unfold readVarSpec at h
  split at h
  · simp only [Option.some.injEq, Prod.mk.injEq, Bool.and_eq_true, decide_eq_true_eq] at h
    obtain ⟨⟨h1, h2, h3⟩, rfl⟩ := h
    rename_i b a
    rw [vBody_L, iReadVar_tree, rv_outs]
    simp only [eval_must', if_true]
    by_cases ha : 0 ≤ a
    · obtain ⟨a, rfl⟩ := Int.eq_ofNat_of_zero_le ha
      have := iReadVar_loop b a h1 (by omega) 9223372036854775808 0 0 (by omega) (by omega) (by omega)
      simp only [readVar, ha, if_true, Int.toNat_natCast]
      exact this
    · rw [vLoop_L _ _ _ _ _ 9223372036854775807 _ (by kernel_rfl), iReadVar_round0]
      have hin : ¬ (inB a 0 (IntKind.i64.wrap (IntKind.i64.wrap ((b.length : Int) - 1) - 0)) = true) := fun h => by have := (in_iff _ _ _).1 h; omega
      simp only [eval_must', eval_ask', eval_ret', if_true, hin, readVar, ha, if_false, decide_eq_true_eq]
      rfl
  · cases h
theorem sReadVar_loop (b : List UInt8) (a : Nat) (hb : b.length ≤ 281474976710656) (ha : a ≤ b.length) : ∀ (m i : Nat), i ≤ 5 → 5 < i + m → a + i ≤ b.length → (∀ c, c ∈ (b.drop a).take i → 128 ≤ c.toNat) →
    (vLoop E_sReadVar noInl (sg [pS, pI] [rI, rI, rB]) Tryz.f236 [.r, .r, .r, .l, .r, .b] m (H_sReadVar b a (valC ((b.drop a).take i) 0 : Nat) i)).eval = some (rvOut (rvGo b a (5 - i) i (valC ((b.drop a).take i) 0))) := by
  intro m
  induction m with
  | zero => intro i h1 h2 h3 h4; omega
  | succ m ih =>
    intro i h1 h2 h3 h4
    rw [vLoop_L _ _ _ _ _ _ _ (by kernel_rfl), sReadVar_round0]
    by_cases hi : i < 5
    · have hs : 5 - i = (5 - (i + 1)) + 1 := by omega
      have w2 : IntKind.i64.wrap ((i : Int) + 1) = ((i + 1 : Nat) : Int) := by rw [wrap64] <;> omega
      have w3 : IntKind.i64.wrap ((a : Int) + i) = ((a + i : Nat) : Int) := by rw [wrap64] <;> omega
      have hi' : (i : Int) < 5 := by omega
      have hlen : ((b.drop a).take i).length = i := by simp; omega
      rw [hs]
      simp only [rvGo]
      by_cases hl : a + i < b.length
      · have w4 : IntKind.i64.wrap (7 * (i : Int)) = ((7 * i : Nat) : Int) := by rw [wrap64] <;> omega
        have w4u : IntKind.u64.wrap ((7 * i : Nat) : Int) = ((7 * i : Nat) : Int) := by rw [wrapU64] <;> omega
        have z1 : (0 : Int) ≤ ((a + i : Nat) : Int) := by omega
        have z2 : (0 : Int) ≤ ((7 * i : Nat) : Int) := by omega
        have hx := byte_lt b (a + i)
        have w5 : IntKind.i64.wrap ((b.getD (a + i) 0).toNat : Int) = ((b.getD (a + i) 0).toNat : Int) := by rw [wrap64] <;> omega
        have w6 : IntKind.i64.wrap (((a + i : Nat) : Int) + 1) = ((a + i + 1 : Nat) : Int) := by rw [wrap64] <;> omega
        have hlt := valC_lt ((b.drop a).take i)
        rw [hlen] at hlt
        have ho := ior_var _ _ i hlt hx hi
        have ee : (b.drop a).take (i + 1) = (b.drop a).take i ++ [b.getD (a + i) 0] := by
          rw [List.take_add_one]
          simp [List.getElem?_drop, List.getD_eq_getElem?_getD, hl]
        have ed : (b.take (a + i + 1)).drop a = (b.drop a).take i ++ [b.getD (a + i) 0] := by
          rw [← ee, List.take_drop]
          first | rfl | (congr 2; omega)
        have z3 : ((a + i + 1 : Nat) : Int) ≤ (b.length : Int) := by omega
        have z4 : (0 : Int) ≤ ((a + i + 1 : Nat) : Int) := by omega
        have z5 : (a : Int) ≤ ((a + i + 1 : Nat) : Int) := by omega
        have z6 : (0 : Int) ≤ (a : Int) := by omega
        have hl' : ((a + i : Nat) : Int) < (b.length : Int) := by omega
        simp only [eval_must', eval_ask', eval_ret', if_true, decide_eq_true_eq, Bool.and_eq_true, hi', w2, w3, w4, w4u, w5, w6, z1, z2, z3, z4, z5, z6, hl, hl', Int.toNat_natCast, and_self, ho, ed]
        by_cases hc : (b.getD (a + i) 0).toNat < 128
        · have hm : (b.getD (a + i) 0).toNat % 128 = (b.getD (a + i) 0).toNat := by omega
          have hlin := valC_lin ((b.drop a).take i) (b.getD (a + i) 0).toNat
          rw [hlen] at hlin
          rw [if_pos (by omega), if_pos hc, hm, ← hlin]
          have hvb := varBytes_valC ((b.drop a).take i) (b.getD (a + i) 0).toNat 5 h4 hc
          have hof : UInt8.ofNat (b.getD (a + i) 0).toNat = b.getD (a + i) 0 := by simp
          rw [hof, hlen] at hvb
          by_cases hg : 1000000000 < valC ((b.drop a).take i) (b.getD (a + i) 0).toNat
          · have hvt : varText ((valC ((b.drop a).take i) (b.getD (a + i) 0).toNat : Nat) : Int) = [] := by
              unfold varText; rw [if_neg]; intro h; have := (in_iff _ _ _).1 h; omega
            rw [hvt, if_pos (by rfl), if_pos (.inr hg)]
            rfl
          · have hvt : varText ((valC ((b.drop a).take i) (b.getD (a + i) 0).toNat : Nat) : Int) = varBytes 5 (valC ((b.drop a).take i) (b.getD (a + i) 0).toNat) := by
              unfold varText; rw [if_pos ((in_iff _ _ _).2 ⟨by omega, by omega⟩), Int.toNat_natCast]
            rw [hvt]
            by_cases h0 : 0 < i ∧ (b.getD (a + i) 0).toNat = 0
            · rw [if_pos (c := (i > 0 ∧ (b.getD (a + i) 0).toNat = 0 ∨ _)) (.inl ⟨h0.1, h0.2⟩)]
              have hb0 : b.getD (a + i) 0 = 0 := by have := h0.2; exact UInt8.toNat_inj.1 (by simpa using this)
              have hne : varBytes 5 (valC ((b.drop a).take i) (b.getD (a + i) 0).toNat) ≠ (b.drop a).take i ++ [b.getD (a + i) 0] := by
                rw [hb0]
                by_cases hv : 1 ≤ valC ((b.drop a).take i) (0 : UInt8).toNat
                · exact varBytes_ne0 5 _ _ hv
                · have : valC ((b.drop a).take i) (0 : UInt8).toNat = 0 := by omega
                  rw [this]
                  intro e
                  have := congrArg List.length e
                  rw [varBytes_one 4 0 (by omega)] at this
                  simp at this
                  omega
              have hb1 : (varBytes 5 (valC ((b.drop a).take i) (b.getD (a + i) 0).toNat) == (b.drop a).take i ++ [b.getD (a + i) 0]) = false := by simpa using hne
              rw [hb1]
              split <;> rfl
            · have hvb2 := hvb (by
                by_cases h : i = 0
                · left; exact List.length_eq_zero_iff.1 (by rw [hlen]; exact h)
                · right; omega) (by omega)
              rw [hvb2]
              have hnil : ((b.drop a).take i ++ [b.getD (a + i) 0] == ([] : List UInt8)) = false := by
                rw [beq_eq_false_iff_ne]; simp
              have hcond : ¬ (i > 0 ∧ (b.getD (a + i) 0).toNat = 0 ∨ 1000000000 < valC ((b.drop a).take i) (b.getD (a + i) 0).toNat) := by omega
              rw [hnil, if_neg hcond]
              simp [rvOut]
        · have hm : (b.getD (a + i) 0).toNat % 128 = (b.getD (a + i) 0).toNat - 128 := by omega
          have hsn := valC_snoc ((b.drop a).take i) (b.getD (a + i) 0) 0
          rw [Nat.mul_zero, Nat.add_zero, valC_lin ((b.drop a).take i) ((b.getD (a + i) 0).toNat - 128), hlen] at hsn
          have e := ih (i + 1) (by omega) (by omega) (by omega) (by
            rw [ee]
            intro c hcm
            rcases List.mem_append.1 hcm with h | h
            · exact h4 c h
            · have : c = b.getD (a + i) 0 := by simpa using h
              rw [this]; omega)
          rw [ee, hsn] at e
          rw [if_neg (by omega), if_neg hc, hm]
          exact e
      · have hl' : ¬ (((a + i : Nat) : Int) < (b.length : Int)) := by omega
        simp only [eval_must', eval_ask', eval_ret', if_true, decide_eq_true_eq, hi', w3, hl', hl, if_false]
        rfl
    · have : i = 5 := by omega
      subst this
      simp [eval_must', eval_ask', eval_ret', rvGo, rvOut]
theorem sReadVar_E : EnvSound Tryz.prog E_sReadVar := mkE_sound (by simp [sIn_sound, sVarText_sound])
theorem sReadVar_sound : Sound Tryz.prog 236 (sg [pS, pI] [rI, rI, rB]) readVarSpec := vBody_sound sReadVar_E noInl_ok Tryz.func236 (by kernel_rfl) fun cs outs hk h => by
  unfold readVarSpec at h
  split at h
  · simp only [Option.some.injEq, Prod.mk.injEq, Bool.and_eq_true, decide_eq_true_eq] at h
    obtain ⟨⟨h1, h2, h3⟩, rfl⟩ := h
    rename_i b a
    rw [vBody_L, sReadVar_tree, rv_outs]
    by_cases hin : inB a 0 (b.length : Int) = true
    · have ha := (in_iff _ _ _).1 hin
      obtain ⟨a, rfl⟩ := Int.eq_ofNat_of_zero_le ha.1
      have := sReadVar_loop b a h1 (by omega) 9223372036854775808 0 (by omega) (by omega) (by omega) (by simp)
      simp only [eval_must', eval_ask', if_true, hin, readVar, ha.1, Int.toNat_natCast]
      exact this
    · simp only [eval_must', eval_ask', eval_ret', if_true, hin, readVar]
      by_cases ha : 0 ≤ a
      · have : ¬ (a.toNat + 0 < b.length) := fun h => hin ((in_iff _ _ _).2 ⟨ha, by omega⟩)
        simp only [ha, if_true, rvGo, this, if_false]
        rfl
      · simp only [ha, if_false]
        rfl
  · cases h

end Go.Proofs.YtggmbjbmklimdaaGreatDoor.V

namespace Go.Proofs.YtggmbjbmklimdaaGreatDoor.V
noncomputable section

def prefixOf (b t : List UInt8) : Bool := decide (b.take t.length = t)
def prefixSpec : Spec := fun cs => match cs with
  | [.str b, .str t] => some (true, [.bool (prefixOf b t)])
  | _ => none
def E_slHasPrefix : Env := mkE [] []
def E_sHasPrefix : Env := mkE [] [(254, (sg [pS, pS] [rB]), prefixSpec)]

/-- does a text stand there? -/
def hasAt (b : List UInt8) (at' : Int) (t : List UInt8) : Bool := decide (0 ≤ at' ∧ at' ≤ b.length ∧ (b.drop at'.toNat).take t.length = t)
def hasAtSpec : Spec := fun cs => match cs with
  | [.str b, .int .i64 a, .str t] => some (true, [.bool (hasAt b a t)])
  | _ => none
def E_iHasAt : Env := mkE [] [(125, (sg [pI, pI, pI] [rB]), inSpec), (209, (sg [pS, pS] [rB]), prefixSpec)]

def sizedOf (place n : Int) : List UInt8 := fixOf n 4 ++ fixOf (crcMore 0 (fixOf place 8 ++ fixOf n 4) : Nat) 4
def frameText (v place : Int) (r : List UInt8) : List UInt8 :=
  if inB v 1 2 && inB place 0 1000000000 && decide (r.length ≤ 60) then (if v = 2 then sizedOf place r.length else varText r.length) ++ r ++ fixOf (crcMore 0 r : Nat) 4 else []
def endMark (v place : Int) : List UInt8 :=
  if inB v 1 2 && inB place 0 1000000000 then (if v = 1 then [255, 255, 255, 255, 15] else sizedOf place 4294967295) else []
def markAt (v place : Int) (b : List UInt8) (a : Int) : Bool := decide (endMark v place ≠ []) && hasAt b a (endMark v place)
def sizedSpec : Spec := fun cs => match cs with
  | [.int .i64 p, .int .i64 n] => some (decide (-9223372036854775808 ≤ p) && decide (p ≤ 9223372036854775807) && (decide (-9223372036854775808 ≤ n) && decide (n ≤ 9223372036854775807)), [.str (sizedOf p n)])
  | _ => none
def frameSpec : Spec := fun cs => match cs with
  | [.int .i64 v, .int .i64 p, .str r] => some (decide (r.length ≤ 281474976710656), [.str (frameText v p r)])
  | _ => none
def endMarkSpec : Spec := fun cs => match cs with
  | [.int .i64 v, .int .i64 p] => some (true, [.str (endMark v p)])
  | _ => none
def markAtSpec : Spec := fun cs => match cs with
  | [.int .i64 v, .int .i64 p, .str b, .int .i64 a] => some (decide (b.length ≤ 281474976710656), [.bool (markAt v p b a)])
  | _ => none
def E_iSized : Env := mkE [] [(263, (sg [pS] [rI]), sumOfSpec), (247, (sg [pI, pI] [rS]), fixSpec)]
def E_sFrameText : Env := mkE [] [(105, (sg [pI, pI, pI] [rB]), inSpec), (237, (sg [pS] [rI]), sumOfSpec), (232, (sg [pI, pI] [rS]), fixSpec), (238, (sg [pI] [rS]), varTextSpec)]
def E_iFrameText : Env := mkE [] [(114, (sg [pI] [rB]), isVersionSpec), (263, (sg [pS] [rI]), sumOfSpec), (136, (sg [pI] [rB]), isNumberSpec), (247, (sg [pI, pI] [rS]), fixSpec), (264, (sg [pI] [rS]), varTextSpec), (265, (sg [pI, pI] [rS]), sizedSpec)]
def E_sEndMark : Env := mkE [] [(105, (sg [pI, pI, pI] [rB]), inSpec), (237, (sg [pS] [rI]), sumOfSpec), (232, (sg [pI, pI] [rS]), fixSpec)]
def E_iEndMark : Env := mkE [] [(114, (sg [pI] [rB]), isVersionSpec), (136, (sg [pI] [rB]), isNumberSpec), (265, (sg [pI, pI] [rS]), sizedSpec)]
def E_sMarkAt : Env := mkE [] [(105, (sg [pI, pI, pI] [rB]), inSpec), (235, (sg [pI, pI] [rS]), endMarkSpec)]
def E_iMarkAt : Env := mkE [] [(244, (sg [pS, pI, pS] [rB]), hasAtSpec), (243, (sg [pI, pI] [rS]), endMarkSpec)]

end
end Go.Proofs.YtggmbjbmklimdaaGreatDoor.V

namespace Go.Proofs.YtggmbjbmklimdaaGreatDoor.V
set_option maxRecDepth 100000
theorem slHasPrefix_tree (H : List Pt → Nat → St → T (List C)) (b : List UInt8) (t : List UInt8) : vBodyL E_slHasPrefix noInl (sg [pS, pS] [rB]) Tryz.f254 H [C.str b, C.str t] =
 (.must true
 (.ask (decide ((↑t.length : Int) ≤ (↑b.length : Int)))
  (.must (decide ((0 : Int) ≤ (↑t.length : Int)) && decide ((↑t.length : Int) ≤ (↑b.length : Int)))
   (.ask (List.drop (0 : Nat) (List.take (↑t.length : Int).toNat b) == t)
    (.must true
     (.ret [C.bool true]))
    (.must true
     (.ret [C.bool false]))))
  (.must true
   (.ret [C.bool false])))) := by kernel_rfl
theorem sHasPrefix_tree (H : List Pt → Nat → St → T (List C)) (b : List UInt8) (t : List UInt8) : vBodyL E_sHasPrefix noInl (sg [pS, pS] [rB]) Tryz.f209 H [C.str b, C.str t] =
 (.must true
 (.must true
  (.must true
   (.must true
    (.ask (prefixOf b t)
     (.must true
      (.ret [C.bool true]))
     (.must true
      (.ret [C.bool false]))))))) := by kernel_rfl
theorem iHasAt_tree (H : List Pt → Nat → St → T (List C)) (b : List UInt8) (a : Int) (t : List UInt8) : vBodyL E_iHasAt noInl (sg [pS, pI, pS] [rB]) Tryz.f244 H [C.str b, C.int IntKind.i64 a, C.str t] =
 (.must true
 (.must true
  (.must true
   (.must true
    (.ask (inB a (0 : Int) (↑b.length : Int))
     (.must (decide ((0 : Int) ≤ a) && decide (a ≤ (↑b.length : Int)))
      (.must true
       (.must true
        (.must true
         (.ask (prefixOf (List.drop a.toNat (List.take b.length b)) t)
          (.must true
           (.ret [C.bool true]))
          (.must true
           (.ret [C.bool false])))))))
     (.must true
      (.ret [C.bool false]))))))) := by kernel_rfl
theorem iSized_tree (H : List Pt → Nat → St → T (List C)) (p : Int) (n : Int) : vBodyL E_iSized noInl (sg [pI, pI] [rS]) Tryz.f265 H [C.int IntKind.i64 p, C.int IntKind.i64 n] =
 (.must true
 (.must true
  (.must (decide ((-9223372036854775808 : Int) ≤ n) && decide (n ≤ (9223372036854775807 : Int)))
   (.must true
    (.must true
     (.must (decide ((-9223372036854775808 : Int) ≤ p) && decide (p ≤ (9223372036854775807 : Int)))
      (.must true
       (.must (decide ((fixOf p (8 : Int)).length + (fixOf n (4 : Int)).length ≤ (9223372036854775807 : Nat)))
        (.must true
         (.must (decide ((fixOf p (8 : Int) ++ fixOf n (4 : Int)).length ≤ (281474976710656 : Nat)))
          (.must true
           (.must true
            (.must (decide ((-9223372036854775808 : Int) ≤ Int.ofNat (crcMore (0 : Nat) (fixOf p (8 : Int) ++ fixOf n (4 : Int)))) &&
  decide (Int.ofNat (crcMore (0 : Nat) (fixOf p (8 : Int) ++ fixOf n (4 : Int))) ≤ (9223372036854775807 : Int)))
             (.must true
              (.must (decide
  ((fixOf n (4 : Int)).length +
      (fixOf (Int.ofNat (crcMore (0 : Nat) (fixOf p (8 : Int) ++ fixOf n (4 : Int)))) (4 : Int)).length ≤
    (9223372036854775807 : Nat)))
               (.must true
                (.ret [C.str (fixOf n (4 : Int) ++ fixOf (Int.ofNat (crcMore (0 : Nat) (fixOf p (8 : Int) ++ fixOf n (4 : Int)))) (4 : Int))]))))))))))))))))) := by kernel_rfl
theorem sFrameText_tree (H : List Pt → Nat → St → T (List C)) (v : Int) (p : Int) (r : List UInt8) : vBodyL E_sFrameText noInl (sg [pI, pI, pS] [rS]) Tryz.f200 H [C.int IntKind.i64 v, C.int IntKind.i64 p, C.str r] =
 (.must true
 (.must true
  (.must true
   (.must true
    (.ask (inB v (1 : Int) (2 : Int))
     (.must true
      (.must true
       (.must true
        (.ask (inB p (0 : Int) (1000000000 : Int))
         (.ask (decide ((60 : Int) < (↑r.length : Int)))
          (.must true
           (.ret [C.str []]))
          (.must true
           (.must (decide (r.length ≤ (281474976710656 : Nat)))
            (.must true
             (.must true
              (.must (decide ((-9223372036854775808 : Int) ≤ Int.ofNat (crcMore (0 : Nat) r)) &&
  decide (Int.ofNat (crcMore (0 : Nat) r) ≤ (9223372036854775807 : Int)))
               (.must true
                (.ask (decide (v = (1 : Int)))
                 (.must true
                  (.must true
                   (.must true
                    (.must (decide ((varText (↑r.length : Int)).length + r.length ≤ (9223372036854775807 : Nat)))
                     (.must (decide
  ((varText (↑r.length : Int) ++ r).length + (fixOf (Int.ofNat (crcMore (0 : Nat) r)) (4 : Int)).length ≤
    (9223372036854775807 : Nat)))
                      (.must true
                       (.ret [C.str (varText (↑r.length : Int) ++ r ++ fixOf (Int.ofNat (crcMore (0 : Nat) r)) (4 : Int))])))))))
                 (.must true
                  (.must (decide ((-9223372036854775808 : Int) ≤ (↑r.length : Int)) && decide ((↑r.length : Int) ≤ (9223372036854775807 : Int)))
                   (.must true
                    (.must true
                     (.must (decide ((-9223372036854775808 : Int) ≤ p) && decide (p ≤ (9223372036854775807 : Int)))
                      (.must true
                       (.must (decide ((fixOf p (8 : Int)).length + (fixOf (↑r.length : Int) (4 : Int)).length ≤ (9223372036854775807 : Nat)))
                        (.must true
                         (.must (decide ((fixOf p (8 : Int) ++ fixOf (↑r.length : Int) (4 : Int)).length ≤ (281474976710656 : Nat)))
                          (.must true
                           (.must true
                            (.must (decide
    ((-9223372036854775808 : Int) ≤
      Int.ofNat (crcMore (0 : Nat) (fixOf p (8 : Int) ++ fixOf (↑r.length : Int) (4 : Int)))) &&
  decide
    (Int.ofNat (crcMore (0 : Nat) (fixOf p (8 : Int) ++ fixOf (↑r.length : Int) (4 : Int))) ≤
      (9223372036854775807 : Int)))
                             (.must true
                              (.must (decide
  ((fixOf (↑r.length : Int) (4 : Int)).length +
      (fixOf (Int.ofNat (crcMore (0 : Nat) (fixOf p (8 : Int) ++ fixOf (↑r.length : Int) (4 : Int))))
          (4 : Int)).length ≤
    (9223372036854775807 : Nat)))
                               (.must (decide
  ((fixOf (↑r.length : Int) (4 : Int) ++
          fixOf (Int.ofNat (crcMore (0 : Nat) (fixOf p (8 : Int) ++ fixOf (↑r.length : Int) (4 : Int))))
            (4 : Int)).length +
      r.length ≤
    (9223372036854775807 : Nat)))
                                (.must (decide
  ((fixOf (↑r.length : Int) (4 : Int) ++
            fixOf (Int.ofNat (crcMore (0 : Nat) (fixOf p (8 : Int) ++ fixOf (↑r.length : Int) (4 : Int)))) (4 : Int) ++
          r).length +
      (fixOf (Int.ofNat (crcMore (0 : Nat) r)) (4 : Int)).length ≤
    (9223372036854775807 : Nat)))
                                 (.must true
                                  (.ret [C.str
    (fixOf (↑r.length : Int) (4 : Int) ++
          fixOf (Int.ofNat (crcMore (0 : Nat) (fixOf p (8 : Int) ++ fixOf (↑r.length : Int) (4 : Int)))) (4 : Int) ++
        r ++
      fixOf (Int.ofNat (crcMore (0 : Nat) r)) (4 : Int))]))))))))))))))))))))))))))
         (.must true
          (.ret [C.str []]))))))
     (.must true
      (.ret [C.str []]))))))) := by kernel_rfl
theorem iFrameText_tree (H : List Pt → Nat → St → T (List C)) (v : Int) (p : Int) (r : List UInt8) : vBodyL E_iFrameText noInl (sg [pI, pI, pS] [rS]) Tryz.f222 H [C.int IntKind.i64 v, C.int IntKind.i64 p, C.str r] =
 (.must true
 (.must true
  (.must true
   (.must true
    (.ask (inB v (1 : Int) (2 : Int))
     (.must true
      (.must true
       (.must true
        (.ask (inB p (0 : Int) (1000000000 : Int))
         (.ask (decide ((60 : Int) < (↑r.length : Int)))
          (.must true
           (.ret [C.str []]))
          (.must true
           (.must true
            (.must true
             (.ask (decide (v = (2 : Int)))
              (.must true
               (.must (decide ((-9223372036854775808 : Int) ≤ p) && decide (p ≤ (9223372036854775807 : Int)) &&
  (decide ((-9223372036854775808 : Int) ≤ (↑r.length : Int)) &&
    decide ((↑r.length : Int) ≤ (9223372036854775807 : Int))))
                (.must true
                 (.must (decide ((sizedOf p (↑r.length : Int)).length + r.length ≤ (9223372036854775807 : Nat)))
                  (.must true
                   (.must (decide (r.length ≤ (281474976710656 : Nat)))
                    (.must true
                     (.must true
                      (.must (decide ((-9223372036854775808 : Int) ≤ Int.ofNat (crcMore (0 : Nat) r)) &&
  decide (Int.ofNat (crcMore (0 : Nat) r) ≤ (9223372036854775807 : Int)))
                       (.must true
                        (.must (decide
  ((sizedOf p (↑r.length : Int) ++ r).length + (fixOf (Int.ofNat (crcMore (0 : Nat) r)) (4 : Int)).length ≤
    (9223372036854775807 : Nat)))
                         (.must true
                          (.ret [C.str (sizedOf p (↑r.length : Int) ++ r ++ fixOf (Int.ofNat (crcMore (0 : Nat) r)) (4 : Int))])))))))))))))
              (.must (decide ((varText (↑r.length : Int)).length + r.length ≤ (9223372036854775807 : Nat)))
               (.must true
                (.must (decide (r.length ≤ (281474976710656 : Nat)))
                 (.must true
                  (.must true
                   (.must (decide ((-9223372036854775808 : Int) ≤ Int.ofNat (crcMore (0 : Nat) r)) &&
  decide (Int.ofNat (crcMore (0 : Nat) r) ≤ (9223372036854775807 : Int)))
                    (.must true
                     (.must (decide
  ((varText (↑r.length : Int) ++ r).length + (fixOf (Int.ofNat (crcMore (0 : Nat) r)) (4 : Int)).length ≤
    (9223372036854775807 : Nat)))
                      (.must true
                       (.ret [C.str (varText (↑r.length : Int) ++ r ++ fixOf (Int.ofNat (crcMore (0 : Nat) r)) (4 : Int))])))))))))))))))
         (.must true
          (.ret [C.str []]))))))
     (.must true
      (.ret [C.str []]))))))) := by kernel_rfl
theorem sEndMark_tree (H : List Pt → Nat → St → T (List C)) (v : Int) (p : Int) : vBodyL E_sEndMark noInl (sg [pI, pI] [rS]) Tryz.f235 H [C.int IntKind.i64 v, C.int IntKind.i64 p] =
 (.must true
 (.must true
  (.must true
   (.must true
    (.ask (inB v (1 : Int) (2 : Int))
     (.must true
      (.must true
       (.must true
        (.ask (inB p (0 : Int) (1000000000 : Int))
         (.ask (decide (v = (1 : Int)))
          (.must true
           (.ret [C.str [(255 : UInt8), (255 : UInt8), (255 : UInt8), (255 : UInt8), (15 : UInt8)]]))
          (.must true
           (.must true
            (.must true
             (.must true
              (.must (decide ((-9223372036854775808 : Int) ≤ p) && decide (p ≤ (9223372036854775807 : Int)))
               (.must true
                (.must (decide ((fixOf p (8 : Int)).length + ((3 : Nat) + (1 : Nat)) ≤ (9223372036854775807 : Nat)))
                 (.must true
                  (.must (decide ((fixOf p (8 : Int) ++ fixOf (4294967295 : Int) (4 : Int)).length ≤ (281474976710656 : Nat)))
                   (.must true
                    (.must true
                     (.must (decide
    ((-9223372036854775808 : Int) ≤
      Int.ofNat (crcMore (0 : Nat) (fixOf p (8 : Int) ++ fixOf (4294967295 : Int) (4 : Int)))) &&
  decide
    (Int.ofNat (crcMore (0 : Nat) (fixOf p (8 : Int) ++ fixOf (4294967295 : Int) (4 : Int))) ≤
      (9223372036854775807 : Int)))
                      (.must true
                       (.must (decide
  ((3 : Nat) + (1 : Nat) +
      (fixOf (Int.ofNat (crcMore (0 : Nat) (fixOf p (8 : Int) ++ fixOf (4294967295 : Int) (4 : Int))))
          (4 : Int)).length ≤
    (9223372036854775807 : Nat)))
                        (.must true
                         (.ret [C.str
    (fixOf (4294967295 : Int) (4 : Int) ++
      fixOf (Int.ofNat (crcMore (0 : Nat) (fixOf p (8 : Int) ++ fixOf (4294967295 : Int) (4 : Int)))) (4 : Int))])))))))))))))))))
         (.must true
          (.ret [C.str []]))))))
     (.must true
      (.ret [C.str []]))))))) := by kernel_rfl
theorem iEndMark_tree (H : List Pt → Nat → St → T (List C)) (v : Int) (p : Int) : vBodyL E_iEndMark noInl (sg [pI, pI] [rS]) Tryz.f243 H [C.int IntKind.i64 v, C.int IntKind.i64 p] =
 (.must true
 (.must true
  (.must true
   (.must true
    (.ask (inB v (1 : Int) (2 : Int))
     (.must true
      (.must true
       (.must true
        (.ask (inB p (0 : Int) (1000000000 : Int))
         (.ask (decide (v = (1 : Int)))
          (.must true
           (.ret [C.str [(255 : UInt8), (255 : UInt8), (255 : UInt8), (255 : UInt8), (15 : UInt8)]]))
          (.must true
           (.must (decide ((-9223372036854775808 : Int) ≤ p) && decide (p ≤ (9223372036854775807 : Int)) &&
  (decide ((-9223372036854775808 : Int) ≤ (4294967295 : Int)) &&
    decide ((4294967295 : Int) ≤ (9223372036854775807 : Int))))
            (.must true
             (.must true
              (.ret [C.str (sizedOf p (4294967295 : Int))]))))))
         (.must true
          (.ret [C.str []]))))))
     (.must true
      (.ret [C.str []]))))))) := by kernel_rfl
theorem sMarkAt_tree (H : List Pt → Nat → St → T (List C)) (v : Int) (p : Int) (b : List UInt8) (a : Int) : vBodyL E_sMarkAt noInl (sg [pI, pI, pS, pI] [rB]) Tryz.f196 H
  [C.int IntKind.i64 v, C.int IntKind.i64 p, C.str b, C.int IntKind.i64 a] =
 (.must true
 (.must true
  (.must true
   (.must true
    (.ask (!endMark v p == [])
     (.must true
      (.must true
       (.must true
        (.ask (inB a (0 : Int) (IntKind.i64.wrap ((↑b.length : Int) - (↑(endMark v p).length : Int))))
         (.must (decide ((0 : Int) ≤ IntKind.i64.wrap (a + (↑(endMark v p).length : Int))) &&
    decide (IntKind.i64.wrap (a + (↑(endMark v p).length : Int)) ≤ (↑b.length : Int)) &&
  (decide ((0 : Int) ≤ a) && decide (a ≤ IntKind.i64.wrap (a + (↑(endMark v p).length : Int)))))
          (.ask (List.drop a.toNat (List.take (IntKind.i64.wrap (a + (↑(endMark v p).length : Int))).toNat b) == endMark v p)
           (.must true
            (.ret [C.bool true]))
           (.must true
            (.ret [C.bool false]))))
         (.must true
          (.ret [C.bool false]))))))
     (.must true
      (.ret [C.bool false]))))))) := by kernel_rfl
theorem iMarkAt_tree (H : List Pt → Nat → St → T (List C)) (v : Int) (p : Int) (b : List UInt8) (a : Int) : vBodyL E_iMarkAt noInl (sg [pI, pI, pS, pI] [rB]) Tryz.f204 H
  [C.int IntKind.i64 v, C.int IntKind.i64 p, C.str b, C.int IntKind.i64 a] =
 (.must true
 (.must true
  (.must true
   (.must true
    (.ask (!endMark v p == [])
     (.must true
      (.must true
       (.must true
        (.ask (hasAt b a (endMark v p))
         (.must true
          (.ret [C.bool true]))
         (.must true
          (.ret [C.bool false]))))))
     (.must true
      (.ret [C.bool false]))))))) := by kernel_rfl
end Go.Proofs.YtggmbjbmklimdaaGreatDoor.V

namespace Go.Proofs.YtggmbjbmklimdaaGreatDoor.V

theorem slHasPrefix_E : EnvSound Tryz.prog E_slHasPrefix := mkE_sound (by simp [])
theorem slHasPrefix_sound : Sound Tryz.prog 254 (sg [pS, pS] [rB]) prefixSpec := vBody_sound slHasPrefix_E noInl_ok Tryz.func254 (by kernel_rfl) fun cs outs hk h => by
  unfold prefixSpec at h
  split at h
  · simp only [Option.some.injEq, Prod.mk.injEq, true_and] at h
    rename_i b t
    rw [← h, vBody_L, slHasPrefix_tree]
    simp only [eval_must', eval_ask', eval_ret', if_true, decide_eq_true_eq, Bool.and_eq_true, Int.toNat_natCast, List.drop_zero, beq_iff_eq, Int.ofNat_le]
    by_cases hl : t.length ≤ b.length
    · have z : (0 : Int) ≤ (t.length : Int) := by omega
      by_cases he : b.take t.length = t
      · have : prefixOf b t = true := by unfold prefixOf; rw [decide_eq_true he]
        simp only [hl, z, he, if_true, and_self, this]
      · have : prefixOf b t = false := by unfold prefixOf; rw [decide_eq_false he]
        simp only [hl, z, he, if_true, if_false, and_self, this]
    · have : prefixOf b t = false := by
        unfold prefixOf
        rw [decide_eq_false]
        intro he
        have := congrArg List.length he
        simp at this
        omega
      simp only [hl, if_false, this]
  · cases h
theorem sHasPrefix_E : EnvSound Tryz.prog E_sHasPrefix := mkE_sound (by simp [slHasPrefix_sound])
theorem sHasPrefix_sound : Sound Tryz.prog 209 (sg [pS, pS] [rB]) prefixSpec := vBody_sound sHasPrefix_E noInl_ok Tryz.func209 (by kernel_rfl) fun cs outs hk h => by
  unfold prefixSpec at h
  split at h
  · simp only [Option.some.injEq, Prod.mk.injEq, true_and] at h
    rename_i b t
    rw [← h, vBody_L, sHasPrefix_tree]
    by_cases hp : prefixOf b t = true <;> simp [eval_must', eval_ask', eval_ret', hp]
  · cases h

theorem hasAt_iff (b : List UInt8) (a : Int) (t : List UInt8) : hasAt b a t = true ↔ (0 ≤ a ∧ a ≤ b.length ∧ (b.drop a.toNat).take t.length = t) := by simp [hasAt]
theorem iHasAt_E : EnvSound Tryz.prog E_iHasAt := mkE_sound (by simp [iIn_sound, sHasPrefix_sound])
theorem iHasAt_sound : Sound Tryz.prog 244 (sg [pS, pI, pS] [rB]) hasAtSpec := vBody_sound iHasAt_E noInl_ok Tryz.func244 (by kernel_rfl) fun cs outs hk h => by
  unfold hasAtSpec at h
  split at h
  · simp only [Option.some.injEq, Prod.mk.injEq, true_and] at h
    rename_i b a t
    rw [← h, vBody_L, iHasAt_tree]
    simp only [eval_must', eval_ask', eval_ret', if_true, decide_eq_true_eq, Bool.and_eq_true, List.take_length]
    by_cases hin : inB a 0 (b.length : Int) = true
    · have hh := (in_iff _ _ _).1 hin
      have e : hasAt b a t = prefixOf (b.drop a.toNat) t := by
        unfold hasAt prefixOf
        simp [hh]
      simp only [hin, hh, if_true, and_self, e]
      by_cases hp : prefixOf (b.drop a.toNat) t = true <;> simp [hp]
    · have e : hasAt b a t = false := by
        cases hx : hasAt b a t with
        | true => have := (hasAt_iff _ _ _).1 hx; exact absurd ((in_iff _ _ _).2 ⟨this.1, this.2.1⟩) hin
        | false => rfl
      simp only [hin, if_false, e]
      rfl
  · cases h

theorem varBytes_len : ∀ (k n : Nat), (varBytes k n).length ≤ k
  | 0, _ => by simp [varBytes]
  | k + 1, n => by
    by_cases h : n < 128
    · rw [varBytes_one k n h]; simp
    · rw [varBytes_more k n h]; have := varBytes_len k (n / 128); simp; omega
theorem varText_len (n : Int) : (varText n).length ≤ 5 := by
  unfold varText; split
  · exact varBytes_len 5 _
  · simp
theorem sizedOf_len (p n : Int) : (sizedOf p n).length ≤ 16 := by
  unfold sizedOf
  have := fixOf_len n 4
  have := fixOf_len (crcMore 0 (fixOf p 8 ++ fixOf n 4) : Nat) 4
  rw [List.length_append]; omega
theorem endMark_len (v p : Int) : (endMark v p).length ≤ 16 := by
  unfold endMark
  have := sizedOf_len p 4294967295
  split
  · split
    · simp
    · exact this
  · simp
theorem iSized_E : EnvSound Tryz.prog E_iSized := mkE_sound (by simp [iSumOf_sound, iFixText_sound])
theorem iSized_sound : Sound Tryz.prog 265 (sg [pI, pI] [rS]) sizedSpec := vBody_sound iSized_E noInl_ok Tryz.func265 (by kernel_rfl) fun cs outs hk h => by
  unfold sizedSpec at h
  split at h
  · simp only [Option.some.injEq, Prod.mk.injEq, Bool.and_eq_true, decide_eq_true_eq] at h
    obtain ⟨⟨⟨a1, a2⟩, a3, a4⟩, rfl⟩ := h
    rename_i p n
    rw [vBody_L, iSized_tree]
    have l1 := fixOf_len p 8
    have l2 := fixOf_len n 4
    have l3 := fixOf_len (crcMore 0 (fixOf p 8 ++ fixOf n 4) : Nat) 4
    have c1 := crcMore_lt 0 (fixOf p 8 ++ fixOf n 4) (by omega)
    simp only [eval_must', eval_ask', eval_ret', if_true, decide_eq_true_eq, Bool.and_eq_true, List.length_append, Int.ofNat_eq_natCast]
    repeat rw [if_pos (by omega)]
    rfl
  · cases h
theorem sFrameText_E : EnvSound Tryz.prog E_sFrameText := mkE_sound (by simp [sIn_sound, sSumOf_sound, sFixText_sound, sVarText_sound])
theorem sFrameText_sound : Sound Tryz.prog 200 (sg [pI, pI, pS] [rS]) frameSpec := vBody_sound sFrameText_E noInl_ok Tryz.func200 (by kernel_rfl) fun cs outs hk h => by
  unfold frameSpec at h
  split at h
  · simp only [Option.some.injEq, Prod.mk.injEq, decide_eq_true_eq] at h
    obtain ⟨h1, rfl⟩ := h
    rename_i v p r
    rw [vBody_L, sFrameText_tree]
    by_cases hv : inB v 1 2 = true
    · by_cases hp : inB p 0 1000000000 = true
      · have hv' := (in_iff _ _ _).1 hv
        have hp' := (in_iff _ _ _).1 hp
        by_cases hr : (60 : Int) < r.length
        · have : ¬ r.length ≤ 60 := by omega
          simp [eval_must', eval_ask', eval_ret', hv, hp, hr, frameText, this]
        · have hr' : r.length ≤ 60 := by omega
          have l1 := fixOf_len p 8
          have l2 := fixOf_len (r.length : Int) 4
          have l3 := fixOf_len (crcMore 0 (fixOf p 8 ++ fixOf (r.length : Int) 4) : Nat) 4
          have l4 := fixOf_len (crcMore 0 r : Nat) 4
          have l5 := varText_len (r.length : Int)
          have c1 := crcMore_lt 0 (fixOf p 8 ++ fixOf (r.length : Int) 4) (by omega)
          have c2 := crcMore_lt 0 r (by omega)
          by_cases h1 : v = 1
          · have h1t := eq_true h1
            have e : frameText v p r = varText (r.length : Int) ++ r ++ fixOf (crcMore 0 r : Nat) 4 := by
              unfold frameText; rw [hv, hp, decide_eq_true hr', if_neg (show ¬ v = 2 by omega)]; rfl
            rw [e]
            simp only [eval_must', eval_ask', eval_ret', if_true, hv, hp, hr, h1t, if_false, decide_eq_true_eq, Bool.and_eq_true, List.length_append, Int.ofNat_eq_natCast]
            repeat rw [if_pos (by omega)]
          · have e : frameText v p r = sizedOf p (r.length : Int) ++ r ++ fixOf (crcMore 0 r : Nat) 4 := by
              unfold frameText; rw [hv, hp, decide_eq_true hr', if_pos (show v = 2 by omega)]; rfl
            rw [e]
            unfold sizedOf
            simp only [eval_must', eval_ask', eval_ret', if_true, hv, hp, hr, h1, if_false, decide_eq_true_eq, Bool.and_eq_true, List.length_append, Int.ofNat_eq_natCast]
            repeat rw [if_pos (by omega)]
      · simp [eval_must', eval_ask', eval_ret', hv, hp, frameText]
    · simp [eval_must', eval_ask', eval_ret', hv, frameText]
  · cases h
theorem iFrameText_E : EnvSound Tryz.prog E_iFrameText := mkE_sound (by simp [iIsVersion_sound, iSumOf_sound, iIsNumber_sound, iFixText_sound, iVarText_sound, iSized_sound])
theorem iFrameText_sound : Sound Tryz.prog 222 (sg [pI, pI, pS] [rS]) frameSpec := vBody_sound iFrameText_E noInl_ok Tryz.func222 (by kernel_rfl) fun cs outs hk h => by
  unfold frameSpec at h
  split at h
  · simp only [Option.some.injEq, Prod.mk.injEq, decide_eq_true_eq] at h
    obtain ⟨h1, rfl⟩ := h
    rename_i v p r
    rw [vBody_L, iFrameText_tree]
    by_cases hv : inB v 1 2 = true
    · by_cases hp : inB p 0 1000000000 = true
      · have hv' := (in_iff _ _ _).1 hv
        have hp' := (in_iff _ _ _).1 hp
        by_cases hr : (60 : Int) < r.length
        · have : ¬ r.length ≤ 60 := by omega
          simp [eval_must', eval_ask', eval_ret', hv, hp, hr, frameText, this]
        · have hr' : r.length ≤ 60 := by omega
          have l1 := sizedOf_len p (r.length : Int)
          have l4 := fixOf_len (crcMore 0 r : Nat) 4
          have l5 := varText_len (r.length : Int)
          have c2 := crcMore_lt 0 r (by omega)
          by_cases h1 : v = 2
          · have h1t := eq_true h1
            have e : frameText v p r = sizedOf p (r.length : Int) ++ r ++ fixOf (crcMore 0 r : Nat) 4 := by
              unfold frameText; rw [hv, hp, decide_eq_true hr', if_pos h1]; rfl
            rw [e]
            simp only [eval_must', eval_ask', eval_ret', if_true, hv, hp, hr, h1t, if_false, decide_eq_true_eq, Bool.and_eq_true, List.length_append, Int.ofNat_eq_natCast]
            repeat rw [if_pos (by omega)]
          · have e : frameText v p r = varText (r.length : Int) ++ r ++ fixOf (crcMore 0 r : Nat) 4 := by
              unfold frameText; rw [hv, hp, decide_eq_true hr', if_neg h1]; rfl
            rw [e]
            simp only [eval_must', eval_ask', eval_ret', if_true, hv, hp, hr, h1, if_false, decide_eq_true_eq, Bool.and_eq_true, List.length_append, Int.ofNat_eq_natCast]
            repeat rw [if_pos (by omega)]
      · simp [eval_must', eval_ask', eval_ret', hv, hp, frameText]
    · simp [eval_must', eval_ask', eval_ret', hv, frameText]
  · cases h
theorem sEndMark_E : EnvSound Tryz.prog E_sEndMark := mkE_sound (by simp [sIn_sound, sSumOf_sound, sFixText_sound])
theorem sEndMark_sound : Sound Tryz.prog 235 (sg [pI, pI] [rS]) endMarkSpec := vBody_sound sEndMark_E noInl_ok Tryz.func235 (by kernel_rfl) fun cs outs hk h => by
  unfold endMarkSpec at h
  split at h
  · simp only [Option.some.injEq, Prod.mk.injEq, true_and] at h
    rename_i v p
    rw [← h, vBody_L, sEndMark_tree]
    by_cases hv : inB v 1 2 = true
    · by_cases hp : inB p 0 1000000000 = true
      · have hp' := (in_iff _ _ _).1 hp
        have l1 := fixOf_len p 8
        have l2 := fixOf_len 4294967295 4
        have l3 := fixOf_len (crcMore 0 (fixOf p 8 ++ fixOf 4294967295 4) : Nat) 4
        have c1 := crcMore_lt 0 (fixOf p 8 ++ fixOf 4294967295 4) (by omega)
        by_cases h1 : v = 1
        · have h1t := eq_true h1
          have e : endMark v p = [255, 255, 255, 255, 15] := by unfold endMark; rw [hv, hp, if_pos h1]; rfl
          rw [e]
          simp only [eval_must', eval_ask', eval_ret', if_true, hv, hp, h1t, decide_true]
        · have e : endMark v p = sizedOf p 4294967295 := by unfold endMark; rw [hv, hp, if_neg h1]; rfl
          rw [e]
          unfold sizedOf
          simp only [eval_must', eval_ask', eval_ret', if_true, hv, hp, h1, if_false, decide_eq_true_eq, Bool.and_eq_true, List.length_append, Int.ofNat_eq_natCast]
          repeat rw [if_pos (by omega)]
      · simp [eval_must', eval_ask', eval_ret', hv, hp, endMark]
    · simp [eval_must', eval_ask', eval_ret', hv, endMark]
  · cases h
theorem iEndMark_E : EnvSound Tryz.prog E_iEndMark := mkE_sound (by simp [iIsVersion_sound, iIsNumber_sound, iSized_sound])
theorem iEndMark_sound : Sound Tryz.prog 243 (sg [pI, pI] [rS]) endMarkSpec := vBody_sound iEndMark_E noInl_ok Tryz.func243 (by kernel_rfl) fun cs outs hk h => by
  unfold endMarkSpec at h
  split at h
  · simp only [Option.some.injEq, Prod.mk.injEq, true_and] at h
    rename_i v p
    rw [← h, vBody_L, iEndMark_tree]
    by_cases hv : inB v 1 2 = true
    · by_cases hp : inB p 0 1000000000 = true
      · have hp' := (in_iff _ _ _).1 hp
        by_cases h1 : v = 1
        · have h1t := eq_true h1
          have e : endMark v p = [255, 255, 255, 255, 15] := by unfold endMark; rw [hv, hp, if_pos h1]; rfl
          rw [e]
          simp [eval_must', eval_ask', eval_ret', hv, hp, h1t]
        · have e : endMark v p = sizedOf p 4294967295 := by unfold endMark; rw [hv, hp, if_neg h1]; rfl
          rw [e]
          simp only [eval_must', eval_ask', eval_ret', if_true, hv, hp, h1, if_false, decide_eq_true_eq, Bool.and_eq_true]
          repeat rw [if_pos (by omega)]
      · simp [eval_must', eval_ask', eval_ret', hv, hp, endMark]
    · simp [eval_must', eval_ask', eval_ret', hv, endMark]
  · cases h
theorem sMarkAt_E : EnvSound Tryz.prog E_sMarkAt := mkE_sound (by simp [sIn_sound, sEndMark_sound])
theorem sMarkAt_sound : Sound Tryz.prog 196 (sg [pI, pI, pS, pI] [rB]) markAtSpec := vBody_sound sMarkAt_E noInl_ok Tryz.func196 (by kernel_rfl) fun cs outs hk h => by
  unfold markAtSpec at h
  split at h
  · simp only [Option.some.injEq, Prod.mk.injEq, decide_eq_true_eq] at h
    obtain ⟨h1, rfl⟩ := h
    rename_i v p b a
    rw [vBody_L, sMarkAt_tree]
    have lm := endMark_len v p
    unfold markAt
    generalize endMark v p = m at *
    by_cases hm : m = []
    · simp [eval_must', eval_ask', eval_ret', hm]
    · have hb : (!m == ([] : List UInt8)) = true := by simpa using hm
      have w1 : IntKind.i64.wrap ((b.length : Int) - (m.length : Int)) = (b.length : Int) - m.length := by rw [wrap64] <;> omega
      simp only [eval_must', eval_ask', eval_ret', if_true, hb, w1, decide_eq_true_eq, Bool.and_eq_true, beq_iff_eq]
      by_cases hin : inB a 0 ((b.length : Int) - m.length) = true
      · have hh := (in_iff _ _ _).1 hin
        obtain ⟨a, rfl⟩ := Int.eq_ofNat_of_zero_le hh.1
        have w2 : IntKind.i64.wrap ((a : Int) + (m.length : Int)) = ((a + m.length : Nat) : Int) := by rw [wrap64] <;> omega
        have z1 : (0 : Int) ≤ ((a + m.length : Nat) : Int) := by omega
        have z2 : ((a + m.length : Nat) : Int) ≤ b.length := by omega
        have z3 : (a : Int) ≤ ((a + m.length : Nat) : Int) := by omega
        have ed : (b.take (a + m.length)).drop a = (b.drop a).take m.length := by
          rw [List.take_drop]
        simp only [hin, w2, z1, z2, z3, hh.1, if_true, and_self, Int.toNat_natCast, ed]
        by_cases he : (b.drop a).take m.length = m
        · have : hasAt b a m = true := (hasAt_iff _ _ _).2 ⟨by omega, by omega, by simpa using he⟩
          simp [he, this, hm]
        · have : hasAt b a m = false := by
            cases hx : hasAt b a m with
            | true => exact absurd (by simpa using ((hasAt_iff _ _ _).1 hx).2.2) he
            | false => rfl
          simp [he, this]
      · have : hasAt b a m = false := by
          cases hx : hasAt b a m with
          | true =>
            have hh := (hasAt_iff _ _ _).1 hx
            have hl := congrArg List.length hh.2.2
            simp at hl
            exact absurd ((in_iff _ _ _).2 ⟨hh.1, by omega⟩) hin
          | false => rfl
        simp [hin, this]
  · cases h
theorem iMarkAt_E : EnvSound Tryz.prog E_iMarkAt := mkE_sound (by simp [iHasAt_sound, iEndMark_sound])
theorem iMarkAt_sound : Sound Tryz.prog 204 (sg [pI, pI, pS, pI] [rB]) markAtSpec := vBody_sound iMarkAt_E noInl_ok Tryz.func204 (by kernel_rfl) fun cs outs hk h => by
  unfold markAtSpec at h
  split at h
  · simp only [Option.some.injEq, Prod.mk.injEq, decide_eq_true_eq] at h
    obtain ⟨h1, rfl⟩ := h
    rename_i v p b a
    rw [vBody_L, iMarkAt_tree]
    unfold markAt
    generalize endMark v p = m at *
    by_cases hm : m = []
    · simp [eval_must', eval_ask', eval_ret', hm]
    · have hb : (!m == ([] : List UInt8)) = true := by simpa using hm
      by_cases hh : hasAt b a m = true <;> simp [eval_must', eval_ask', eval_ret', hb, hh, hm]
  · cases h

end Go.Proofs.YtggmbjbmklimdaaGreatDoor.V

namespace Go.Proofs.YtggmbjbmklimdaaGreatDoor.V
noncomputable section

def rfN (v : Int) (b : List UInt8) (a : Int) : Int := if v = 2 then fixRead b a 4 else rvN b a
def rfFrom (v : Int) (b : List UInt8) (a : Int) : Int := if v = 2 then a + 8 else rvEnd b a
def rfHas (v : Int) (b : List UInt8) (a : Int) : Bool := if v = 2 then fixOk b a 4 else rvOk b a
def rfText (v : Int) (b : List UInt8) (a : Int) : List UInt8 := (b.drop (rfFrom v b a).toNat).take (rfN v b a).toNat
def rfOk (v p : Int) (b : List UInt8) (a : Int) : Bool := inB v 1 2 && inB p 0 1000000000 && rfHas v b a && decide (rfN v b a ≤ 60 ∧ rfFrom v b a + rfN v b a ≤ b.length) && hasAt b a (frameText v p (rfText v b a))
def rfRec (v p : Int) (b : List UInt8) (a : Int) : List UInt8 := if rfOk v p b a then rfText v b a else []
def rfEnd (v p : Int) (b : List UInt8) (a : Int) : Int := if rfOk v p b a then a + (frameText v p (rfText v b a)).length else 0
def readFrameSpec : Spec := fun cs => match cs with
  | [.int .i64 v, .int .i64 p, .str b, .int .i64 a] => some (decide (b.length ≤ 281474976710656) && (decide (-9223372036854775808 ≤ a) && decide (a ≤ 9223372036854775807)), [.str (rfRec v p b a), .int .i64 (rfEnd v p b a), .bool (rfOk v p b a)])
  | _ => none
def E_sReadFrame : Env := mkE [] [(105, (sg [pI, pI, pI] [rB]), inSpec), (234, (sg [pS, pI, pI] [rI, rB]), readFixSpec), (236, (sg [pS, pI] [rI, rI, rB]), readVarSpec), (200, (sg [pI, pI, pS] [rS]), frameSpec)]
def E_iReadFrame : Env := mkE [] [(242, (sg [pS, pI, pI] [rI, rB]), readFixSpec), (245, (sg [pS, pI] [rI, rI, rB]), readVarSpec), (244, (sg [pS, pI, pS] [rB]), hasAtSpec), (222, (sg [pI, pI, pS] [rS]), frameSpec)]

end
end Go.Proofs.YtggmbjbmklimdaaGreatDoor.V

namespace Go.Proofs.YtggmbjbmklimdaaGreatDoor.V
set_option maxRecDepth 100000
theorem sReadFrame_tree (H : List Pt → Nat → St → T (List C)) (v : Int) (p : Int) (b : List UInt8) (a : Int) : vBodyL E_sReadFrame noInl (sg [pI, pI, pS, pI] [rS, rI, rB]) Tryz.f197 H
  [C.int IntKind.i64 v, C.int IntKind.i64 p, C.str b, C.int IntKind.i64 a] =
 (.must true
 (.must true
  (.must true
   (.must true
    (.ask (inB v (1 : Int) (2 : Int))
     (.must true
      (.must true
       (.must true
        (.ask (inB p (0 : Int) (1000000000 : Int))
         (.must true
          (.must true
           (.must true
            (.ask (inB a (0 : Int) (↑b.length : Int))
             (.must true
              (.must (decide (b.length ≤ (281474976710656 : Nat)) &&
  (decide ((-9223372036854775808 : Int) ≤ a) && decide (a ≤ (9223372036854775807 : Int))))
               (.must true
                (.ask (rvOk b a)
                 (.ask (decide (v = (2 : Int)))
                  (.must true
                   (.must (decide (b.length ≤ (281474976710656 : Nat)) &&
  (decide ((-9223372036854775808 : Int) ≤ a) && decide (a ≤ (9223372036854775807 : Int))))
                    (.must true
                     (.ask (fixOk b a (4 : Int))
                      (.ask (decide ((60 : Int) < fixRead b a (4 : Int)))
                       (.must true
                        (.ret [C.str [], C.int IntKind.i64 (0 : Int), C.bool false]))
                       (.ask (decide (IntKind.i64.wrap ((↑b.length : Int) - fixRead b a (4 : Int)) < IntKind.i64.wrap (a + (8 : Int))))
                        (.must true
                         (.ret [C.str [], C.int IntKind.i64 (0 : Int), C.bool false]))
                        (.must (decide ((0 : Int) ≤ IntKind.i64.wrap (IntKind.i64.wrap (a + (8 : Int)) + fixRead b a (4 : Int))) &&
    decide (IntKind.i64.wrap (IntKind.i64.wrap (a + (8 : Int)) + fixRead b a (4 : Int)) ≤ (↑b.length : Int)) &&
  (decide ((0 : Int) ≤ IntKind.i64.wrap (a + (8 : Int))) &&
    decide
      (IntKind.i64.wrap (a + (8 : Int)) ≤ IntKind.i64.wrap (IntKind.i64.wrap (a + (8 : Int)) + fixRead b a (4 : Int)))))
                         (.must true
                          (.must (decide
  ((List.drop (IntKind.i64.wrap (a + (8 : Int))).toNat
        (List.take (IntKind.i64.wrap (IntKind.i64.wrap (a + (8 : Int)) + fixRead b a (4 : Int))).toNat b)).length ≤
    (281474976710656 : Nat)))
                           (.must true
                            (.ask (decide
  (IntKind.i64.wrap ((↑b.length : Int) - a) <
    (↑(frameText v p
            (List.drop (IntKind.i64.wrap (a + (8 : Int))).toNat
              (List.take (IntKind.i64.wrap (IntKind.i64.wrap (a + (8 : Int)) + fixRead b a (4 : Int))).toNat
                b))).length :
      Int)))
                             (.must true
                              (.ret [C.str [], C.int IntKind.i64 (0 : Int), C.bool false]))
                             (.must (decide
      ((0 : Int) ≤
        IntKind.i64.wrap
          (a +
            (↑(frameText v p
                    (List.drop (IntKind.i64.wrap (a + (8 : Int))).toNat
                      (List.take (IntKind.i64.wrap (IntKind.i64.wrap (a + (8 : Int)) + fixRead b a (4 : Int))).toNat
                        b))).length :
              Int))) &&
    decide
      (IntKind.i64.wrap
          (a +
            (↑(frameText v p
                    (List.drop (IntKind.i64.wrap (a + (8 : Int))).toNat
                      (List.take (IntKind.i64.wrap (IntKind.i64.wrap (a + (8 : Int)) + fixRead b a (4 : Int))).toNat
                        b))).length :
              Int)) ≤
        (↑b.length : Int)) &&
  (decide ((0 : Int) ≤ a) &&
    decide
      (a ≤
        IntKind.i64.wrap
          (a +
            (↑(frameText v p
                    (List.drop (IntKind.i64.wrap (a + (8 : Int))).toNat
                      (List.take (IntKind.i64.wrap (IntKind.i64.wrap (a + (8 : Int)) + fixRead b a (4 : Int))).toNat
                        b))).length :
              Int)))))
                              (.ask (!List.drop a.toNat
      (List.take
        (IntKind.i64.wrap
            (a +
              (↑(frameText v p
                      (List.drop (IntKind.i64.wrap (a + (8 : Int))).toNat
                        (List.take (IntKind.i64.wrap (IntKind.i64.wrap (a + (8 : Int)) + fixRead b a (4 : Int))).toNat
                          b))).length :
                Int))).toNat
        b) ==
    frameText v p
      (List.drop (IntKind.i64.wrap (a + (8 : Int))).toNat
        (List.take (IntKind.i64.wrap (IntKind.i64.wrap (a + (8 : Int)) + fixRead b a (4 : Int))).toNat b)))
                               (.must true
                                (.ret [C.str [], C.int IntKind.i64 (0 : Int), C.bool false]))
                               (.must true
                                (.ret [C.str
    (List.drop (IntKind.i64.wrap (a + (8 : Int))).toNat
      (List.take (IntKind.i64.wrap (IntKind.i64.wrap (a + (8 : Int)) + fixRead b a (4 : Int))).toNat b)),
  C.int IntKind.i64
    (IntKind.i64.wrap
      (a +
        (↑(frameText v p
                (List.drop (IntKind.i64.wrap (a + (8 : Int))).toNat
                  (List.take (IntKind.i64.wrap (IntKind.i64.wrap (a + (8 : Int)) + fixRead b a (4 : Int))).toNat
                    b))).length :
          Int))),
  C.bool true])))))))))))
                      (.must true
                       (.ret [C.str [], C.int IntKind.i64 (0 : Int), C.bool false]))))))
                  (.ask (decide ((60 : Int) < rvN b a))
                   (.must true
                    (.ret [C.str [], C.int IntKind.i64 (0 : Int), C.bool false]))
                   (.ask (decide (IntKind.i64.wrap ((↑b.length : Int) - rvN b a) < rvEnd b a))
                    (.must true
                     (.ret [C.str [], C.int IntKind.i64 (0 : Int), C.bool false]))
                    (.must (decide ((0 : Int) ≤ IntKind.i64.wrap (rvEnd b a + rvN b a)) &&
    decide (IntKind.i64.wrap (rvEnd b a + rvN b a) ≤ (↑b.length : Int)) &&
  (decide ((0 : Int) ≤ rvEnd b a) && decide (rvEnd b a ≤ IntKind.i64.wrap (rvEnd b a + rvN b a))))
                     (.must true
                      (.must (decide
  ((List.drop (rvEnd b a).toNat (List.take (IntKind.i64.wrap (rvEnd b a + rvN b a)).toNat b)).length ≤
    (281474976710656 : Nat)))
                       (.must true
                        (.ask (decide
  (IntKind.i64.wrap ((↑b.length : Int) - a) <
    (↑(frameText v p
            (List.drop (rvEnd b a).toNat (List.take (IntKind.i64.wrap (rvEnd b a + rvN b a)).toNat b))).length :
      Int)))
                         (.must true
                          (.ret [C.str [], C.int IntKind.i64 (0 : Int), C.bool false]))
                         (.must (decide
      ((0 : Int) ≤
        IntKind.i64.wrap
          (a +
            (↑(frameText v p
                    (List.drop (rvEnd b a).toNat (List.take (IntKind.i64.wrap (rvEnd b a + rvN b a)).toNat b))).length :
              Int))) &&
    decide
      (IntKind.i64.wrap
          (a +
            (↑(frameText v p
                    (List.drop (rvEnd b a).toNat (List.take (IntKind.i64.wrap (rvEnd b a + rvN b a)).toNat b))).length :
              Int)) ≤
        (↑b.length : Int)) &&
  (decide ((0 : Int) ≤ a) &&
    decide
      (a ≤
        IntKind.i64.wrap
          (a +
            (↑(frameText v p
                    (List.drop (rvEnd b a).toNat (List.take (IntKind.i64.wrap (rvEnd b a + rvN b a)).toNat b))).length :
              Int)))))
                          (.ask (!List.drop a.toNat
      (List.take
        (IntKind.i64.wrap
            (a +
              (↑(frameText v p
                      (List.drop (rvEnd b a).toNat
                        (List.take (IntKind.i64.wrap (rvEnd b a + rvN b a)).toNat b))).length :
                Int))).toNat
        b) ==
    frameText v p (List.drop (rvEnd b a).toNat (List.take (IntKind.i64.wrap (rvEnd b a + rvN b a)).toNat b)))
                           (.must true
                            (.ret [C.str [], C.int IntKind.i64 (0 : Int), C.bool false]))
                           (.must true
                            (.ret [C.str (List.drop (rvEnd b a).toNat (List.take (IntKind.i64.wrap (rvEnd b a + rvN b a)).toNat b)),
  C.int IntKind.i64
    (IntKind.i64.wrap
      (a +
        (↑(frameText v p
                (List.drop (rvEnd b a).toNat (List.take (IntKind.i64.wrap (rvEnd b a + rvN b a)).toNat b))).length :
          Int))),
  C.bool true]))))))))))))
                 (.ask (decide (v = (2 : Int)))
                  (.must true
                   (.must (decide (b.length ≤ (281474976710656 : Nat)) &&
  (decide ((-9223372036854775808 : Int) ≤ a) && decide (a ≤ (9223372036854775807 : Int))))
                    (.must true
                     (.ask (fixOk b a (4 : Int))
                      (.ask (decide ((60 : Int) < fixRead b a (4 : Int)))
                       (.must true
                        (.ret [C.str [], C.int IntKind.i64 (0 : Int), C.bool false]))
                       (.ask (decide (IntKind.i64.wrap ((↑b.length : Int) - fixRead b a (4 : Int)) < IntKind.i64.wrap (a + (8 : Int))))
                        (.must true
                         (.ret [C.str [], C.int IntKind.i64 (0 : Int), C.bool false]))
                        (.must (decide ((0 : Int) ≤ IntKind.i64.wrap (IntKind.i64.wrap (a + (8 : Int)) + fixRead b a (4 : Int))) &&
    decide (IntKind.i64.wrap (IntKind.i64.wrap (a + (8 : Int)) + fixRead b a (4 : Int)) ≤ (↑b.length : Int)) &&
  (decide ((0 : Int) ≤ IntKind.i64.wrap (a + (8 : Int))) &&
    decide
      (IntKind.i64.wrap (a + (8 : Int)) ≤ IntKind.i64.wrap (IntKind.i64.wrap (a + (8 : Int)) + fixRead b a (4 : Int)))))
                         (.must true
                          (.must (decide
  ((List.drop (IntKind.i64.wrap (a + (8 : Int))).toNat
        (List.take (IntKind.i64.wrap (IntKind.i64.wrap (a + (8 : Int)) + fixRead b a (4 : Int))).toNat b)).length ≤
    (281474976710656 : Nat)))
                           (.must true
                            (.ask (decide
  (IntKind.i64.wrap ((↑b.length : Int) - a) <
    (↑(frameText v p
            (List.drop (IntKind.i64.wrap (a + (8 : Int))).toNat
              (List.take (IntKind.i64.wrap (IntKind.i64.wrap (a + (8 : Int)) + fixRead b a (4 : Int))).toNat
                b))).length :
      Int)))
                             (.must true
                              (.ret [C.str [], C.int IntKind.i64 (0 : Int), C.bool false]))
                             (.must (decide
      ((0 : Int) ≤
        IntKind.i64.wrap
          (a +
            (↑(frameText v p
                    (List.drop (IntKind.i64.wrap (a + (8 : Int))).toNat
                      (List.take (IntKind.i64.wrap (IntKind.i64.wrap (a + (8 : Int)) + fixRead b a (4 : Int))).toNat
                        b))).length :
              Int))) &&
    decide
      (IntKind.i64.wrap
          (a +
            (↑(frameText v p
                    (List.drop (IntKind.i64.wrap (a + (8 : Int))).toNat
                      (List.take (IntKind.i64.wrap (IntKind.i64.wrap (a + (8 : Int)) + fixRead b a (4 : Int))).toNat
                        b))).length :
              Int)) ≤
        (↑b.length : Int)) &&
  (decide ((0 : Int) ≤ a) &&
    decide
      (a ≤
        IntKind.i64.wrap
          (a +
            (↑(frameText v p
                    (List.drop (IntKind.i64.wrap (a + (8 : Int))).toNat
                      (List.take (IntKind.i64.wrap (IntKind.i64.wrap (a + (8 : Int)) + fixRead b a (4 : Int))).toNat
                        b))).length :
              Int)))))
                              (.ask (!List.drop a.toNat
      (List.take
        (IntKind.i64.wrap
            (a +
              (↑(frameText v p
                      (List.drop (IntKind.i64.wrap (a + (8 : Int))).toNat
                        (List.take (IntKind.i64.wrap (IntKind.i64.wrap (a + (8 : Int)) + fixRead b a (4 : Int))).toNat
                          b))).length :
                Int))).toNat
        b) ==
    frameText v p
      (List.drop (IntKind.i64.wrap (a + (8 : Int))).toNat
        (List.take (IntKind.i64.wrap (IntKind.i64.wrap (a + (8 : Int)) + fixRead b a (4 : Int))).toNat b)))
                               (.must true
                                (.ret [C.str [], C.int IntKind.i64 (0 : Int), C.bool false]))
                               (.must true
                                (.ret [C.str
    (List.drop (IntKind.i64.wrap (a + (8 : Int))).toNat
      (List.take (IntKind.i64.wrap (IntKind.i64.wrap (a + (8 : Int)) + fixRead b a (4 : Int))).toNat b)),
  C.int IntKind.i64
    (IntKind.i64.wrap
      (a +
        (↑(frameText v p
                (List.drop (IntKind.i64.wrap (a + (8 : Int))).toNat
                  (List.take (IntKind.i64.wrap (IntKind.i64.wrap (a + (8 : Int)) + fixRead b a (4 : Int))).toNat
                    b))).length :
          Int))),
  C.bool true])))))))))))
                      (.must true
                       (.ret [C.str [], C.int IntKind.i64 (0 : Int), C.bool false]))))))
                  (.must true
                   (.ret [C.str [], C.int IntKind.i64 (0 : Int), C.bool false])))))))
             (.must true
              (.ret [C.str [], C.int IntKind.i64 (0 : Int), C.bool false]))))))
         (.must true
          (.ret [C.str [], C.int IntKind.i64 (0 : Int), C.bool false]))))))
     (.must true
      (.ret [C.str [], C.int IntKind.i64 (0 : Int), C.bool false]))))))) := by kernel_rfl
theorem iReadFrame_tree (H : List Pt → Nat → St → T (List C)) (v : Int) (p : Int) (b : List UInt8) (a : Int) : vBodyL E_iReadFrame noInl (sg [pI, pI, pS, pI] [rS, rI, rB]) Tryz.f205 H
  [C.int IntKind.i64 v, C.int IntKind.i64 p, C.str b, C.int IntKind.i64 a] =
 (.must true
 (.ask (decide (v = (2 : Int)))
  (.must true
   (.must (decide (b.length ≤ (281474976710656 : Nat)) &&
  (decide ((-9223372036854775808 : Int) ≤ a) && decide (a ≤ (9223372036854775807 : Int))))
    (.must true
     (.ask (fixOk b a (4 : Int))
      (.ask (decide ((60 : Int) < fixRead b a (4 : Int)))
       (.must true
        (.ret [C.str [], C.int IntKind.i64 (0 : Int), C.bool false]))
       (.ask (decide ((↑b.length : Int) < IntKind.i64.wrap (a + (8 : Int))))
        (.must true
         (.ret [C.str [], C.int IntKind.i64 (0 : Int), C.bool false]))
        (.ask (decide (IntKind.i64.wrap ((↑b.length : Int) - IntKind.i64.wrap (a + (8 : Int))) < fixRead b a (4 : Int)))
         (.must true
          (.ret [C.str [], C.int IntKind.i64 (0 : Int), C.bool false]))
         (.must (decide ((0 : Int) ≤ IntKind.i64.wrap (IntKind.i64.wrap (a + (8 : Int)) + fixRead b a (4 : Int))) &&
    decide (IntKind.i64.wrap (IntKind.i64.wrap (a + (8 : Int)) + fixRead b a (4 : Int)) ≤ (↑b.length : Int)) &&
  (decide ((0 : Int) ≤ IntKind.i64.wrap (a + (8 : Int))) &&
    decide
      (IntKind.i64.wrap (a + (8 : Int)) ≤ IntKind.i64.wrap (IntKind.i64.wrap (a + (8 : Int)) + fixRead b a (4 : Int)))))
          (.must true
           (.must (decide
  ((List.drop (IntKind.i64.wrap (a + (8 : Int))).toNat
        (List.take (IntKind.i64.wrap (IntKind.i64.wrap (a + (8 : Int)) + fixRead b a (4 : Int))).toNat b)).length ≤
    (281474976710656 : Nat)))
            (.must true
             (.ask (frameText v p
    (List.drop (IntKind.i64.wrap (a + (8 : Int))).toNat
      (List.take (IntKind.i64.wrap (IntKind.i64.wrap (a + (8 : Int)) + fixRead b a (4 : Int))).toNat b)) ==
  [])
              (.must true
               (.ret [C.str [], C.int IntKind.i64 (0 : Int), C.bool false]))
              (.must true
               (.must true
                (.must true
                 (.ask (hasAt b a
  (frameText v p
    (List.drop (IntKind.i64.wrap (a + (8 : Int))).toNat
      (List.take (IntKind.i64.wrap (IntKind.i64.wrap (a + (8 : Int)) + fixRead b a (4 : Int))).toNat b))))
                  (.must true
                   (.ret [C.str
    (List.drop (IntKind.i64.wrap (a + (8 : Int))).toNat
      (List.take (IntKind.i64.wrap (IntKind.i64.wrap (a + (8 : Int)) + fixRead b a (4 : Int))).toNat b)),
  C.int IntKind.i64
    (IntKind.i64.wrap
      (a +
        (↑(frameText v p
                (List.drop (IntKind.i64.wrap (a + (8 : Int))).toNat
                  (List.take (IntKind.i64.wrap (IntKind.i64.wrap (a + (8 : Int)) + fixRead b a (4 : Int))).toNat
                    b))).length :
          Int))),
  C.bool true]))
                  (.must true
                   (.ret [C.str [], C.int IntKind.i64 (0 : Int), C.bool false]))))))))))))))
      (.must true
       (.ret [C.str [], C.int IntKind.i64 (0 : Int), C.bool false]))))))
  (.must true
   (.must (decide (b.length ≤ (281474976710656 : Nat)) &&
  (decide ((-9223372036854775808 : Int) ≤ a) && decide (a ≤ (9223372036854775807 : Int))))
    (.must true
     (.ask (rvOk b a)
      (.ask (decide ((60 : Int) < rvN b a))
       (.must true
        (.ret [C.str [], C.int IntKind.i64 (0 : Int), C.bool false]))
       (.ask (decide ((↑b.length : Int) < rvEnd b a))
        (.must true
         (.ret [C.str [], C.int IntKind.i64 (0 : Int), C.bool false]))
        (.ask (decide (IntKind.i64.wrap ((↑b.length : Int) - rvEnd b a) < rvN b a))
         (.must true
          (.ret [C.str [], C.int IntKind.i64 (0 : Int), C.bool false]))
         (.must (decide ((0 : Int) ≤ IntKind.i64.wrap (rvEnd b a + rvN b a)) &&
    decide (IntKind.i64.wrap (rvEnd b a + rvN b a) ≤ (↑b.length : Int)) &&
  (decide ((0 : Int) ≤ rvEnd b a) && decide (rvEnd b a ≤ IntKind.i64.wrap (rvEnd b a + rvN b a))))
          (.must true
           (.must (decide
  ((List.drop (rvEnd b a).toNat (List.take (IntKind.i64.wrap (rvEnd b a + rvN b a)).toNat b)).length ≤
    (281474976710656 : Nat)))
            (.must true
             (.ask (frameText v p (List.drop (rvEnd b a).toNat (List.take (IntKind.i64.wrap (rvEnd b a + rvN b a)).toNat b)) == [])
              (.must true
               (.ret [C.str [], C.int IntKind.i64 (0 : Int), C.bool false]))
              (.must true
               (.must true
                (.must true
                 (.ask (hasAt b a (frameText v p (List.drop (rvEnd b a).toNat (List.take (IntKind.i64.wrap (rvEnd b a + rvN b a)).toNat b))))
                  (.must true
                   (.ret [C.str (List.drop (rvEnd b a).toNat (List.take (IntKind.i64.wrap (rvEnd b a + rvN b a)).toNat b)),
  C.int IntKind.i64
    (IntKind.i64.wrap
      (a +
        (↑(frameText v p
                (List.drop (rvEnd b a).toNat (List.take (IntKind.i64.wrap (rvEnd b a + rvN b a)).toNat b))).length :
          Int))),
  C.bool true]))
                  (.must true
                   (.ret [C.str [], C.int IntKind.i64 (0 : Int), C.bool false]))))))))))))))
      (.must true
       (.ret [C.str [], C.int IntKind.i64 (0 : Int), C.bool false])))))))) := by kernel_rfl
end Go.Proofs.YtggmbjbmklimdaaGreatDoor.V

namespace Go.Proofs.YtggmbjbmklimdaaGreatDoor.V

def failRF : List C := [C.str [], C.int IntKind.i64 (0 : Int), C.bool false]
/-- the end of both texts, once the size is read -/
def sTail (v p : Int) (b : List UInt8) (a n f : Int) : T (List C) :=
  .ask (decide (60 < n)) (.must true (.ret failRF))
   (.ask (decide (IntKind.i64.wrap ((b.length : Int) - n) < f)) (.must true (.ret failRF))
    (.must (decide (0 ≤ IntKind.i64.wrap (f + n)) && decide (IntKind.i64.wrap (f + n) ≤ (b.length : Int)) && (decide (0 ≤ f) && decide (f ≤ IntKind.i64.wrap (f + n))))
     (.must true
      (.must (decide ((List.drop f.toNat (List.take (IntKind.i64.wrap (f + n)).toNat b)).length ≤ 281474976710656))
       (.must true
        (.ask (decide (IntKind.i64.wrap ((b.length : Int) - a) < ((frameText v p (List.drop f.toNat (List.take (IntKind.i64.wrap (f + n)).toNat b))).length : Int))) (.must true (.ret failRF))
         (.must (decide (0 ≤ IntKind.i64.wrap (a + ((frameText v p (List.drop f.toNat (List.take (IntKind.i64.wrap (f + n)).toNat b))).length : Int))) && decide (IntKind.i64.wrap (a + ((frameText v p (List.drop f.toNat (List.take (IntKind.i64.wrap (f + n)).toNat b))).length : Int)) ≤ (b.length : Int)) && (decide (0 ≤ a) && decide (a ≤ IntKind.i64.wrap (a + ((frameText v p (List.drop f.toNat (List.take (IntKind.i64.wrap (f + n)).toNat b))).length : Int)))))
          (.ask (!List.drop a.toNat (List.take (IntKind.i64.wrap (a + ((frameText v p (List.drop f.toNat (List.take (IntKind.i64.wrap (f + n)).toNat b))).length : Int))).toNat b) == frameText v p (List.drop f.toNat (List.take (IntKind.i64.wrap (f + n)).toNat b)))
           (.must true (.ret failRF))
           (.must true (.ret [C.str (List.drop f.toNat (List.take (IntKind.i64.wrap (f + n)).toNat b)), C.int IntKind.i64 (IntKind.i64.wrap (a + ((frameText v p (List.drop f.toNat (List.take (IntKind.i64.wrap (f + n)).toNat b))).length : Int))), C.bool true]))))))))))
def iTail (v p : Int) (b : List UInt8) (a n f : Int) : T (List C) :=
  .ask (decide (60 < n)) (.must true (.ret failRF))
   (.ask (decide ((b.length : Int) < f)) (.must true (.ret failRF))
    (.ask (decide (IntKind.i64.wrap ((b.length : Int) - f) < n)) (.must true (.ret failRF))
     (.must (decide (0 ≤ IntKind.i64.wrap (f + n)) && decide (IntKind.i64.wrap (f + n) ≤ (b.length : Int)) && (decide (0 ≤ f) && decide (f ≤ IntKind.i64.wrap (f + n))))
      (.must true
       (.must (decide ((List.drop f.toNat (List.take (IntKind.i64.wrap (f + n)).toNat b)).length ≤ 281474976710656))
        (.must true
         (.ask (frameText v p (List.drop f.toNat (List.take (IntKind.i64.wrap (f + n)).toNat b)) == []) (.must true (.ret failRF))
          (.must true (.must true (.must true
           (.ask (hasAt b a (frameText v p (List.drop f.toNat (List.take (IntKind.i64.wrap (f + n)).toNat b))))
            (.must true (.ret [C.str (List.drop f.toNat (List.take (IntKind.i64.wrap (f + n)).toNat b)), C.int IntKind.i64 (IntKind.i64.wrap (a + ((frameText v p (List.drop f.toNat (List.take (IntKind.i64.wrap (f + n)).toNat b))).length : Int))), C.bool true]))
            (.must true (.ret failRF)))))))))))))
def tailOut (v p : Int) (b : List UInt8) (a n f : Int) : List C :=
  if n ≤ 60 ∧ f + n ≤ b.length ∧ hasAt b a (frameText v p ((b.drop f.toNat).take n.toNat)) = true then [.str ((b.drop f.toNat).take n.toNat), .int .i64 (a + (frameText v p ((b.drop f.toNat).take n.toNat)).length), .bool true] else failRF
theorem frameText_len (v p : Int) (r : List UInt8) : (frameText v p r).length ≤ 90 := by
  unfold frameText
  have h1 := sizedOf_len p r.length
  have h2 := varText_len r.length
  have h3 := fixOf_len (crcMore 0 r : Nat) 4
  split
  · rename_i h
    simp only [Bool.and_eq_true, decide_eq_true_eq] at h
    split <;> simp only [List.length_append] <;> omega
  · simp
theorem frameText_ne (v p : Int) (r : List UInt8) (hv : inB v 1 2 = true) (hp : inB p 0 1000000000 = true) (hr : r.length ≤ 60) : frameText v p r ≠ [] := by
  unfold frameText
  rw [hv, hp, decide_eq_true hr]
  intro h
  have h4 : (fixOf (crcMore 0 r : Nat) 4).length = 4 := by
    have hc := crcMore_lt 0 r (by omega)
    have hg := fix_good (crcMore 0 r) 4 (by omega) (by omega)
    rw [show ((4 : Nat) : Int) = 4 from rfl] at hg
    rw [hg, if_pos (by omega), leBytes_length]
  have := congrArg List.length h
  simp only [Bool.and_self, if_true, List.length_append, List.length_nil] at this
  omega
theorem frameText_bad (v p : Int) (r : List UInt8) (h : ¬ (inB v 1 2 = true ∧ inB p 0 1000000000 = true)) : frameText v p r = [] := by
  unfold frameText
  rw [if_neg]
  intro hh
  simp only [Bool.and_eq_true] at hh
  exact h hh.1
theorem sTail_eval (v p : Int) (b : List UInt8) (a n f : Int) (hb : b.length ≤ 281474976710656) (hn : 0 ≤ n) (hn2 : n ≤ 9223372036854775807) (hf : 0 ≤ f) (hf2 : f ≤ 1125899906842624) (ha : 0 ≤ a) (ha2 : a ≤ b.length) (hv : inB v 1 2 = true) (hp : inB p 0 1000000000 = true) :
    (sTail v p b a n f).eval = some (tailOut v p b a n f) := by
  unfold sTail tailOut
  by_cases h1 : 60 < n
  · have : ¬ n ≤ 60 := by omega
    simp [eval_must', eval_ask', eval_ret', h1, this]
  · have w1 : IntKind.i64.wrap ((b.length : Int) - n) = (b.length : Int) - n := by rw [wrap64] <;> omega
    have w2 : IntKind.i64.wrap (f + n) = f + n := by rw [wrap64] <;> omega
    have h1' : n ≤ 60 := by omega
    rw [w1, w2]
    by_cases h2 : (b.length : Int) - n < f
    · have : ¬ (f + n ≤ b.length) := by omega
      simp [eval_must', eval_ask', eval_ret', h1, h2, this]
    · have h2' : f + n ≤ b.length := by omega
      have hrec : List.drop f.toNat (List.take (f + n).toNat b) = (b.drop f.toNat).take n.toNat := by
        rw [List.take_drop]; congr 2; omega
      rw [hrec]
      have hl : ((b.drop f.toNat).take n.toNat).length ≤ 281474976710656 := by simp; omega
      have hl60 : ((b.drop f.toNat).take n.toNat).length ≤ 60 := by simp; omega
      generalize (b.drop f.toNat).take n.toNat = r at hl hl60
      have fl := frameText_len v p r
      have fne := frameText_ne v p r hv hp hl60
      generalize frameText v p r = t at fl fne
      have w3 : IntKind.i64.wrap ((b.length : Int) - a) = (b.length : Int) - a := by rw [wrap64] <;> omega
      have w4 : IntKind.i64.wrap (a + (t.length : Int)) = a + t.length := by rw [wrap64] <;> omega
      rw [w3, w4]
      have z1 : 0 ≤ f + n := by omega
      have z2 : f ≤ f + n := by omega
      by_cases h3 : (b.length : Int) - a < t.length
      · have : hasAt b a t = false := by
          cases hx : hasAt b a t with
          | true =>
            have hh := (hasAt_iff _ _ _).1 hx
            have hl := congrArg List.length hh.2.2
            simp at hl
            omega
          | false => rfl
        simp [eval_must', eval_ask', eval_ret', h1, h2, h2', hf, hl, h3, this, z1, z2, hn]
      · have z3 : 0 ≤ a + (t.length : Int) := by omega
        have z4 : a + (t.length : Int) ≤ b.length := by omega
        have z5 : a ≤ a + (t.length : Int) := by omega
        have ed : List.drop a.toNat (List.take (a + (t.length : Int)).toNat b) = (b.drop a.toNat).take t.length := by
          rw [List.take_drop]; congr 2; omega
        rw [ed]
        by_cases he : (b.drop a.toNat).take t.length = t
        · have hh : hasAt b a t = true := (hasAt_iff _ _ _).2 ⟨ha, ha2, he⟩
          simp [eval_must', eval_ask', eval_ret', h1, h1', h2, h2', hf, hl, h3, z1, z2, z3, z4, z5, hn, ha, he, hh]
        · have hh : hasAt b a t = false := by
            cases hx : hasAt b a t with
            | true => exact absurd ((hasAt_iff _ _ _).1 hx).2.2 he
            | false => rfl
          simp [eval_must', eval_ask', eval_ret', h1, h1', h2, h2', hf, hl, h3, z1, z2, z3, z4, z5, hn, ha, he, hh]
theorem iTail_eval (v p : Int) (b : List UInt8) (a n f : Int) (hb : b.length ≤ 281474976710656) (hn : 0 ≤ n) (hn2 : n ≤ 9223372036854775807) (hf : 0 ≤ f) (hf2 : f ≤ 1125899906842624) (ha2 : a ≤ 9223372036854775807) :
    (iTail v p b a n f).eval = some (if inB v 1 2 = true ∧ inB p 0 1000000000 = true then tailOut v p b a n f else failRF) := by
  unfold iTail tailOut
  by_cases h1 : 60 < n
  · have : ¬ n ≤ 60 := by omega
    simp [eval_must', eval_ask', eval_ret', h1, this]
  · have w2 : IntKind.i64.wrap (f + n) = f + n := by rw [wrap64] <;> omega
    have h1' : n ≤ 60 := by omega
    rw [w2]
    by_cases h2 : (b.length : Int) < f
    · have : ¬ (f + n ≤ b.length) := by omega
      simp [eval_must', eval_ask', eval_ret', h1, h2, this]
    · have w1 : IntKind.i64.wrap ((b.length : Int) - f) = (b.length : Int) - f := by rw [wrap64] <;> omega
      rw [w1]
      by_cases h3 : (b.length : Int) - f < n
      · have : ¬ (f + n ≤ b.length) := by omega
        simp [eval_must', eval_ask', eval_ret', h1, h2, h3, this]
      · have h2' : f + n ≤ b.length := by omega
        have hrec : List.drop f.toNat (List.take (f + n).toNat b) = (b.drop f.toNat).take n.toNat := by
          rw [List.take_drop]; congr 2; omega
        rw [hrec]
        have hl : ((b.drop f.toNat).take n.toNat).length ≤ 281474976710656 := by simp; omega
        have hl60 : ((b.drop f.toNat).take n.toNat).length ≤ 60 := by simp; omega
        generalize (b.drop f.toNat).take n.toNat = r at hl hl60
        have z1 : 0 ≤ f + n := by omega
        have z2 : f ≤ f + n := by omega
        by_cases hvp : inB v 1 2 = true ∧ inB p 0 1000000000 = true
        · have fl := frameText_len v p r
          have fne := frameText_ne v p r hvp.1 hvp.2 hl60
          rw [if_pos hvp]
          generalize frameText v p r = t at fl fne
          have fb : (t == ([] : List UInt8)) = false := by simpa using fne
          by_cases hh : hasAt b a t = true
          · have hx := (hasAt_iff _ _ _).1 hh
            have w4 : IntKind.i64.wrap (a + (t.length : Int)) = a + t.length := by rw [wrap64] <;> omega
            simp [eval_must', eval_ask', eval_ret', h1, h1', h2, h2', h3, hf, hl, z1, z2, hn, fb, hh, w4, fne]
          · simp [eval_must', eval_ask', eval_ret', h1, h1', h2, h2', h3, hf, hl, z1, z2, hn, fb, hh, fne]
        · rw [if_neg hvp, frameText_bad v p r hvp]
          simp [eval_must', eval_ask', eval_ret', h1, h1', h2, h2', h3, hf, hl, z1, z2, hn]
theorem rv_range (b : List UInt8) (a : Int) : 0 ≤ rvN b a ∧ rvN b a ≤ 1000000000 ∧ 0 ≤ rvEnd b a ∧ rvEnd b a ≤ b.length ∧ (rvOk b a = true → 0 ≤ a ∧ a ≤ b.length) := by
  have go : ∀ (fu k n : Nat) (q : Nat × Nat), rvGo b a.toNat fu k n = some q → q.1 ≤ 1000000000 ∧ q.2 ≤ b.length ∧ a.toNat ≤ b.length := by
    intro fu
    induction fu with
    | zero => intro k n q h; simp [rvGo] at h
    | succ fu ih =>
      intro k n q h
      simp only [rvGo] at h
      split at h
      · split at h
        · split at h
          · cases h
          · obtain rfl := Option.some.inj h
            simp only []
            omega
        · exact ih _ _ _ h
      · cases h
  unfold rvN rvEnd rvOk readVar
  by_cases ha : 0 ≤ a
  · rw [if_pos ha]
    cases hq : rvGo b a.toNat 5 0 0 with
    | none => simp
    | some q => have := go 5 0 0 q hq; simp; omega
  · rw [if_neg ha]; simp
theorem fix_range (b : List UInt8) (a w : Int) : 0 ≤ fixRead b a w ∧ fixRead b a w ≤ 9223372036854775807 ∧ (fixOk b a w = true → 0 ≤ a ∧ a ≤ b.length) := by
  unfold fixRead
  cases h : fixOk b a w with
  | true => have := (fixOk_iff _ _ _).1 h; simp; omega
  | false => simp
theorem rf_outs (v p : Int) (b : List UInt8) (a : Int) : [C.str (rfRec v p b a), C.int .i64 (rfEnd v p b a), C.bool (rfOk v p b a)] = if inB v 1 2 = true ∧ inB p 0 1000000000 = true ∧ rfHas v b a = true then tailOut v p b a (rfN v b a) (rfFrom v b a) else failRF := by
  unfold rfRec rfEnd rfOk tailOut rfText failRF
  generalize rfHas v b a = x
  generalize rfN v b a = n
  generalize rfFrom v b a = f
  generalize frameText v p ((b.drop f.toNat).take n.toNat) = t
  by_cases h1 : inB v 1 2 = true
  · by_cases h2 : inB p 0 1000000000 = true
    · cases x with
      | false => simp
      | true =>
        by_cases h3 : n ≤ 60 ∧ f + n ≤ b.length
        · by_cases h4 : hasAt b a t = true <;> simp [h1, h2, h3, h4]
        · have h3' : ¬ (n ≤ 60 ∧ f + n ≤ b.length ∧ hasAt b a t = true) := fun h => h3 ⟨h.1, h.2.1⟩
          rw [decide_eq_false h3, if_neg h3']
          simp
    · simp [h2]
  · simp [h1]
theorem lit_must {α : Type} (n : T α) : (T.must true n).eval = n.eval := rfl
theorem lit_yes {α : Type} (y n : T α) : (T.ask true y n).eval = y.eval := rfl
theorem lit_no {α : Type} (y n : T α) : (T.ask false y n).eval = n.eval := rfl
theorem sReadFrame_E : EnvSound Tryz.prog E_sReadFrame := mkE_sound (by simp [sIn_sound, sReadFix_sound, sReadVar_sound, sFrameText_sound])
theorem sReadFrame_sound : Sound Tryz.prog 197 (sg [pI, pI, pS, pI] [rS, rI, rB]) readFrameSpec := vBody_sound sReadFrame_E noInl_ok Tryz.func197 (by kernel_rfl) fun cs outs hk h => by
  unfold readFrameSpec at h
  split at h
  · simp only [Option.some.injEq, Prod.mk.injEq, Bool.and_eq_true, decide_eq_true_eq] at h
    obtain ⟨⟨h1, h2, h3⟩, rfl⟩ := h
    rename_i v p b a
    rw [vBody_L, sReadFrame_tree, rf_outs]
    have pre : (decide (b.length ≤ 281474976710656) && (decide (-9223372036854775808 ≤ a) && decide (a ≤ 9223372036854775807))) = true := by simp [h1, h2, h3]
    obtain ⟨r1, r2, r3, r4, r5⟩ := rv_range b a
    obtain ⟨f1, f2, f3⟩ := fix_range b a 4
    have has_in : rfHas v b a = true → 0 ≤ a ∧ a ≤ b.length := by
      unfold rfHas; split
      · exact f3
      · exact r5
    cases hv : inB v 1 2 with
    | false => simp only [lit_must, lit_no, hv, Bool.false_eq_true, false_and, if_false]; rfl
    | true =>
      cases hp : inB p 0 1000000000 with
      | false => simp only [lit_must, lit_yes, lit_no, hv, hp, Bool.false_eq_true, and_false, false_and, if_false]; rfl
      | true =>
        cases ha : inB a 0 (b.length : Int) with
        | false =>
          have : ¬ rfHas v b a = true := fun h => by
            have := has_in h
            have := (in_iff a 0 (b.length : Int)).2 this
            rw [ha] at this; cases this
          simp only [lit_must, lit_yes, lit_no, hv, hp, ha, this, and_false, if_false]; rfl
        | true =>
          have ha' := (in_iff _ _ _).1 ha
          have w8 : IntKind.i64.wrap (a + 8) = a + 8 := by rw [wrap64] <;> omega
          have e1 := sTail_eval v p b a (fixRead b a 4) (a + 8) h1 f1 f2 (by omega) (by omega) ha'.1 ha'.2 hv hp
          have e2 := sTail_eval v p b a (rvN b a) (rvEnd b a) h1 r1 (by omega) r3 (by omega) ha'.1 ha'.2 hv hp
          by_cases hv2 : v = 2
          · have d2 : decide (v = 2) = true := decide_eq_true hv2
            have hh : rfHas v b a = fixOk b a 4 := by unfold rfHas; rw [if_pos hv2]
            have hn : rfN v b a = fixRead b a 4 := by unfold rfN; rw [if_pos hv2]
            have hf : rfFrom v b a = a + 8 := by unfold rfFrom; rw [if_pos hv2]
            rw [hh, hn, hf]
            cases hk1 : fixOk b a 4 with
            | false => cases hk2 : rvOk b a <;> (simp only [lit_must, lit_yes, lit_no, hv, hp, ha, pre, d2, hk1, hk2, Bool.false_eq_true, if_false, and_false]; rfl)
            | true => cases hk2 : rvOk b a <;> (simp only [lit_must, lit_yes, lit_no, hv, hp, ha, pre, d2, hk1, hk2, w8, true_and, and_self, if_true]; exact e1)
          · have d2 : decide (v = 2) = false := decide_eq_false hv2
            have hh : rfHas v b a = rvOk b a := by unfold rfHas; rw [if_neg hv2]
            have hn : rfN v b a = rvN b a := by unfold rfN; rw [if_neg hv2]
            have hf : rfFrom v b a = rvEnd b a := by unfold rfFrom; rw [if_neg hv2]
            rw [hh, hn, hf]
            cases hk2 : rvOk b a with
            | false => simp only [lit_must, lit_yes, lit_no, hv, hp, ha, pre, hk2, Bool.false_eq_true, if_false, and_false]; first | rfl | (cases hk1 : fixOk b a 4 <;> simp only [lit_must, lit_yes, lit_no, d2] <;> rfl)
            | true => simp only [lit_must, lit_yes, lit_no, hv, hp, ha, pre, d2, hk2, true_and, and_self, if_true]; exact e2
  · cases h
theorem iReadFrame_E : EnvSound Tryz.prog E_iReadFrame := mkE_sound (by simp [iReadFix_sound, iReadVar_sound, iHasAt_sound, iFrameText_sound])
theorem iReadFrame_sound : Sound Tryz.prog 205 (sg [pI, pI, pS, pI] [rS, rI, rB]) readFrameSpec := vBody_sound iReadFrame_E noInl_ok Tryz.func205 (by kernel_rfl) fun cs outs hk h => by
  unfold readFrameSpec at h
  split at h
  · simp only [Option.some.injEq, Prod.mk.injEq, Bool.and_eq_true, decide_eq_true_eq] at h
    obtain ⟨⟨h1, h2, h3⟩, rfl⟩ := h
    rename_i v p b a
    rw [vBody_L, iReadFrame_tree, rf_outs]
    have pre : (decide (b.length ≤ 281474976710656) && (decide (-9223372036854775808 ≤ a) && decide (a ≤ 9223372036854775807))) = true := by simp [h1, h2, h3]
    obtain ⟨r1, r2, r3, r4, r5⟩ := rv_range b a
    obtain ⟨f1, f2, f3⟩ := fix_range b a 4
    by_cases hv2 : v = 2
    · have d2 : decide (v = 2) = true := decide_eq_true hv2
      have hh : rfHas v b a = fixOk b a 4 := by unfold rfHas; rw [if_pos hv2]
      have hn : rfN v b a = fixRead b a 4 := by unfold rfN; rw [if_pos hv2]
      have hf : rfFrom v b a = a + 8 := by unfold rfFrom; rw [if_pos hv2]
      rw [hh, hn, hf]
      cases hk1 : fixOk b a 4 with
      | false => simp only [lit_must, lit_yes, lit_no, pre, d2, hk1, Bool.false_eq_true, and_false, if_false]; rfl
      | true =>
        have ha := f3 hk1
        have w8 : IntKind.i64.wrap (a + 8) = a + 8 := by rw [wrap64] <;> omega
        have e1 := iTail_eval v p b a (fixRead b a 4) (a + 8) h1 f1 f2 (by omega) (by omega) h3
        simp only [lit_must, lit_yes, lit_no, pre, d2, hk1, w8, and_true]
        exact e1
    · have d2 : decide (v = 2) = false := decide_eq_false hv2
      have hh : rfHas v b a = rvOk b a := by unfold rfHas; rw [if_neg hv2]
      have hn : rfN v b a = rvN b a := by unfold rfN; rw [if_neg hv2]
      have hf : rfFrom v b a = rvEnd b a := by unfold rfFrom; rw [if_neg hv2]
      rw [hh, hn, hf]
      cases hk1 : rvOk b a with
      | false => simp only [lit_must, lit_yes, lit_no, pre, d2, hk1, Bool.false_eq_true, and_false, if_false]; rfl
      | true =>
        have e1 := iTail_eval v p b a (rvN b a) (rvEnd b a) h1 r1 (by omega) r3 (by omega) h3
        simp only [lit_must, lit_yes, lit_no, pre, d2, hk1, and_true]
        exact e1
  · cases h

end Go.Proofs.YtggmbjbmklimdaaGreatDoor.V

namespace Go.Proofs.YtggmbjbmklimdaaGreatDoor.V
noncomputable section

def rScan : RTy := ⟨true, [(.bool, false), (.int .i64, false), (.int .i64, false), (.int .i64, false), (.int .i64, false), (.slice 9, true), (.slice 3, true), (.int .i64, false), (.bool, false)]⟩
/-- scan on from a place: the frames' records and places, the end, is there a mark -/
def scanGo (v p : Int) (b : List UInt8) : Nat → Int → Int → List (List UInt8) → List Int → (List (List UInt8) × List Int × Int × Bool)
  | 0, _, e, rs, os => (rs, os, e, false)
  | f + 1, k, e, rs, os => if markAt v (p + k) b e then (rs, os, e, true) else if rfOk v (p + k) b e then scanGo v p b f (k + 1) (rfEnd v (p + k) b e) (rs ++ [rfRec v (p + k) b e]) (os ++ [e]) else (rs, os, e, false)
def scanOf (b : List UInt8) : List (List UInt8) × List Int × Int × Bool := if readHeadOk b then scanGo (rhV b) (rhB b) b (b.length + 1) 0 24 [] [] else ([], [], 0, false)
def scRecs (b : List UInt8) : List (List UInt8) := (scanOf b).1
def scOffs (b : List UInt8) : List Int := (scanOf b).2.1
def scEnd (b : List UInt8) : Int := (scanOf b).2.2.1
def scMark (b : List UInt8) : Bool := (scanOf b).2.2.2
def scanSpec : Spec := fun cs => match cs with
  | [.str b] => some (decide (b.length ≤ 1048576), [.bool (readHeadOk b), .int .i64 (ifI (readHeadOk b) (rhV b)), .int .i64 (ifI (readHeadOk b) (rhS b)), .int .i64 (ifI (readHeadOk b) (rhB b)), .int .i64 (ifI (readHeadOk b) (rhL b)), .sl ((scRecs b).map eStr), .sl ((scOffs b).map eInt), .int .i64 (scEnd b), .bool (scMark b)])
  | _ => none
def H_sScanTexta (b : List UInt8) (v s bb l e : Int) : St := { slots := [(0, wstr b), (2, .l (.ptr 0 0)), (3, .l (.ptr 1 0)), (5, .l (.ptr 2 0))], heap := [(0, .box [.b false, .i .i64 0, .i .i64 0, .i .i64 0, .i .i64 0, .nil, .nil, .i .i64 0, .b false]), (1, .box [.i .i64 v, .i .i64 s, .i .i64 bb, .i .i64 l]), (2, .box [.b true, .i .i64 v, .i .i64 s, .i .i64 bb, .i .i64 l, .nil, .nil, .i .i64 e, .b false])], next := 3, pins := [] }
def H_sScanTextb (b : List UInt8) (v s bb l e : Int) (n : Nat) (r : List (List C)) (m : Nat) (o : List (List C)) : St := { slots := [(0, wstr b), (2, .l (.ptr 0 0)), (3, .l (.ptr 1 0)), (5, .l (.ptr 2 0))], heap := [(0, .box [.b false, .i .i64 0, .i .i64 0, .i .i64 0, .i .i64 0, .nil, .nil, .i .i64 0, .b false]), (1, .box [.i .i64 v, .i .i64 s, .i .i64 bb, .i .i64 l]), (2, .box [.b true, .i .i64 v, .i .i64 s, .i .i64 bb, .i .i64 l, .ref 3 0 n, .ref 4 0 m, .i .i64 e, .b false]), (3, .arr 1 r), (4, .arr 1 o)], next := 5, pins := [] }
def H_iScanTexta (b : List UInt8) (v s bb l e : Int) : St := { slots := [(0, wstr b), (2, .l (.ptr 0 0)), (3, .l (.ptr 1 0)), (5, .l (.ptr 2 0))], heap := [(0, .box [.b false, .i .i64 0, .i .i64 0, .i .i64 0, .i .i64 0, .nil, .nil, .i .i64 0, .b false]), (1, .box [.i .i64 v, .i .i64 s, .i .i64 bb, .i .i64 l]), (2, .box [.b true, .i .i64 v, .i .i64 s, .i .i64 bb, .i .i64 l, .nil, .nil, .i .i64 e, .b false])], next := 3, pins := [] }
def H_iScanTextb (b : List UInt8) (v s bb l e : Int) (n : Nat) (r : List (List C)) (m : Nat) (o : List (List C)) : St := { slots := [(0, wstr b), (2, .l (.ptr 0 0)), (3, .l (.ptr 1 0)), (5, .l (.ptr 2 0))], heap := [(0, .box [.b false, .i .i64 0, .i .i64 0, .i .i64 0, .i .i64 0, .nil, .nil, .i .i64 0, .b false]), (1, .box [.i .i64 v, .i .i64 s, .i .i64 bb, .i .i64 l]), (2, .box [.b true, .i .i64 v, .i .i64 s, .i .i64 bb, .i .i64 l, .ref 3 0 n, .ref 4 0 m, .i .i64 e, .b false]), (3, .arr 1 r), (4, .arr 1 o)], next := 5, pins := [] }
def E_sScanText : Env := mkE [(5, [0, 2, 3, 5])] [(195, (sg [pS] [rHead, rB]), readHeadSpec), (196, (sg [pI, pI, pS, pI] [rB]), markAtSpec), (197, (sg [pI, pI, pS, pI] [rS, rI, rB]), readFrameSpec)]
def E_iScanText : Env := mkE [(5, [0, 2, 3, 5])] [(203, (sg [pS] [rHead, rB]), readHeadSpec), (204, (sg [pI, pI, pS, pI] [rB]), markAtSpec), (205, (sg [pI, pI, pS, pI] [rS, rI, rB]), readFrameSpec)]

end
end Go.Proofs.YtggmbjbmklimdaaGreatDoor.V

namespace Go.Proofs.YtggmbjbmklimdaaGreatDoor.V
set_option maxRecDepth 100000
theorem sScanText_tree (H : List Pt → Nat → St → T (List C)) (b : List UInt8) : vBodyL E_sScanText noInl (sg [pS] [rScan]) Tryz.f161 H [C.str b] =
 (.must true
 (.must true
  (.must (decide (b.length ≤ (281474976710656 : Nat)))
   (.must true
    (.ask (readHeadOk b)
     (H [Pt.r, Pt.r, Pt.r, Pt.r, Pt.b] (9223372036854775808 : Nat) (H_sScanTexta (b) (ifI (readHeadOk b) (rhV b)) (ifI (readHeadOk b) (rhS b)) (ifI (readHeadOk b) (rhB b)) (ifI (readHeadOk b) (rhL b)) ((24 : Int))))
     (.must true
      (.ret [C.bool false, C.int IntKind.i64 (0 : Int), C.int IntKind.i64 (0 : Int), C.int IntKind.i64 (0 : Int),
  C.int IntKind.i64 (0 : Int), C.sl [], C.sl [], C.int IntKind.i64 (0 : Int), C.bool false]))))))) := by kernel_rfl
theorem iScanText_tree (H : List Pt → Nat → St → T (List C)) (b : List UInt8) : vBodyL E_iScanText noInl (sg [pS] [rScan]) Tryz.f164 H [C.str b] =
 (.must true
 (.must true
  (.must (decide (b.length ≤ (281474976710656 : Nat)))
   (.must true
    (.ask (readHeadOk b)
     (H [Pt.r, Pt.r, Pt.r, Pt.r, Pt.b] (9223372036854775808 : Nat) (H_iScanTexta (b) (ifI (readHeadOk b) (rhV b)) (ifI (readHeadOk b) (rhS b)) (ifI (readHeadOk b) (rhB b)) (ifI (readHeadOk b) (rhL b)) ((24 : Int))))
     (.must true
      (.ret [C.bool false, C.int IntKind.i64 (0 : Int), C.int IntKind.i64 (0 : Int), C.int IntKind.i64 (0 : Int),
  C.int IntKind.i64 (0 : Int), C.sl [], C.sl [], C.int IntKind.i64 (0 : Int), C.bool false]))))))) := by kernel_rfl
theorem sScanText_round0a (H : List Pt → Nat → St → T (List C)) (b : List UInt8) (v : Int) (s : Int) (q : Int) (l : Int) (e : Int) (k : Nat) : vRound E_sScanText noInl (sg [pS] [rScan]) Tryz.f161 H [Pt.r, Pt.r, Pt.r, Pt.r, Pt.b] k (H_sScanTexta b v s q l e) =
 (.must true
 (.must (decide (b.length ≤ (281474976710656 : Nat)))
  (.must true
   (.ask (markAt v (IntKind.i64.wrap (q + (0 : Int))) b e)
    (.must true
     (.ret [C.bool true, C.int IntKind.i64 v, C.int IntKind.i64 s, C.int IntKind.i64 q, C.int IntKind.i64 l, C.sl [], C.sl [],
  C.int IntKind.i64 e, C.bool true]))
    (.must true
     (.must (decide (b.length ≤ (281474976710656 : Nat)) &&
  (decide ((-9223372036854775808 : Int) ≤ e) && decide (e ≤ (9223372036854775807 : Int))))
      (.must true
       (.ask (rfOk v (IntKind.i64.wrap (q + (0 : Int))) b e)
        (.must true
         (.must true
          (H [Pt.r, Pt.r, Pt.r, Pt.r, Pt.b] k (H_sScanTextb (b) (v) (s) (q) (l) (rfEnd v (IntKind.i64.wrap (q + (0 : Int))) b e) ((1 : Nat)) ([[C.str (rfRec v (IntKind.i64.wrap (q + (0 : Int))) b e)]]) ((1 : Nat)) ([[C.int IntKind.i64 e]])))))
        (.must true
         (.ret [C.bool true, C.int IntKind.i64 v, C.int IntKind.i64 s, C.int IntKind.i64 q, C.int IntKind.i64 l, C.sl [], C.sl [],
  C.int IntKind.i64 e, C.bool false])))))))))) := by kernel_rfl
theorem iScanText_round0a (H : List Pt → Nat → St → T (List C)) (b : List UInt8) (v : Int) (s : Int) (q : Int) (l : Int) (e : Int) (k : Nat) : vRound E_iScanText noInl (sg [pS] [rScan]) Tryz.f164 H [Pt.r, Pt.r, Pt.r, Pt.r, Pt.b] k (H_iScanTexta b v s q l e) =
 (.must true
 (.must (decide (b.length ≤ (281474976710656 : Nat)))
  (.must true
   (.ask (markAt v (IntKind.i64.wrap (q + (0 : Int))) b e)
    (.must true
     (.ret [C.bool true, C.int IntKind.i64 v, C.int IntKind.i64 s, C.int IntKind.i64 q, C.int IntKind.i64 l, C.sl [], C.sl [],
  C.int IntKind.i64 e, C.bool true]))
    (.must true
     (.must (decide (b.length ≤ (281474976710656 : Nat)) &&
  (decide ((-9223372036854775808 : Int) ≤ e) && decide (e ≤ (9223372036854775807 : Int))))
      (.must true
       (.ask (rfOk v (IntKind.i64.wrap (q + (0 : Int))) b e)
        (.must true
         (.must true
          (H [Pt.r, Pt.r, Pt.r, Pt.r, Pt.b] k (H_iScanTextb (b) (v) (s) (q) (l) (rfEnd v (IntKind.i64.wrap (q + (0 : Int))) b e) ((1 : Nat)) ([[C.str (rfRec v (IntKind.i64.wrap (q + (0 : Int))) b e)]]) ((1 : Nat)) ([[C.int IntKind.i64 e]])))))
        (.must true
         (.ret [C.bool true, C.int IntKind.i64 v, C.int IntKind.i64 s, C.int IntKind.i64 q, C.int IntKind.i64 l, C.sl [], C.sl [],
  C.int IntKind.i64 e, C.bool false])))))))))) := by kernel_rfl
theorem sScanText_round0b (H : List Pt → Nat → St → T (List C)) (b : List UInt8) (v : Int) (s : Int) (q : Int) (l : Int) (e : Int) (n : Nat) (r : List (List C)) (n2 : Nat) (o : List (List C)) (k : Nat) : vRound E_sScanText noInl (sg [pS] [rScan]) Tryz.f161 H [Pt.r, Pt.r, Pt.r, Pt.r, Pt.b] k
  (H_sScanTextb b v s q l e n r n2 o) =
 (.must true
 (.must (decide (b.length ≤ (281474976710656 : Nat)))
  (.must true
   (.ask (markAt v (IntKind.i64.wrap (q + (↑n : Int))) b e)
    (.must (true && (false || true) &&
      (true && (false || true) &&
        (true && (false || true) &&
          (true && (false || true) &&
            (true && (false || true) &&
              (decide (n = r.length) && (false || r.all fun r => r.all C.flat) &&
                (decide (n2 = o.length) && (false || o.all fun r => r.all C.flat) &&
                  (true && (false || true) && (true && (false || true) && true)))))))) &&
    true &&
  true)
     (.ret [C.bool true, C.int IntKind.i64 v, C.int IntKind.i64 s, C.int IntKind.i64 q, C.int IntKind.i64 l, C.sl r, C.sl o,
  C.int IntKind.i64 e, C.bool true]))
    (.must true
     (.must (decide (b.length ≤ (281474976710656 : Nat)) &&
  (decide ((-9223372036854775808 : Int) ≤ e) && decide (e ≤ (9223372036854775807 : Int))))
      (.must true
       (.ask (rfOk v (IntKind.i64.wrap (q + (↑n : Int))) b e)
        (.must (decide (n = r.length) && roomy (r.length + (1 : Nat)) (16 : Nat) && (decide ((1 : Nat) = (1 : Nat)) && true))
         (.must (decide (n2 = o.length) && roomy (o.length + (1 : Nat)) (8 : Nat) && (decide ((1 : Nat) = (1 : Nat)) && true))
          (H [Pt.r, Pt.r, Pt.r, Pt.r, Pt.b] k (H_sScanTextb (b) (v) (s) (q) (l) (rfEnd v (IntKind.i64.wrap (q + (↑n : Int))) b e) (r.length + (1 : Nat)) (r.append [[C.str (rfRec v (IntKind.i64.wrap (q + (↑n : Int))) b e)]]) (o.length + (1 : Nat)) (o.append [[C.int IntKind.i64 e]])))))
        (.must (true && (false || true) &&
      (true && (false || true) &&
        (true && (false || true) &&
          (true && (false || true) &&
            (true && (false || true) &&
              (decide (n = r.length) && (false || r.all fun r => r.all C.flat) &&
                (decide (n2 = o.length) && (false || o.all fun r => r.all C.flat) &&
                  (true && (false || true) && (true && (false || true) && true)))))))) &&
    true &&
  true)
         (.ret [C.bool true, C.int IntKind.i64 v, C.int IntKind.i64 s, C.int IntKind.i64 q, C.int IntKind.i64 l, C.sl r, C.sl o,
  C.int IntKind.i64 e, C.bool false])))))))))) := by kernel_rfl
theorem iScanText_round0b (H : List Pt → Nat → St → T (List C)) (b : List UInt8) (v : Int) (s : Int) (q : Int) (l : Int) (e : Int) (n : Nat) (r : List (List C)) (n2 : Nat) (o : List (List C)) (k : Nat) : vRound E_iScanText noInl (sg [pS] [rScan]) Tryz.f164 H [Pt.r, Pt.r, Pt.r, Pt.r, Pt.b] k
  (H_iScanTextb b v s q l e n r n2 o) =
 (.must true
 (.must (decide (b.length ≤ (281474976710656 : Nat)))
  (.must true
   (.ask (markAt v (IntKind.i64.wrap (q + (↑n : Int))) b e)
    (.must (true && (false || true) &&
      (true && (false || true) &&
        (true && (false || true) &&
          (true && (false || true) &&
            (true && (false || true) &&
              (decide (n = r.length) && (false || r.all fun r => r.all C.flat) &&
                (decide (n2 = o.length) && (false || o.all fun r => r.all C.flat) &&
                  (true && (false || true) && (true && (false || true) && true)))))))) &&
    true &&
  true)
     (.ret [C.bool true, C.int IntKind.i64 v, C.int IntKind.i64 s, C.int IntKind.i64 q, C.int IntKind.i64 l, C.sl r, C.sl o,
  C.int IntKind.i64 e, C.bool true]))
    (.must true
     (.must (decide (b.length ≤ (281474976710656 : Nat)) &&
  (decide ((-9223372036854775808 : Int) ≤ e) && decide (e ≤ (9223372036854775807 : Int))))
      (.must true
       (.ask (rfOk v (IntKind.i64.wrap (q + (↑n : Int))) b e)
        (.must (decide (n = r.length) && roomy (r.length + (1 : Nat)) (16 : Nat) && (decide ((1 : Nat) = (1 : Nat)) && true))
         (.must (decide (n2 = o.length) && roomy (o.length + (1 : Nat)) (8 : Nat) && (decide ((1 : Nat) = (1 : Nat)) && true))
          (H [Pt.r, Pt.r, Pt.r, Pt.r, Pt.b] k (H_iScanTextb (b) (v) (s) (q) (l) (rfEnd v (IntKind.i64.wrap (q + (↑n : Int))) b e) (r.length + (1 : Nat)) (r.append [[C.str (rfRec v (IntKind.i64.wrap (q + (↑n : Int))) b e)]]) (o.length + (1 : Nat)) (o.append [[C.int IntKind.i64 e]])))))
        (.must (true && (false || true) &&
      (true && (false || true) &&
        (true && (false || true) &&
          (true && (false || true) &&
            (true && (false || true) &&
              (decide (n = r.length) && (false || r.all fun r => r.all C.flat) &&
                (decide (n2 = o.length) && (false || o.all fun r => r.all C.flat) &&
                  (true && (false || true) && (true && (false || true) && true)))))))) &&
    true &&
  true)
         (.ret [C.bool true, C.int IntKind.i64 v, C.int IntKind.i64 s, C.int IntKind.i64 q, C.int IntKind.i64 l, C.sl r, C.sl o,
  C.int IntKind.i64 e, C.bool false])))))))))) := by kernel_rfl
end Go.Proofs.YtggmbjbmklimdaaGreatDoor.V

namespace Go.Proofs.YtggmbjbmklimdaaGreatDoor.V

def scOut (v s q l : Int) (x : List (List UInt8) × List Int × Int × Bool) : List C := [.bool true, .int .i64 v, .int .i64 s, .int .i64 q, .int .i64 l, .sl (x.1.map eStr), .sl (x.2.1.map eInt), .int .i64 x.2.2.1, .bool x.2.2.2]
theorem rfOk_end (v p : Int) (b : List UInt8) (a : Int) (h : rfOk v p b a = true) : a + 1 ≤ rfEnd v p b a ∧ rfEnd v p b a ≤ b.length ∧ 0 ≤ a := by
  unfold rfEnd
  rw [if_pos h]
  unfold rfOk at h
  simp only [Bool.and_eq_true, decide_eq_true_eq] at h
  obtain ⟨⟨⟨⟨hv, hp⟩, hh⟩, hn1, hn2⟩, ha⟩ := h
  have hl : (rfText v b a).length ≤ 60 := by unfold rfText; simp; omega
  have hne := frameText_ne v p (rfText v b a) hv hp hl
  obtain ⟨h1, h2, h3⟩ := (hasAt_iff _ _ _).1 ha
  generalize frameText v p (rfText v b a) = t at hne h3
  have hpos : 0 < t.length := List.length_pos_iff.2 hne
  have := congrArg List.length h3
  simp at this
  omega
theorem app_str (rs : List (List UInt8)) (x : List UInt8) : (rs.map eStr).append [[C.str x]] = (rs ++ [x]).map eStr := by simp
theorem app_int (rs : List Int) (x : Int) : (rs.map eInt).append [[C.int .i64 x]] = (rs ++ [x]).map eInt := by simp
theorem sScanText_loopb (b : List UInt8) (v s q l : Int) (hb : b.length ≤ 1048576) (hq : 0 ≤ q ∧ q ≤ 1000000000) : ∀ (n f : Nat) (e : Int) (rs : List (List UInt8)) (os : List Int), 0 ≤ e → e ≤ b.length → (b.length : Int) < e + n → (b.length : Int) < e + f → rs.length = os.length → (rs.length : Int) ≤ e →
    (vLoop E_sScanText noInl (sg [pS] [rScan]) Tryz.f161 [.r, .r, .r, .r, .b] n (H_sScanTextb b v s q l e rs.length (rs.map eStr) os.length (os.map eInt))).eval = some (scOut v s q l (scanGo v q b f rs.length e rs os)) := by
  intro n
  induction n with
  | zero => intro f e rs os h0 h1 h2 h3 h4 h5; omega
  | succ n ih =>
    intro f e rs os h0 h1 h2 h3 h4 h5
    obtain ⟨f, rfl⟩ : ∃ g, f = g + 1 := ⟨f - 1, by omega⟩
    rw [vLoop_L _ _ _ _ _ _ _ (by kernel_rfl), sScanText_round0b]
    have w : IntKind.i64.wrap (q + (rs.length : Int)) = q + (rs.length : Int) := by rw [wrap64] <;> omega
    have pre1 : decide (b.length ≤ 281474976710656) = true := decide_eq_true (by omega)
    have pre2 : (decide ((-9223372036854775808 : Int) ≤ e) && decide (e ≤ (9223372036854775807 : Int))) = true := by simp; omega
    have ro1 : roomy (rs.length + 1) 16 = true := by simp only [roomy, decide_eq_true_eq]; omega
    have ro2 : roomy (os.length + 1) 8 = true := by simp only [roomy, decide_eq_true_eq]; omega
    have fl1 := flat_strs rs
    have fl2 := flat_ints os
    rw [w]
    simp only [scanGo]
    cases hm : markAt v (q + (rs.length : Int)) b e with
    | true =>
      simp only [lit_must, lit_yes, pre1, hm, eval_must', eval_ret', List.length_map, decide_true, fl1, fl2, Bool.false_or, Bool.or_true, Bool.and_self, if_true]
      rfl
    | false =>
      cases ho : rfOk v (q + (rs.length : Int)) b e with
      | true =>
        obtain ⟨g1, g2, g3⟩ := rfOk_end _ _ _ _ ho
        have e1 := ih f (rfEnd v (q + (rs.length : Int)) b e) (rs ++ [rfRec v (q + (rs.length : Int)) b e]) (os ++ [e]) (by omega) g2 (by omega) (by omega) (by simp; omega) (by simp; omega)
        simp only [lit_must, lit_yes, lit_no, pre1, pre2, hm, ho, eval_must', List.length_map, decide_true, ro1, ro2, Bool.and_self, Bool.and_true, if_true, app_str, app_int, Bool.false_eq_true, if_false]
        simp only [List.length_append, List.length_cons, List.length_nil, Nat.zero_add, Int.natCast_add, Int.natCast_one] at e1 ⊢
        exact e1
      | false =>
        simp only [lit_must, lit_yes, lit_no, pre1, pre2, hm, ho, eval_must', eval_ret', List.length_map, decide_true, fl1, fl2, Bool.false_or, Bool.or_true, Bool.and_self, if_true, Bool.false_eq_true, if_false]
        rfl
theorem sScanText_loopa (b : List UInt8) (v s q l : Int) (hb : b.length ≤ 1048576) (h24 : 24 ≤ b.length) (hq : 0 ≤ q ∧ q ≤ 1000000000) (n : Nat) (hn : b.length < n) :
    (vLoop E_sScanText noInl (sg [pS] [rScan]) Tryz.f161 [.r, .r, .r, .r, .b] (n + 1) (H_sScanTexta b v s q l 24)).eval = some (scOut v s q l (scanGo v q b (b.length + 1) 0 24 [] [])) := by
  rw [vLoop_L _ _ _ _ _ _ _ (by kernel_rfl), sScanText_round0a]
  have w : IntKind.i64.wrap (q + 0) = q + 0 := by rw [wrap64] <;> omega
  have pre1 : decide (b.length ≤ 281474976710656) = true := decide_eq_true (by omega)
  have pre2 : (decide ((-9223372036854775808 : Int) ≤ 24) && decide ((24 : Int) ≤ (9223372036854775807 : Int))) = true := by decide
  rw [w]
  simp only [scanGo]
  cases hm : markAt v (q + 0) b 24 with
  | true =>
    simp only [lit_must, lit_yes, pre1, hm, eval_must', eval_ret', if_true]
    rfl
  | false =>
    cases ho : rfOk v (q + 0) b 24 with
    | true =>
      obtain ⟨g1, g2, g3⟩ := rfOk_end _ _ _ _ ho
      have e1 := sScanText_loopb b v s q l hb hq n b.length (rfEnd v (q + 0) b 24) [rfRec v (q + 0) b 24] [24] (by omega) g2 (by omega) (by omega) rfl (by show (1 : Int) ≤ _; omega)
      simp only [lit_must, lit_yes, lit_no, pre1, pre2, hm, ho, Bool.and_self, Bool.false_eq_true, if_false, if_true, List.nil_append]
      exact e1
    | false =>
      simp only [lit_must, lit_yes, lit_no, pre1, pre2, hm, ho, eval_must', eval_ret', if_true, Bool.and_self, Bool.false_eq_true, if_false]
      rfl
theorem sScanText_E : EnvSound Tryz.prog E_sScanText := mkE_sound (by simp [sReadHead_sound, sMarkAt_sound, sReadFrame_sound])
theorem sScanText_sound : Sound Tryz.prog 161 (sg [pS] [rScan]) scanSpec := vBody_sound sScanText_E noInl_ok Tryz.func161 (by kernel_rfl) fun cs outs hk h => by
  unfold scanSpec at h
  split at h
  · simp only [Option.some.injEq, Prod.mk.injEq, decide_eq_true_eq] at h
    obtain ⟨h1, rfl⟩ := h
    rename_i b
    rw [vBody_L, sScanText_tree]
    have pre1 : decide (b.length ≤ 281474976710656) = true := decide_eq_true (by omega)
    cases hr : readHeadOk b with
    | false =>
      have e1 : scanOf b = ([], [], 0, false) := by unfold scanOf; rw [hr]; rfl
      simp only [lit_must, lit_yes, lit_no, pre1, hr, eval_must', eval_ret', if_true, scRecs, scOffs, scEnd, scMark, e1, ifI, Bool.false_eq_true, if_false]
      rfl
    | true =>
      have h24 : 24 ≤ b.length ∧ fixOk b 8 8 = true ∧ headText (rhV b) (rhS b) (rhB b) (rhL b) = b.take 24 := by
        unfold readHeadOk at hr
        simpa [and_assoc] using hr
      have hq : 0 ≤ rhB b ∧ rhB b ≤ 1000000000 := by
        have ht := h24.2.2
        cases hk : headOk (rhV b) (rhS b) (rhB b) (rhL b) with
        | true => have := (headOk_iff _ _ _ _).1 hk; exact this.2.2.1
        | false =>
          unfold headText at ht
          rw [hk] at ht
          have := congrArg List.length ht
          simp at this
          omega
      have e1 : scanOf b = scanGo (rhV b) (rhB b) b (b.length + 1) 0 24 [] [] := by unfold scanOf; rw [hr]; rfl
      have lp := sScanText_loopa b (rhV b) (rhS b) (rhB b) (rhL b) h1 h24.1 hq 9223372036854775807 (by omega)
      rw [← e1] at lp
      simp only [lit_must, lit_yes, lit_no, pre1, hr, ifI, if_true]
      exact lp
  · cases h
theorem iScanText_loopb (b : List UInt8) (v s q l : Int) (hb : b.length ≤ 1048576) (hq : 0 ≤ q ∧ q ≤ 1000000000) : ∀ (n f : Nat) (e : Int) (rs : List (List UInt8)) (os : List Int), 0 ≤ e → e ≤ b.length → (b.length : Int) < e + n → (b.length : Int) < e + f → rs.length = os.length → (rs.length : Int) ≤ e →
    (vLoop E_iScanText noInl (sg [pS] [rScan]) Tryz.f164 [.r, .r, .r, .r, .b] n (H_iScanTextb b v s q l e rs.length (rs.map eStr) os.length (os.map eInt))).eval = some (scOut v s q l (scanGo v q b f rs.length e rs os)) := by
  intro n
  induction n with
  | zero => intro f e rs os h0 h1 h2 h3 h4 h5; omega
  | succ n ih =>
    intro f e rs os h0 h1 h2 h3 h4 h5
    obtain ⟨f, rfl⟩ : ∃ g, f = g + 1 := ⟨f - 1, by omega⟩
    rw [vLoop_L _ _ _ _ _ _ _ (by kernel_rfl), iScanText_round0b]
    have w : IntKind.i64.wrap (q + (rs.length : Int)) = q + (rs.length : Int) := by rw [wrap64] <;> omega
    have pre1 : decide (b.length ≤ 281474976710656) = true := decide_eq_true (by omega)
    have pre2 : (decide ((-9223372036854775808 : Int) ≤ e) && decide (e ≤ (9223372036854775807 : Int))) = true := by simp; omega
    have ro1 : roomy (rs.length + 1) 16 = true := by simp only [roomy, decide_eq_true_eq]; omega
    have ro2 : roomy (os.length + 1) 8 = true := by simp only [roomy, decide_eq_true_eq]; omega
    have fl1 := flat_strs rs
    have fl2 := flat_ints os
    rw [w]
    simp only [scanGo]
    cases hm : markAt v (q + (rs.length : Int)) b e with
    | true =>
      simp only [lit_must, lit_yes, pre1, hm, eval_must', eval_ret', List.length_map, decide_true, fl1, fl2, Bool.false_or, Bool.or_true, Bool.and_self, if_true]
      rfl
    | false =>
      cases ho : rfOk v (q + (rs.length : Int)) b e with
      | true =>
        obtain ⟨g1, g2, g3⟩ := rfOk_end _ _ _ _ ho
        have e1 := ih f (rfEnd v (q + (rs.length : Int)) b e) (rs ++ [rfRec v (q + (rs.length : Int)) b e]) (os ++ [e]) (by omega) g2 (by omega) (by omega) (by simp; omega) (by simp; omega)
        simp only [lit_must, lit_yes, lit_no, pre1, pre2, hm, ho, eval_must', List.length_map, decide_true, ro1, ro2, Bool.and_self, Bool.and_true, if_true, app_str, app_int, Bool.false_eq_true, if_false]
        simp only [List.length_append, List.length_cons, List.length_nil, Nat.zero_add, Int.natCast_add, Int.natCast_one] at e1 ⊢
        exact e1
      | false =>
        simp only [lit_must, lit_yes, lit_no, pre1, pre2, hm, ho, eval_must', eval_ret', List.length_map, decide_true, fl1, fl2, Bool.false_or, Bool.or_true, Bool.and_self, if_true, Bool.false_eq_true, if_false]
        rfl
theorem iScanText_loopa (b : List UInt8) (v s q l : Int) (hb : b.length ≤ 1048576) (h24 : 24 ≤ b.length) (hq : 0 ≤ q ∧ q ≤ 1000000000) (n : Nat) (hn : b.length < n) :
    (vLoop E_iScanText noInl (sg [pS] [rScan]) Tryz.f164 [.r, .r, .r, .r, .b] (n + 1) (H_iScanTexta b v s q l 24)).eval = some (scOut v s q l (scanGo v q b (b.length + 1) 0 24 [] [])) := by
  rw [vLoop_L _ _ _ _ _ _ _ (by kernel_rfl), iScanText_round0a]
  have w : IntKind.i64.wrap (q + 0) = q + 0 := by rw [wrap64] <;> omega
  have pre1 : decide (b.length ≤ 281474976710656) = true := decide_eq_true (by omega)
  have pre2 : (decide ((-9223372036854775808 : Int) ≤ 24) && decide ((24 : Int) ≤ (9223372036854775807 : Int))) = true := by decide
  rw [w]
  simp only [scanGo]
  cases hm : markAt v (q + 0) b 24 with
  | true =>
    simp only [lit_must, lit_yes, pre1, hm, eval_must', eval_ret', if_true]
    rfl
  | false =>
    cases ho : rfOk v (q + 0) b 24 with
    | true =>
      obtain ⟨g1, g2, g3⟩ := rfOk_end _ _ _ _ ho
      have e1 := iScanText_loopb b v s q l hb hq n b.length (rfEnd v (q + 0) b 24) [rfRec v (q + 0) b 24] [24] (by omega) g2 (by omega) (by omega) rfl (by show (1 : Int) ≤ _; omega)
      simp only [lit_must, lit_yes, lit_no, pre1, pre2, hm, ho, Bool.and_self, Bool.false_eq_true, if_false, if_true, List.nil_append]
      exact e1
    | false =>
      simp only [lit_must, lit_yes, lit_no, pre1, pre2, hm, ho, eval_must', eval_ret', if_true, Bool.and_self, Bool.false_eq_true, if_false]
      rfl
theorem iScanText_E : EnvSound Tryz.prog E_iScanText := mkE_sound (by simp [iReadHead_sound, iMarkAt_sound, iReadFrame_sound])
theorem iScanText_sound : Sound Tryz.prog 164 (sg [pS] [rScan]) scanSpec := vBody_sound iScanText_E noInl_ok Tryz.func164 (by kernel_rfl) fun cs outs hk h => by
  unfold scanSpec at h
  split at h
  · simp only [Option.some.injEq, Prod.mk.injEq, decide_eq_true_eq] at h
    obtain ⟨h1, rfl⟩ := h
    rename_i b
    rw [vBody_L, iScanText_tree]
    have pre1 : decide (b.length ≤ 281474976710656) = true := decide_eq_true (by omega)
    cases hr : readHeadOk b with
    | false =>
      have e1 : scanOf b = ([], [], 0, false) := by unfold scanOf; rw [hr]; rfl
      simp only [lit_must, lit_yes, lit_no, pre1, hr, eval_must', eval_ret', if_true, scRecs, scOffs, scEnd, scMark, e1, ifI, Bool.false_eq_true, if_false]
      rfl
    | true =>
      have h24 : 24 ≤ b.length ∧ fixOk b 8 8 = true ∧ headText (rhV b) (rhS b) (rhB b) (rhL b) = b.take 24 := by
        unfold readHeadOk at hr
        simpa [and_assoc] using hr
      have hq : 0 ≤ rhB b ∧ rhB b ≤ 1000000000 := by
        have ht := h24.2.2
        cases hk : headOk (rhV b) (rhS b) (rhB b) (rhL b) with
        | true => have := (headOk_iff _ _ _ _).1 hk; exact this.2.2.1
        | false =>
          unfold headText at ht
          rw [hk] at ht
          have := congrArg List.length ht
          simp at this
          omega
      have e1 : scanOf b = scanGo (rhV b) (rhB b) b (b.length + 1) 0 24 [] [] := by unfold scanOf; rw [hr]; rfl
      have lp := iScanText_loopa b (rhV b) (rhS b) (rhB b) (rhL b) h1 h24.1 hq 9223372036854775807 (by omega)
      rw [← e1] at lp
      simp only [lit_must, lit_yes, lit_no, pre1, hr, ifI, if_true]
      exact lp
  · cases h

end Go.Proofs.YtggmbjbmklimdaaGreatDoor.V
