/- Functions of the given program and of its reference: what each returns, as an equation over data; by the interpreter. -/
import Derived.Test.YthpamcbipmkimaaVG
import Derived.Test.YthpamcbipmkimaaProg
import Derived.KernelRfl
set_option linter.unusedVariables false
set_option linter.unusedSimpArgs false
set_option linter.unusedSectionVars false
set_option linter.deprecated false
namespace Go.Proofs.Ythpamcbipmkimaa.V
noncomputable section
def tyTab : List (TypeId × TI) := [(2, ⟨false, [.int .i64], [], 8, false⟩),
  (3, ⟨false, [.int .i64], [], 8, false⟩),
  (4, ⟨false, [.bool], [], 1, false⟩),
  (5, ⟨false, [.int .u8], [], 1, false⟩),
  (6, ⟨false, [.int .u8], [], 1, false⟩),
  (7, ⟨true, [.int .i64, .int .i64, .bool, .int .u8], [(0, 2), (1, 3), (2, 4), (3, 6)], 24, false⟩),
  (8, ⟨true, [.int .i64, .int .i64, .bool, .int .u8], [(0, 2), (1, 3), (2, 4), (3, 6)], 24, false⟩),
  (9, ⟨false, [.str], [], 16, false⟩),
  (10, ⟨false, [.str], [], 16, false⟩),
  (11, ⟨false, [.str], [], 16, false⟩),
  (12, ⟨false, [.int .u64], [], 8, false⟩),
  (13, ⟨true, [.str, .int .u64], [(0, 9), (1, 12)], 24, false⟩),
  (14, ⟨true, [.str, .int .u64], [(0, 9), (1, 12)], 24, false⟩),
  (21, ⟨false, [.int .i32], [], 4, false⟩),
  (23, ⟨false, [.slice 3], [], 24, false⟩),
  (24, ⟨true, [.int .i64, .str, .int .i64, .slice 3], [(0, 3), (1, 9), (2, 3), (3, 23)], 56, false⟩),
  (25, ⟨true, [.int .i64, .str, .int .i64, .slice 3], [(0, 3), (1, 9), (2, 3), (3, 23)], 56, false⟩),
  (28, ⟨true, [.int .i64, .str, .int .i64, .slice 3], [(0, 3), (1, 9), (2, 3), (3, 23)], 56, false⟩),
  (32, ⟨false, [.slice 5], [], 24, false⟩),
  (39, ⟨false, [.int .u64], [], 8, false⟩),
  (41, ⟨false, [.slice 9], [], 24, false⟩),
  (44, ⟨false, [.slice 41], [], 24, false⟩),
  (68, ⟨true, [.int .i64, .int .i64, .int .i64, .int .i64], [(0, 3), (1, 3), (2, 3), (3, 3)], 32, false⟩),
  (69, ⟨true, [.int .i64, .int .i64, .int .i64, .int .i64], [(0, 3), (1, 3), (2, 3), (3, 3)], 32, true⟩),
  (76, ⟨true, [.int .i64, .int .i64, .int .i64, .int .i64], [(0, 3), (1, 3), (2, 3), (3, 3)], 32, false⟩),
  (77, ⟨true, [.int .i64, .int .i64, .int .i64, .int .i64], [(0, 3), (1, 3), (2, 3), (3, 3)], 32, true⟩),
  (78, ⟨true, [.int .i64, .int .i64, .int .i64, .int .i64], [(0, 3), (1, 3), (2, 3), (3, 3)], 32, true⟩),
  (79, ⟨false, [.slice 157], [], 24, false⟩),
  (80, ⟨false, [.slice 160], [], 24, false⟩),
  (81, ⟨true, [.slice 157, .slice 160, .slice 160, .slice 9, .int .i64, .int .i64], [(0, 79), (1, 80), (2, 80), (3, 41), (4, 3), (5, 3)], 112, false⟩),
  (82, ⟨true, [.slice 157, .slice 160, .slice 160, .slice 9, .int .i64, .int .i64], [(0, 79), (1, 80), (2, 80), (3, 41), (4, 3), (5, 3)], 112, false⟩),
  (83, ⟨true, [.int .i64, .int .i64, .int .i64, .int .i64, .int .i64, .slice 3, .int .i64, .bool, .int .i64], [(0, 3), (1, 3), (2, 3), (3, 3), (4, 3), (5, 23), (6, 3), (7, 4), (8, 3)], 88, false⟩),
  (84, ⟨true, [.int .i64, .int .i64, .int .i64, .int .i64, .int .i64, .slice 3, .int .i64, .bool, .int .i64], [(0, 3), (1, 3), (2, 3), (3, 3), (4, 3), (5, 23), (6, 3), (7, 4), (8, 3)], 88, false⟩),
  (85, ⟨true, [.int .i64, .int .i64, .int .i64, .int .i64, .slice 157, .slice 160, .slice 160, .slice 9, .int .i64, .int .i64, .int .i64, .int .i64, .int .i64, .int .i64, .int .i64, .slice 3, .int .i64, .bool, .int .i64, .slice 9, .int .i64, .int .i64], [(0, 78), (4, 82), (10, 84), (19, 41), (20, 3), (21, 3)], 272, false⟩),
  (86, ⟨true, [.int .i64, .int .i64, .int .i64, .int .i64, .slice 157, .slice 160, .slice 160, .slice 9, .int .i64, .int .i64, .int .i64, .int .i64, .int .i64, .int .i64, .int .i64, .slice 3, .int .i64, .bool, .int .i64, .slice 9, .int .i64, .int .i64], [(0, 78), (4, 82), (10, 84), (19, 41), (20, 3), (21, 3)], 272, false⟩),
  (133, ⟨true, [.bool, .int .i64, .int .i64, .int .i64, .int .i64, .slice 9, .slice 3, .int .i64, .bool], [(0, 4), (1, 69), (5, 41), (6, 23), (7, 3), (8, 4)], 104, false⟩),
  (134, ⟨true, [.bool, .int .i64, .int .i64, .int .i64, .int .i64, .slice 9, .slice 3, .int .i64, .bool], [(0, 4), (1, 69), (5, 41), (6, 23), (7, 3), (8, 4)], 104, false⟩),
  (139, ⟨true, [.slice 5, .int .i64, .int .i64], [(0, 32), (1, 3), (2, 3)], 40, false⟩),
  (140, ⟨true, [.slice 5, .int .i64, .int .i64], [(0, 32), (1, 3), (2, 3)], 40, false⟩),
  (150, ⟨false, [.slice 162], [], 24, false⟩),
  (153, ⟨false, [.int .u32], [], 4, false⟩),
  (156, ⟨true, [.int .i64, .str, .int .i64], [(0, 3), (1, 9), (2, 3)], 32, false⟩),
  (157, ⟨true, [.int .i64, .str, .int .i64], [(0, 3), (1, 9), (2, 3)], 32, true⟩),
  (159, ⟨true, [.str, .int .i64], [(0, 9), (1, 3)], 24, false⟩),
  (160, ⟨true, [.str, .int .i64], [(0, 9), (1, 3)], 24, true⟩),
  (161, ⟨true, [.int .i64, .int .i64], [(0, 3), (1, 3)], 16, false⟩),
  (162, ⟨true, [.int .i64, .int .i64], [(0, 3), (1, 3)], 16, true⟩),
  (170, ⟨false, [.int .u8], [], 1, false⟩),
  (171, ⟨false, [.int .u8], [], 1, false⟩),
  (174, ⟨false, [.int .i32], [], 4, false⟩),
  (175, ⟨false, [.int .i32], [], 4, false⟩)]
def arrTab : List (TypeId × Nat × TypeId) := []
def glTab : List (Nat × String) := []
abbrev Laws := List (FuncId × Sig × Spec)
def mkE (lv : List (Nat × List Nat)) (gs : Laws) : Env := { Ty := tyOf tyTab, Γ := fun g => gs.lookup g, inl := fun _ => none, lv := fun h => (lv.lookup h).getD [], ren := true, fuel := 9223372036854775808, nt := 0, Arr := fun t => arrTab.lookup t, gl := glOf glTab }
abbrev pI : PTy := .val false [.int .i64]
abbrev pU8 : PTy := .val false [.int .u8]
abbrev pU32 : PTy := .val false [.int .u32]
abbrev pS : PTy := .val false [.str]
abbrev pB : PTy := .val false [.bool]
abbrev rI : RTy := ⟨false, [(.int .i64, false)]⟩
abbrev rU8 : RTy := ⟨false, [(.int .u8, false)]⟩
abbrev rU32 : RTy := ⟨false, [(.int .u32, false)]⟩
abbrev rB : RTy := ⟨false, [(.bool, false)]⟩
abbrev rS : RTy := ⟨false, [(.str, false)]⟩
abbrev sg (ps : List PTy) (rs : List RTy) : Sig := ⟨ps, rs, false⟩
abbrev int64 (n : Int) : W := .l (.i .i64 n)
abbrev wstr (s : List UInt8) : W := .l (.s s)
abbrev st0 (slots : List (Nat × W)) : St := { slots, heap := [], next := 0, pins := [] }
abbrev st1 (slots : List (Nat × W)) (sz : Nat) (rows : List (List C)) : St := { slots, heap := [(0, .arr sz rows)], next := 1, pins := [] }
theorem tyTab_ok : (tyTab.all fun p => tyB Try.prog p.1 p.2) = true := by kernel_rfl
theorem arrTab_ok : arrTabB Try.prog tyTab arrTab = true := by kernel_rfl
theorem glTab_ok : glB Try.prog glTab = true := by kernel_rfl
theorem mkE_sound {lv : List (Nat × List Nat)} {gs : Laws} (h : ∀ p, p ∈ gs → Sound Try.prog p.1 p.2.1 p.2.2) : EnvSound Try.prog (mkE lv gs) :=
  ⟨⟨(tys_ok tyTab_ok).1, fun g fn h => (by cases h), fun t m e te h1 h2 => arrs_ok arrTab_ok t m e te h1 h2, gls_ok glTab_ok⟩, fun g sig spec hl => h (g, sig, spec) (lookup_mem hl), fun g fn h => (by cases h), by kernel_rfl⟩
def E0 : Env := mkE [] []
theorem E0_sound : EnvSound Try.prog E0 := mkE_sound (by simp)
end
end Go.Proofs.Ythpamcbipmkimaa.V

namespace Go.Proofs.Ythpamcbipmkimaa.V
noncomputable section

/-- the kinds of a row's leaves -/
def rowsOk (ks : List K) (rows : List (List C)) : Bool := rows.all fun r => kindsOk r ks
abbrev eInt (n : Int) : List C := [.int .i64 n]
def rowInt (r : List C) : Int := (r.getD 0 (.fn 0 [])).toInt
def ints (rows : List (List C)) : List Int := rows.map rowInt
abbrev eStr (s : List UInt8) : List C := [.str s]
def rowStr (r : List C) : List UInt8 := (r.getD 0 (.fn 0 [])).toStr
def strs (rows : List (List C)) : List (List UInt8) := rows.map rowStr
abbrev pSl (t : TypeId) : PTy := .val false [.slice t]
abbrev rSl (t : TypeId) : RTy := ⟨false, [(.slice t, true)]⟩

end
end Go.Proofs.Ythpamcbipmkimaa.V

namespace Go.Proofs.Ythpamcbipmkimaa.V
set_option maxRecDepth 100000

end Go.Proofs.Ythpamcbipmkimaa.V

namespace Go.Proofs.Ythpamcbipmkimaa.V

theorem row_int {r : List C} (h : kindsOk r [.int .i64] = true) : r = eInt (rowInt r) := by
  cases r with
  | nil => simp [kindsOk] at h
  | cons c r =>
    cases r with
    | cons d r => simp [kindsOk] at h
    | nil =>
      cases c with
      | int k n => simp [kindsOk, C.is] at h; subst h; rfl
      | _ => simp [kindsOk, C.is] at h
theorem row_str {r : List C} (h : kindsOk r [.str] = true) : r = eStr (rowStr r) := by
  cases r with
  | nil => simp [kindsOk] at h
  | cons c r =>
    cases r with
    | cons d r => simp [kindsOk] at h
    | nil =>
      cases c with
      | str s => rfl
      | _ => simp [kindsOk, C.is] at h
theorem rows_ints {rows : List (List C)} (h : rowsOk [.int .i64] rows = true) : rows = (ints rows).map eInt := by
  simp only [rowsOk, List.all_eq_true] at h
  simp only [ints, List.map_map]
  rw [List.map_congr_left (g := id)]
  · simp
  · intro r hr; exact (row_int (h r hr)).symm
theorem rows_strs {rows : List (List C)} (h : rowsOk [.str] rows = true) : rows = (strs rows).map eStr := by
  simp only [rowsOk, List.all_eq_true] at h
  simp only [strs, List.map_map]
  rw [List.map_congr_left (g := id)]
  · simp
  · intro r hr; exact (row_str (h r hr)).symm
@[simp] theorem ints_map (l : List Int) : ints (l.map eInt) = l := by simp [ints, rowInt, Function.comp_def, C.toInt]
@[simp] theorem strs_map (l : List (List UInt8)) : strs (l.map eStr) = l := by simp [strs, rowStr, Function.comp_def, C.toStr]
@[simp] theorem rowsOk_ints (l : List Int) : rowsOk [.int .i64] (l.map eInt) = true := by simp [rowsOk, kindsOk, C.is]
@[simp] theorem rowsOk_strs (l : List (List UInt8)) : rowsOk [.str] (l.map eStr) = true := by simp [rowsOk, kindsOk, C.is]
theorem flat_ints (l : List Int) : ((l.map eInt).all fun r => r.all C.flat) = true := by simp [C.flat]
theorem flat_strs (l : List (List UInt8)) : ((l.map eStr).all fun r => r.all C.flat) = true := by simp [C.flat]
theorem map_getD {A : Type} (e : A → List C) (l : List A) (d : A) (i : Nat) (h : i < l.length) : (l.map e).getD i [] = e (l.getD i d) := by
  simp [List.getD_eq_getElem?_getD, h]
theorem copy_set {A : Type} (l : List A) (z : A) (d : A) (i : Nat) (h : i < l.length) : (l.take i ++ List.replicate (l.length - i) z).set i (l.getD i d) = l.take (i + 1) ++ List.replicate (l.length - (i + 1)) z := by
  have hlen : (l.take i).length = i := by simp; omega
  rw [List.set_append_right _ _ (by omega), hlen, Nat.sub_self]
  obtain ⟨m, hm⟩ : ∃ m, l.length - i = m + 1 := ⟨l.length - i - 1, by omega⟩
  have hm2 : l.length - (i + 1) = m := by omega
  rw [hm, hm2, List.replicate_succ, List.set_cons_zero, List.take_succ_eq_append_getElem h, List.append_assoc]
  simp [List.getD_eq_getElem?_getD, h]
/- what is known of data that fit -/
theorem fit_i64 {E : Env} {x : C} (h : Fit E (.int .i64) x) : ∃ n, x = .int .i64 n ∧ -9223372036854775808 ≤ n ∧ n ≤ 9223372036854775807 := by
  cases h with
  | int a b => exact ⟨_, rfl, a, b⟩
theorem fit_bool {E : Env} {x : C} (h : Fit E .bool x) : ∃ t, x = .bool t := by
  cases h with
  | bool => exact ⟨_, rfl⟩
theorem fit_str {E : Env} {x : C} (h : Fit E .str x) : ∃ s, x = .str s ∧ s.length ≤ 140737488351232 := by
  cases h with
  | str a => exact ⟨_, rfl, a⟩
theorem fit_sl {E : Env} {e : TypeId} {x : C} (h : Fit E (.slice e) x) : ∃ rows, x = .sl rows ∧ ∀ te, E.Ty e = some te → 1 ≤ te.bytes → rows.length ≤ 140737488351232 ∧ rowsOk te.leaves rows = true := by
  cases h with
  | @sl _ te rows h1 h2 h3 h4 =>
    refine ⟨rows, rfl, fun te' ht hb => ?_⟩
    rw [h1] at ht
    obtain rfl := Option.some.inj ht
    refine ⟨Nat.le_trans (Nat.le_mul_of_pos_right _ hb) h2, ?_⟩
    simp only [rowsOk, List.all_eq_true]
    intro r hr
    exact FitAll.kinds (E := E) ⟨h3 r hr, fun j kd y hj hy => h4 r hr j kd y hj hy⟩
theorem byte_lt (l : List UInt8) (j : Nat) : (l.getD j 0).toNat < 256 := (l.getD j 0).toNat_lt
theorem drop_cons {A : Type} (l : List A) (i : Nat) (d : A) (hi : i < l.length) : l.drop i = l.getD i d :: l.drop (i + 1) := by
  rw [List.drop_eq_getElem_cons hi]; simp [List.getD_eq_getElem?_getD, hi]
theorem row_append (l : List UInt8) (v : Nat) (h : v < 256) : (rowsOfStr l).append [[C.int .u8 (v : Int)]] = rowsOfStr (l ++ [UInt8.ofNat v]) := by
  have := rows_one (v : Int) (by omega) (by omega)
  rw [Int.toNat_natCast] at this
  rw [this, List.append_eq, rowsStr_append]

end Go.Proofs.Ythpamcbipmkimaa.V

namespace Go.Proofs.Ythpamcbipmkimaa.V
noncomputable section

def inB (n lo hi : Int) : Bool := decide (lo ≤ n) && decide (n ≤ hi)
def inSpec : Spec := fun cs => match cs with
  | [.int .i64 n, .int .i64 lo, .int .i64 hi] => some (true, [.bool (inB n lo hi)])
  | _ => none
def E_sIn : Env := mkE [] []
def E_iIn : Env := mkE [] []

def isVersionSpec : Spec := fun cs => match cs with
  | [.int .i64 n] => some (true, [.bool (inB n 1 2)])
  | _ => none
def E_iIsVersion : Env := mkE [] []

def newOk (v s r : Int) : Bool := inB v 1 2 && inB s 1 20 && inB r 1 50
def sel (b : Bool) (x : Int) : Int := if b then x else 0
def writerNewSpec : Spec := fun cs => match cs with
  | [.int .i64 v, .int .i64 s, .int .i64 r] => some (true, [.int .i64 (sel (newOk v s r) v), .int .i64 (sel (newOk v s r) s), .int .i64 (sel (newOk v s r) r), .int .i64 0, .int .i64 0, .sl [], .int .i64 0, .bool false, .int .i64 0, .bool (newOk v s r)])
  | _ => none
def rWriter : RTy := ⟨true, [(.int .i64, false), (.int .i64, false), (.int .i64, false), (.int .i64, false), (.int .i64, false), (.slice 23, true), (.int .i64, false), (.bool, false), (.int .i64, false)]⟩
def E_sWriterNew : Env := mkE [] [(93, (sg [pI, pI, pI] [rB]), inSpec)]
def E_iWriterNew : Env := mkE [] [(95, (sg [pI, pI, pI] [rB]), inSpec), (113, (sg [pI] [rB]), isVersionSpec)]

def settingOk (room v s r : Int) : Bool := newOk v s r && inB room 0 20000
def settingSpec : Spec := fun cs => match cs with
  | [.int .i64 room, .int .i64 v, .int .i64 s, .int .i64 r] => some (true, [.bool (settingOk room v s r)])
  | _ => none
def pSetting : PTy := .val true [.int .i64, .int .i64, .int .i64, .int .i64]
def E_sSettingOk : Env := mkE [] [(93, (sg [pI, pI, pI] [rB]), inSpec), (129, (sg [pI, pI, pI] [rWriter, rB]), writerNewSpec)]
def E_iSettingOk : Env := mkE [] [(95, (sg [pI, pI, pI] [rB]), inSpec), (132, (sg [pI, pI, pI] [rWriter, rB]), writerNewSpec)]

def toSettingSpec : Spec := fun cs => match cs with
  | [.int .i64 a, .int .i64 v, .int .i64 s, .int .i64 r] => some (true, [.int .i64 a, .int .i64 v, .int .i64 s, .int .i64 r])
  | _ => none
def E_toSetting : Env := mkE [] []

end
end Go.Proofs.Ythpamcbipmkimaa.V

namespace Go.Proofs.Ythpamcbipmkimaa.V
set_option maxRecDepth 100000
theorem sIn_tree (H : List Pt → Nat → St → T (List C)) (n : Int) (a : Int) (b : Int) : vBodyL E_sIn noInl (sg [pI, pI, pI] [rB]) Try.f93 H [C.int IntKind.i64 n, C.int IntKind.i64 a, C.int IntKind.i64 b] =
 (.must true
 (.ask (decide (a ≤ n))
  (.ask (decide (n ≤ b))
   (.must true
    (.ret [C.bool true]))
   (.must true
    (.ret [C.bool false])))
  (.must true
   (.ret [C.bool false])))) := by kernel_rfl
theorem iIn_tree (H : List Pt → Nat → St → T (List C)) (n : Int) (a : Int) (b : Int) : vBodyL E_iIn noInl (sg [pI, pI, pI] [rB]) Try.f95 H [C.int IntKind.i64 n, C.int IntKind.i64 a, C.int IntKind.i64 b] =
 (.must true
 (.ask (decide (a ≤ n))
  (.ask (decide (n ≤ b))
   (.must true
    (.ret [C.bool true]))
   (.must true
    (.ret [C.bool false])))
  (.must true
   (.ret [C.bool false])))) := by kernel_rfl
theorem iIsVersion_tree (H : List Pt → Nat → St → T (List C)) (n : Int) : vBodyL E_iIsVersion noInl (sg [pI] [rB]) Try.f113 H [C.int IntKind.i64 n] =
 (.must true
 (.ask (decide (n = (1 : Int)))
  (.must true
   (.ret [C.bool true]))
  (.ask (decide (n = (2 : Int)))
   (.must true
    (.ret [C.bool true]))
   (.must true
    (.ret [C.bool false]))))) := by kernel_rfl
theorem sWriterNew_tree (H : List Pt → Nat → St → T (List C)) (n : Int) (a : Int) (b : Int) : vBodyL E_sWriterNew noInl (sg [pI, pI, pI] [rWriter, rB]) Try.f129 H
  [C.int IntKind.i64 n, C.int IntKind.i64 a, C.int IntKind.i64 b] =
 (.must true
 (.must true
  (.must true
   (.must true
    (.ask (inB n (1 : Int) (2 : Int))
     (.must true
      (.must true
       (.must true
        (.ask (inB a (1 : Int) (20 : Int))
         (.must true
          (.must true
           (.must true
            (.ask (inB b (1 : Int) (50 : Int))
             (.must true
              (.ret [C.int IntKind.i64 n, C.int IntKind.i64 a, C.int IntKind.i64 b, C.int IntKind.i64 (0 : Int),
  C.int IntKind.i64 (0 : Int), C.sl [], C.int IntKind.i64 (0 : Int), C.bool false, C.int IntKind.i64 (0 : Int),
  C.bool true]))
             (.must true
              (.ret [C.int IntKind.i64 (0 : Int), C.int IntKind.i64 (0 : Int), C.int IntKind.i64 (0 : Int), C.int IntKind.i64 (0 : Int),
  C.int IntKind.i64 (0 : Int), C.sl [], C.int IntKind.i64 (0 : Int), C.bool false, C.int IntKind.i64 (0 : Int),
  C.bool false]))))))
         (.must true
          (.ret [C.int IntKind.i64 (0 : Int), C.int IntKind.i64 (0 : Int), C.int IntKind.i64 (0 : Int), C.int IntKind.i64 (0 : Int),
  C.int IntKind.i64 (0 : Int), C.sl [], C.int IntKind.i64 (0 : Int), C.bool false, C.int IntKind.i64 (0 : Int),
  C.bool false]))))))
     (.must true
      (.ret [C.int IntKind.i64 (0 : Int), C.int IntKind.i64 (0 : Int), C.int IntKind.i64 (0 : Int), C.int IntKind.i64 (0 : Int),
  C.int IntKind.i64 (0 : Int), C.sl [], C.int IntKind.i64 (0 : Int), C.bool false, C.int IntKind.i64 (0 : Int),
  C.bool false]))))))) := by kernel_rfl
theorem iWriterNew_tree (H : List Pt → Nat → St → T (List C)) (n : Int) (a : Int) (b : Int) : vBodyL E_iWriterNew noInl (sg [pI, pI, pI] [rWriter, rB]) Try.f132 H
  [C.int IntKind.i64 n, C.int IntKind.i64 a, C.int IntKind.i64 b] =
 (.must true
 (.must true
  (.must true
   (.must true
    (.ask (inB n (1 : Int) (2 : Int))
     (.must true
      (.must true
       (.must true
        (.ask (inB a (1 : Int) (20 : Int))
         (.must true
          (.must true
           (.must true
            (.ask (inB b (1 : Int) (50 : Int))
             (.must true
              (.ret [C.int IntKind.i64 n, C.int IntKind.i64 a, C.int IntKind.i64 b, C.int IntKind.i64 (0 : Int),
  C.int IntKind.i64 (0 : Int), C.sl [], C.int IntKind.i64 (0 : Int), C.bool false, C.int IntKind.i64 (0 : Int),
  C.bool true]))
             (.must true
              (.ret [C.int IntKind.i64 (0 : Int), C.int IntKind.i64 (0 : Int), C.int IntKind.i64 (0 : Int), C.int IntKind.i64 (0 : Int),
  C.int IntKind.i64 (0 : Int), C.sl [], C.int IntKind.i64 (0 : Int), C.bool false, C.int IntKind.i64 (0 : Int),
  C.bool false]))))))
         (.must true
          (.ret [C.int IntKind.i64 (0 : Int), C.int IntKind.i64 (0 : Int), C.int IntKind.i64 (0 : Int), C.int IntKind.i64 (0 : Int),
  C.int IntKind.i64 (0 : Int), C.sl [], C.int IntKind.i64 (0 : Int), C.bool false, C.int IntKind.i64 (0 : Int),
  C.bool false]))))))
     (.must true
      (.ret [C.int IntKind.i64 (0 : Int), C.int IntKind.i64 (0 : Int), C.int IntKind.i64 (0 : Int), C.int IntKind.i64 (0 : Int),
  C.int IntKind.i64 (0 : Int), C.sl [], C.int IntKind.i64 (0 : Int), C.bool false, C.int IntKind.i64 (0 : Int),
  C.bool false]))))))) := by kernel_rfl
theorem sSettingOk_tree (H : List Pt → Nat → St → T (List C)) (a : Int) (v : Int) (s : Int) (r : Int) : vBodyL E_sSettingOk noInl (sg [pSetting] [rB]) Try.f128 H
  [C.int IntKind.i64 a, C.int IntKind.i64 v, C.int IntKind.i64 s, C.int IntKind.i64 r] =
 (.must true
 (.must true
  (.must true
   (.must true
    (.ask (newOk v s r)
     (.must true
      (.must true
       (.must true
        (.ask (inB a (0 : Int) (20000 : Int))
         (.must true
          (.ret [C.bool true]))
         (.must true
          (.ret [C.bool false]))))))
     (.must true
      (.ret [C.bool false]))))))) := by kernel_rfl
theorem iSettingOk_tree (H : List Pt → Nat → St → T (List C)) (a : Int) (v : Int) (s : Int) (r : Int) : vBodyL E_iSettingOk noInl (sg [pSetting] [rB]) Try.f131 H
  [C.int IntKind.i64 a, C.int IntKind.i64 v, C.int IntKind.i64 s, C.int IntKind.i64 r] =
 (.must true
 (.must true
  (.must true
   (.must true
    (.ask (newOk v s r)
     (.must true
      (.must true
       (.must true
        (.ask (inB a (0 : Int) (20000 : Int))
         (.must true
          (.ret [C.bool true]))
         (.must true
          (.ret [C.bool false]))))))
     (.must true
      (.ret [C.bool false]))))))) := by kernel_rfl
theorem toSetting_tree (H : List Pt → Nat → St → T (List C)) (a : Int) (v : Int) (s : Int) (r : Int) : vBodyL E_toSetting noInl
  (sg [pSetting]
    [{ agg := true,
        ls :=
          [(K.int IntKind.i64, false), (K.int IntKind.i64, false), (K.int IntKind.i64, false),
            (K.int IntKind.i64, false)] }])
  Try.f73 H [C.int IntKind.i64 a, C.int IntKind.i64 v, C.int IntKind.i64 s, C.int IntKind.i64 r] =
 (.must true
 (.must true
  (.ret [C.int IntKind.i64 a, C.int IntKind.i64 v, C.int IntKind.i64 s, C.int IntKind.i64 r]))) := by kernel_rfl
end Go.Proofs.Ythpamcbipmkimaa.V

namespace Go.Proofs.Ythpamcbipmkimaa.V

theorem sIn_E : EnvSound Try.prog E_sIn := mkE_sound (by simp [])
theorem sIn_sound : Sound Try.prog 93 (sg [pI, pI, pI] [rB]) inSpec := vBody_sound sIn_E noInl_ok Try.func93 (by kernel_rfl) fun cs outs hk h => by
  unfold inSpec at h
  split at h
  · simp only [Option.some.injEq, Prod.mk.injEq, true_and] at h
    rw [← h, vBody_L, sIn_tree]
    simp only [eval_must', eval_ask', eval_ret', decide_eq_true_eq, if_true, inB]
    repeat' split
    all_goals first | rfl | (simp_all; done) | (simp_all; omega)
  · cases h
theorem iIn_E : EnvSound Try.prog E_iIn := mkE_sound (by simp [])
theorem iIn_sound : Sound Try.prog 95 (sg [pI, pI, pI] [rB]) inSpec := vBody_sound iIn_E noInl_ok Try.func95 (by kernel_rfl) fun cs outs hk h => by
  unfold inSpec at h
  split at h
  · simp only [Option.some.injEq, Prod.mk.injEq, true_and] at h
    rw [← h, vBody_L, iIn_tree]
    simp only [eval_must', eval_ask', eval_ret', decide_eq_true_eq, if_true, inB]
    repeat' split
    all_goals first | rfl | (simp_all; done) | (simp_all; omega)
  · cases h

theorem iIsVersion_E : EnvSound Try.prog E_iIsVersion := mkE_sound (by simp [])
theorem iIsVersion_sound : Sound Try.prog 113 (sg [pI] [rB]) isVersionSpec := vBody_sound iIsVersion_E noInl_ok Try.func113 (by kernel_rfl) fun cs outs hk h => by
  unfold isVersionSpec at h
  split at h
  · simp only [Option.some.injEq, Prod.mk.injEq, true_and] at h
    rw [← h, vBody_L, iIsVersion_tree]
    simp only [eval_must', eval_ask', eval_ret', decide_eq_true_eq, if_true, inB]
    repeat' split
    all_goals first | rfl | (simp_all; done) | (simp; omega)
  · cases h

theorem sWriterNew_E : EnvSound Try.prog E_sWriterNew := mkE_sound (by simp [sIn_sound])
theorem sWriterNew_sound : Sound Try.prog 129 (sg [pI, pI, pI] [rWriter, rB]) writerNewSpec := vBody_sound sWriterNew_E noInl_ok Try.func129 (by kernel_rfl) fun cs outs hk h => by
  unfold writerNewSpec at h
  split at h
  · simp only [Option.some.injEq, Prod.mk.injEq, true_and] at h
    rw [← h, vBody_L, sWriterNew_tree]
    simp only [eval_must', eval_ask', eval_ret', if_true, newOk, sel]
    repeat' split
    all_goals first | rfl | simp_all
  · cases h
theorem iWriterNew_E : EnvSound Try.prog E_iWriterNew := mkE_sound (by simp [iIn_sound, iIsVersion_sound])
theorem iWriterNew_sound : Sound Try.prog 132 (sg [pI, pI, pI] [rWriter, rB]) writerNewSpec := vBody_sound iWriterNew_E noInl_ok Try.func132 (by kernel_rfl) fun cs outs hk h => by
  unfold writerNewSpec at h
  split at h
  · simp only [Option.some.injEq, Prod.mk.injEq, true_and] at h
    rw [← h, vBody_L, iWriterNew_tree]
    simp only [eval_must', eval_ask', eval_ret', if_true, newOk, sel]
    repeat' split
    all_goals first | rfl | simp_all
  · cases h

theorem sSettingOk_E : EnvSound Try.prog E_sSettingOk := mkE_sound (by simp [sIn_sound, sWriterNew_sound])
theorem sSettingOk_sound : Sound Try.prog 128 (sg [pSetting] [rB]) settingSpec := vBody_sound sSettingOk_E noInl_ok Try.func128 (by kernel_rfl) fun cs outs hk h => by
  unfold settingSpec at h
  split at h
  · simp only [Option.some.injEq, Prod.mk.injEq, true_and] at h
    rw [← h, vBody_L, sSettingOk_tree]
    simp only [eval_must', eval_ask', eval_ret', if_true, settingOk]
    repeat' split
    all_goals first | rfl | simp_all
  · cases h
theorem iSettingOk_E : EnvSound Try.prog E_iSettingOk := mkE_sound (by simp [iIn_sound, iWriterNew_sound])
theorem iSettingOk_sound : Sound Try.prog 131 (sg [pSetting] [rB]) settingSpec := vBody_sound iSettingOk_E noInl_ok Try.func131 (by kernel_rfl) fun cs outs hk h => by
  unfold settingSpec at h
  split at h
  · simp only [Option.some.injEq, Prod.mk.injEq, true_and] at h
    rw [← h, vBody_L, iSettingOk_tree]
    simp only [eval_must', eval_ask', eval_ret', if_true, settingOk]
    repeat' split
    all_goals first | rfl | simp_all
  · cases h

theorem toSetting_E : EnvSound Try.prog E_toSetting := mkE_sound (by simp [])
theorem toSetting_sound : Sound Try.prog 73 (sg [pSetting] [⟨true, [(.int .i64, false), (.int .i64, false), (.int .i64, false), (.int .i64, false)]⟩]) toSettingSpec := vBody_sound toSetting_E noInl_ok Try.func73 (by kernel_rfl) fun cs outs hk h => by
  unfold toSettingSpec at h
  split at h
  · simp only [Option.some.injEq, Prod.mk.injEq, true_and] at h
    rw [← h, vBody_L, toSetting_tree]
    simp only [eval_must', eval_ask', eval_ret', if_true]
  · cases h

end Go.Proofs.Ythpamcbipmkimaa.V

namespace Go.Proofs.Ythpamcbipmkimaa.V
noncomputable section

def ss_spec (f : List UInt8 → List UInt8 → Int) : Spec := fun cs => match cs with
  | [.str b, .str c] => some (decide (b.length ≤ 1048576) && decide (c.length ≤ 1048576), [.int .i64 (f b c)])
  | _ => none
def siLaw : Spec := fun cs => match cs with
  | [.str _, .int .i64 _] => some (true, [.bool true])
  | _ => none
def ssLaw : Spec := fun cs => match cs with
  | [.str _, .str _] => some (true, [.bool true])
  | _ => none
def siiLaw : Spec := fun cs => match cs with
  | [.str _, .int .i64 a, .int .i64 _] => some (decide (-9223372036854775808 ≤ a) && decide (a ≤ 9223372036854775807), [.bool true])
  | _ => none

def broughtOf (n least most : Int) : Int := if most < least ∨ n < least then least else if n > most then most else n
def broughtSpec : Spec := fun cs => match cs with
  | [.int .i64 n, .int .i64 least, .int .i64 most] => some (true, [.int .i64 (broughtOf n least most)])
  | _ => none
def E_sBrought : Env := mkE [] []
def E_iBrought : Env := mkE [] []

def cutOf (b : List UInt8) (n : Int) : List UInt8 := b.take (broughtOf n 0 b.length).toNat
def cutSpec : Spec := fun cs => match cs with
  | [.str b, .int .i64 n] => some (true, [.str (cutOf b n)])
  | _ => none
def E_sCutText : Env := mkE [] [(110, (sg [pI, pI, pI] [rI]), broughtSpec)]
def E_iCutText : Env := mkE [] [(109, (sg [pI, pI, pI] [rI]), broughtSpec)]

def H_sTurnBits (at' bits : Int) (rows : List (List C)) (n : Nat) (i : Int) : St := st1 [(1, int64 at'), (2, int64 bits), (7, .l (.ref 0 0 n)), (8, int64 i)] 1 rows
def H_iTurnBits (at' bits : Int) (rows : List (List C)) (n : Nat) (i : Int) : St := st1 [(1, int64 at'), (2, int64 bits), (7, .l (.ref 0 0 n)), (12, int64 i)] 1 rows
/-- bit i of 'bits' turned at bit place at + i -/
def turnStep (at' bits : Int) (l : List UInt8) (i : Nat) : List UInt8 :=
  if iand .i64 (ishr .i64 bits i) 1 = 1 ∧ 0 ≤ at' ∧ at' + i < 8 * l.length then
    l.set ((at' + i) / 8).toNat (UInt8.ofNat (ixor .u8 ((l.getD ((at' + i) / 8).toNat 0).toNat : Int) (ishl .u8 1 ((at' + i) % 8))).toNat)
  else l
def turnOf (b : List UInt8) (at' bits : Int) : List UInt8 := (List.range 32).foldl (turnStep at' bits) b
def turnTo (b : List UInt8) (a m : Int) (i : Nat) : List UInt8 := (List.range i).foldl (turnStep a m) b
def turnSpec : Spec := fun cs => match cs with
  | [.str b, .int .i64 a, .int .i64 m] => some (decide (b.length ≤ 1048576) && decide (-9223372036854775808 ≤ a) && decide (a ≤ 9223372036854775807), [.str (turnOf b a m)])
  | _ => none
def E_sTurnBits : Env := mkE [(5, [1, 2, 7, 8])] []
def E_iTurnBits : Env := mkE [(3, [1, 2, 7, 12])] []

def H_sBitsChangeda (b c : List UInt8) (n i : Int) : St := st0 [(0, wstr b), (1, wstr c), (5, int64 n), (6, int64 i)]
def H_sBitsChangedb (b c : List UInt8) (n i x : Int) : St := st0 [(0, wstr b), (1, wstr c), (5, int64 n), (6, int64 i), (7, int64 x)]
def H_iBitsChanged (b c : List UInt8) (sum m i : Int) : St := st0 [(0, wstr b), (1, wstr c), (6, int64 sum), (21, int64 m), (22, int64 i)]
def strConst : Code → Option (List UInt8)
  | .region _ ops _ => ops.toList.findSome? fun o => o.op.operands.toList.findSome? fun x => match x with | .const (.string s) => if s.data.toList.length = 0 then none else some s.data.toList | _ => none
  | .seq a b => match strConst a with | some x => some x | none => strConst b
  | _ => none
def pop8 : List UInt8 := match Try.f98.body with | some c => (strConst c).getD [] | none => []
def onesOf (x : Int) : Int := IntKind.i64.wrap ((pop8.getD x.toNat 0).toNat : Int)
def onesSpec : Spec := fun cs => match cs with
  | [.int .u8 x] => some (decide (0 ≤ x ∧ x ≤ 255), [.int .i64 (onesOf x)])
  | _ => none
/-- how many bits of a byte are set, read one by one -/
def bitCount : Nat → Int → Int
  | 0, _ => 0
  | n + 1, x => x % 2 + bitCount n (x / 2)
def bitsTo (b c : List UInt8) : Nat → Int
  | 0 => 0
  | i + 1 => bitsTo b c i + bitCount 8 (ixor .u8 (b.getD i 0).toNat (c.getD i 0).toNat)
def bitsOf (b c : List UInt8) : Int := bitsTo b c (min b.length c.length) + 8 * ((max b.length c.length - min b.length c.length : Nat) : Int)
def E_ones8 : Env := mkE [] []
def E_sBitsChanged : Env := mkE [(3, [0, 1, 5, 6]), (6, [0, 1, 5, 6, 7])] []
def E_iBitsChanged : Env := mkE [(4, [0, 1, 6, 21, 22])] [(98, (sg [pU8] [rI]), onesSpec)]

def H_sChangeEnd (b c : List UInt8) (n i : Int) : St := st0 [(0, wstr b), (1, wstr c), (5, int64 n), (6, int64 i)]
def H_iChangeEnd (b c : List UInt8) (n : Int) : St := st0 [(0, wstr b), (1, wstr c), (5, int64 n)]
def lastDiff (b c : List UInt8) : Nat → Nat
  | 0 => 0
  | i + 1 => if b.getD i 0 = c.getD i 0 then lastDiff b c i else i + 1
def endOf (b c : List UInt8) : Int := if b.length = c.length then (lastDiff b c b.length : Int) else imax b.length c.length
def E_sChangeEnd : Env := mkE [(7, [0, 1, 5, 6])] []
def E_iChangeEnd : Env := mkE [(4, [0, 1, 5])] []

def H_sFirstChange (b c : List UInt8) (i : Int) : St := st0 [(0, wstr b), (1, wstr c), (5, int64 i)]
def H_iFirstChange (b c : List UInt8) (n m i : Int) : St := st0 [(0, wstr b), (1, wstr c), (5, int64 n), (12, int64 m), (13, int64 i)]
/-- how far two texts are alike -/
def common : List UInt8 → List UInt8 → Nat
  | x :: xs, y :: ys => if x = y then common xs ys + 1 else 0
  | _, _ => 0
def firstOf (b c : List UInt8) : Int := if b = c then -1 else common b c
def E_sFirstChange : Env := mkE [(2, [0, 1, 5])] []
def E_iFirstChange : Env := mkE [(3, [0, 1, 5, 12, 13])] []

end
end Go.Proofs.Ythpamcbipmkimaa.V

namespace Go.Proofs.Ythpamcbipmkimaa.V
set_option maxRecDepth 100000
theorem sBrought_tree (H : List Pt → Nat → St → T (List C)) (n : Int) (a : Int) (b : Int) : vBodyL E_sBrought noInl (sg [pI, pI, pI] [rI]) Try.f110 H
  [C.int IntKind.i64 n, C.int IntKind.i64 a, C.int IntKind.i64 b] =
 (.must true
 (.ask (decide (b < a))
  (.must true
   (.ret [C.int IntKind.i64 a]))
  (.ask (decide (n < a))
   (.must true
    (.ret [C.int IntKind.i64 a]))
   (.ask (decide (b < n))
    (.must true
     (.ret [C.int IntKind.i64 b]))
    (.must true
     (.ret [C.int IntKind.i64 n])))))) := by kernel_rfl
theorem iBrought_tree (H : List Pt → Nat → St → T (List C)) (n : Int) (a : Int) (b : Int) : vBodyL E_iBrought noInl (sg [pI, pI, pI] [rI]) Try.f109 H
  [C.int IntKind.i64 n, C.int IntKind.i64 a, C.int IntKind.i64 b] =
 (.must true
 (.ask (decide (b < a))
  (.must true
   (.ret [C.int IntKind.i64 a]))
  (.must true
   (.ret [C.int IntKind.i64 (imin (imax n a) b)])))) := by kernel_rfl
theorem sCutText_tree (H : List Pt → Nat → St → T (List C)) (b : List UInt8) (n : Int) : vBodyL E_sCutText noInl (sg [pS, pI] [rS]) Try.f56 H [C.str b, C.int IntKind.i64 n] =
 (.must true
 (.must true
  (.must true
   (.must true
    (.must (decide ((0 : Int) ≤ broughtOf n (0 : Int) (↑b.length : Int)) &&
  decide (broughtOf n (0 : Int) (↑b.length : Int) ≤ (↑b.length : Int)))
     (.must true
      (.ret [C.str (List.drop (0 : Nat) (List.take (broughtOf n (0 : Int) (↑b.length : Int)).toNat b))]))))))) := by kernel_rfl
theorem iCutText_tree (H : List Pt → Nat → St → T (List C)) (b : List UInt8) (n : Int) : vBodyL E_iCutText noInl (sg [pS, pI] [rS]) Try.f55 H [C.str b, C.int IntKind.i64 n] =
 (.must true
 (.must true
  (.must true
   (.must true
    (.must (decide ((0 : Int) ≤ broughtOf n (0 : Int) (↑b.length : Int)) &&
  decide (broughtOf n (0 : Int) (↑b.length : Int) ≤ (↑b.length : Int)))
     (.must true
      (.ret [C.str (List.drop (0 : Nat) (List.take (broughtOf n (0 : Int) (↑b.length : Int)).toNat b))]))))))) := by kernel_rfl
theorem sTurnBits_tree (H : List Pt → Nat → St → T (List C)) (b : List UInt8) (a : Int) (m : Int) : vBodyL E_sTurnBits noInl (sg [pS, pI, pI] [rS]) Try.f31 H [C.str b, C.int IntKind.i64 a, C.int IntKind.i64 m] =
 (.must true
 (.ask (decide (a < (0 : Int)))
  (.must true
   (.ret [C.str b]))
  (H [Pt.r, Pt.r, Pt.r, Pt.l, Pt.r, Pt.b] (9223372036854775808 : Nat) (H_sTurnBits (a) (m) (rowsOfStr b) (b.length) ((0 : Int)))))) := by kernel_rfl
theorem sTurnBits_round0 (H : List Pt → Nat → St → T (List C)) (a : Int) (q : Int) (r : List (List C)) (l : Nat) (i : Int) (k : Nat) : vRound E_sTurnBits noInl (sg [pS, pI, pI] [rS]) Try.f31 H [Pt.r, Pt.r, Pt.r, Pt.l, Pt.r, Pt.b] k (H_sTurnBits a q r l i) =
 (.ask (decide (i < (32 : Int)))
 (.must (decide ((0 : Int) ≤ IntKind.u64.wrap i))
  (.ask (decide (iand IntKind.i64 (ishr IntKind.i64 q (IntKind.u64.wrap i)) (1 : Int) = (1 : Int)))
   (.ask (decide (a < IntKind.i64.wrap (IntKind.i64.wrap ((8 : Int) * (↑l : Int)) - i)))
    (.must true
     (.must true
      (.must (decide ((0 : Int) ≤ IntKind.i64.wrap ((IntKind.i64.wrap (a + i)).tdiv (8 : Int))) &&
  decide (IntKind.i64.wrap ((IntKind.i64.wrap (a + i)).tdiv (8 : Int)) < (↑l : Int)))
       (.must (decide ((0 : Nat) + (IntKind.i64.wrap ((IntKind.i64.wrap (a + i)).tdiv (8 : Int))).toNat < r.length) &&
  (decide
        ((0 : Nat) <
          (r.getD ((0 : Nat) + (IntKind.i64.wrap ((IntKind.i64.wrap (a + i)).tdiv (8 : Int))).toNat) []).length) &&
      C.is (K.int IntKind.u8)
        ((r.getD ((0 : Nat) + (IntKind.i64.wrap ((IntKind.i64.wrap (a + i)).tdiv (8 : Int))).toNat) []).getD (0 : Nat)
          (C.fn (0 : FuncId) [])) &&
    true))
        (.must true
         (.must (decide ((0 : Int) ≤ IntKind.u64.wrap ((IntKind.i64.wrap (a + i)).tmod (8 : Int))))
          (.must (decide ((0 : Int) ≤ IntKind.i64.wrap ((IntKind.i64.wrap (a + i)).tdiv (8 : Int))) &&
  decide (IntKind.i64.wrap ((IntKind.i64.wrap (a + i)).tdiv (8 : Int)) < (↑l : Int)))
           (.must (decide ((0 : Nat) + (IntKind.i64.wrap ((IntKind.i64.wrap (a + i)).tdiv (8 : Int))).toNat < r.length))
            (H [Pt.r, Pt.r, Pt.r, Pt.l, Pt.r, Pt.b] k (H_sTurnBits (a) (q) (r.set ((0 : Nat) + (IntKind.i64.wrap ((IntKind.i64.wrap (a + i)).tdiv (8 : Int))).toNat)
  (C.int IntKind.u8
      (ixor IntKind.u8
        ((r.getD ((0 : Nat) + (IntKind.i64.wrap ((IntKind.i64.wrap (a + i)).tdiv (8 : Int))).toNat) []).getD (0 : Nat)
            (C.fn (0 : FuncId) [])).toInt
        (ishl IntKind.u8 (1 : Int) (IntKind.u64.wrap ((IntKind.i64.wrap (a + i)).tmod (8 : Int))))) ::
    List.drop ((0 : Nat) + (1 : Nat))
      (r.getD ((0 : Nat) + (IntKind.i64.wrap ((IntKind.i64.wrap (a + i)).tdiv (8 : Int))).toNat) []))) (l) (IntKind.i64.wrap (i + (1 : Int)))))))))))))
    (H [Pt.r, Pt.r, Pt.r, Pt.l, Pt.r, Pt.b] k (H_sTurnBits (a) (q) (r) (l) (IntKind.i64.wrap (i + (1 : Int))))))
   (H [Pt.r, Pt.r, Pt.r, Pt.l, Pt.r, Pt.b] k (H_sTurnBits (a) (q) (r) (l) (IntKind.i64.wrap (i + (1 : Int)))))))
 (.must ((List.take l r).all byteRow)
  (.must true
   (.ret [C.str (strOfRows (List.take l r))])))) := by kernel_rfl
theorem iTurnBits_tree (H : List Pt → Nat → St → T (List C)) (b : List UInt8) (a : Int) (m : Int) : vBodyL E_iTurnBits noInl (sg [pS, pI, pI] [rS]) Try.f48 H [C.str b, C.int IntKind.i64 a, C.int IntKind.i64 m] =
 (.must true
 (H [Pt.r, Pt.r, Pt.l, Pt.r, Pt.b] (9223372036854775808 : Nat) (H_iTurnBits (a) (m) (rowsOfStr b) (b.length) ((0 : Int))))) := by kernel_rfl
theorem iTurnBits_round0 (H : List Pt → Nat → St → T (List C)) (a : Int) (q : Int) (r : List (List C)) (l : Nat) (i : Int) (k : Nat) : vRound E_iTurnBits noInl (sg [pS, pI, pI] [rS]) Try.f48 H [Pt.r, Pt.r, Pt.l, Pt.r, Pt.b] k (H_iTurnBits a q r l i) =
 (.ask (decide (i < (32 : Int)))
 (.must (decide ((0 : Int) ≤ i))
  (.ask (decide (iand IntKind.i64 (ishr IntKind.i64 q i) (1 : Int) = (1 : Int)))
   (.ask (decide ((0 : Int) ≤ a))
    (.ask (decide (a < IntKind.i64.wrap ((8 : Int) * (↑l : Int))))
     (.ask (decide (IntKind.i64.wrap (a + i) < IntKind.i64.wrap ((8 : Int) * (↑l : Int))))
      (.must true
       (.must (decide ((0 : Int) ≤ IntKind.i64.wrap ((IntKind.i64.wrap (a + i)).tdiv (8 : Int))) &&
  decide (IntKind.i64.wrap ((IntKind.i64.wrap (a + i)).tdiv (8 : Int)) < (↑l : Int)))
        (.must (decide ((0 : Nat) + (IntKind.i64.wrap ((IntKind.i64.wrap (a + i)).tdiv (8 : Int))).toNat < r.length) &&
  (decide
        ((0 : Nat) <
          (r.getD ((0 : Nat) + (IntKind.i64.wrap ((IntKind.i64.wrap (a + i)).tdiv (8 : Int))).toNat) []).length) &&
      C.is (K.int IntKind.u8)
        ((r.getD ((0 : Nat) + (IntKind.i64.wrap ((IntKind.i64.wrap (a + i)).tdiv (8 : Int))).toNat) []).getD (0 : Nat)
          (C.fn (0 : FuncId) [])) &&
    true))
         (.must true
          (.must (decide ((0 : Int) ≤ (IntKind.i64.wrap (a + i)).tmod (8 : Int)))
           (.must (decide ((0 : Int) ≤ IntKind.i64.wrap ((IntKind.i64.wrap (a + i)).tdiv (8 : Int))) &&
  decide (IntKind.i64.wrap ((IntKind.i64.wrap (a + i)).tdiv (8 : Int)) < (↑l : Int)))
            (.must (decide ((0 : Nat) + (IntKind.i64.wrap ((IntKind.i64.wrap (a + i)).tdiv (8 : Int))).toNat < r.length))
             (H [Pt.r, Pt.r, Pt.l, Pt.r, Pt.b] k (H_iTurnBits (a) (q) (r.set ((0 : Nat) + (IntKind.i64.wrap ((IntKind.i64.wrap (a + i)).tdiv (8 : Int))).toNat)
  (C.int IntKind.u8
      (ixor IntKind.u8
        ((r.getD ((0 : Nat) + (IntKind.i64.wrap ((IntKind.i64.wrap (a + i)).tdiv (8 : Int))).toNat) []).getD (0 : Nat)
            (C.fn (0 : FuncId) [])).toInt
        (ishl IntKind.u8 (1 : Int) ((IntKind.i64.wrap (a + i)).tmod (8 : Int)))) ::
    List.drop ((0 : Nat) + (1 : Nat))
      (r.getD ((0 : Nat) + (IntKind.i64.wrap ((IntKind.i64.wrap (a + i)).tdiv (8 : Int))).toNat) []))) (l) (IntKind.i64.wrap (i + (1 : Int))))))))))))
      (H [Pt.r, Pt.r, Pt.l, Pt.r, Pt.b] k (H_iTurnBits (a) (q) (r) (l) (IntKind.i64.wrap (i + (1 : Int))))))
     (H [Pt.r, Pt.r, Pt.l, Pt.r, Pt.b] k (H_iTurnBits (a) (q) (r) (l) (IntKind.i64.wrap (i + (1 : Int))))))
    (H [Pt.r, Pt.r, Pt.l, Pt.r, Pt.b] k (H_iTurnBits (a) (q) (r) (l) (IntKind.i64.wrap (i + (1 : Int))))))
   (H [Pt.r, Pt.r, Pt.l, Pt.r, Pt.b] k (H_iTurnBits (a) (q) (r) (l) (IntKind.i64.wrap (i + (1 : Int)))))))
 (.must ((List.take l r).all byteRow)
  (.must true
   (.ret [C.str (strOfRows (List.take l r))])))) := by kernel_rfl
theorem sBitsChanged_tree (H : List Pt → Nat → St → T (List C)) (b : List UInt8) (c : List UInt8) : vBodyL E_sBitsChanged noInl (sg [pS, pS] [rI]) Try.f30 H [C.str b, C.str c] =
 (.must true
 (H [Pt.r, Pt.r, Pt.l, Pt.r, Pt.b] (9223372036854775808 : Nat) (H_sBitsChangeda (b) (c) ((0 : Int)) ((0 : Int))))) := by kernel_rfl
theorem sBitsChanged_round0a (H : List Pt → Nat → St → T (List C)) (b : List UInt8) (c : List UInt8) (n : Int) (i : Int) (k : Nat) : vRound E_sBitsChanged noInl (sg [pS, pS] [rI]) Try.f30 H [Pt.r, Pt.r, Pt.l, Pt.r, Pt.b] k (H_sBitsChangeda b c n i) =
 (.ask (decide (i < (↑b.length : Int)))
 (.ask (decide (i < (↑c.length : Int)))
  (.must (decide ((0 : Int) ≤ i) && decide (i < (↑b.length : Int)))
   (.must (decide ((0 : Int) ≤ i) && decide (i < (↑c.length : Int)))
    (H [Pt.r, Pt.r, Pt.l, Pt.r, Pt.b, Pt.lp k, Pt.r, Pt.l, Pt.b, Pt.r, Pt.b] (9223372036854775808 : Nat) (H_sBitsChangedb (b) (c) (n) (i) (IntKind.i64.wrap
  (ixor IntKind.u8 (↑(b.getD i.toNat (0 : UInt8)).toNat : Int) (↑(c.getD i.toNat (0 : UInt8)).toNat : Int)))))))
  (.ask (decide ((↑c.length : Int) < (↑b.length : Int)))
   (.must true
    (.ret [C.int IntKind.i64
    (IntKind.i64.wrap (n + IntKind.i64.wrap ((8 : Int) * IntKind.i64.wrap ((↑b.length : Int) - (↑c.length : Int)))))]))
   (.must true
    (.ret [C.int IntKind.i64
    (IntKind.i64.wrap (n + IntKind.i64.wrap ((8 : Int) * IntKind.i64.wrap ((↑c.length : Int) - (↑b.length : Int)))))]))))
 (.ask (decide ((↑c.length : Int) < (↑b.length : Int)))
  (.must true
   (.ret [C.int IntKind.i64
    (IntKind.i64.wrap (n + IntKind.i64.wrap ((8 : Int) * IntKind.i64.wrap ((↑b.length : Int) - (↑c.length : Int)))))]))
  (.must true
   (.ret [C.int IntKind.i64
    (IntKind.i64.wrap (n + IntKind.i64.wrap ((8 : Int) * IntKind.i64.wrap ((↑c.length : Int) - (↑b.length : Int)))))])))) := by kernel_rfl
theorem sBitsChanged_round1b (H : List Pt → Nat → St → T (List C)) (m : Nat) (b : List UInt8) (c : List UInt8) (n : Int) (i : Int) (x : Int) (k : Nat) : vRound E_sBitsChanged noInl (sg [pS, pS] [rI]) Try.f30 H
  [Pt.r, Pt.r, Pt.l, Pt.r, Pt.b, Pt.lp m, Pt.r, Pt.l, Pt.b, Pt.r, Pt.b] k (H_sBitsChangedb b c n i x) =
 (.ask (decide ((0 : Int) < x))
 (.must true
  (H [Pt.r, Pt.r, Pt.l, Pt.r, Pt.b, Pt.lp m, Pt.r, Pt.l, Pt.b, Pt.r, Pt.b] k (H_sBitsChangedb (b) (c) (IntKind.i64.wrap (n + iand IntKind.i64 x (1 : Int))) (i) (ishr IntKind.i64 x (1 : Int)))))
 (H [Pt.r, Pt.r, Pt.l, Pt.r, Pt.b] m (H_sBitsChangeda (b) (c) (n) (IntKind.i64.wrap (i + (1 : Int)))))) := by kernel_rfl
theorem iBitsChanged_tree (H : List Pt → Nat → St → T (List C)) (b : List UInt8) (c : List UInt8) : vBodyL E_iBitsChanged noInl (sg [pS, pS] [rI]) Try.f28 H [C.str b, C.str c] =
 (.must true
 (H [Pt.r, Pt.r, Pt.r, Pt.l, Pt.r, Pt.b] (9223372036854775808 : Nat) (H_iBitsChanged (b) (c) (IntKind.i64.wrap
  ((8 : Int) * IntKind.i64.wrap (imax (↑b.length : Int) (↑c.length : Int) - imin (↑b.length : Int) (↑c.length : Int)))) (imin (↑b.length : Int) (↑c.length : Int)) ((0 : Int))))) := by kernel_rfl
theorem iBitsChanged_round0 (H : List Pt → Nat → St → T (List C)) (b : List UInt8) (c : List UInt8) (s : Int) (q : Int) (i : Int) (k : Nat) : vRound E_iBitsChanged noInl (sg [pS, pS] [rI]) Try.f28 H [Pt.r, Pt.r, Pt.r, Pt.l, Pt.r, Pt.b] k
  (H_iBitsChanged b c s q i) =
 (.ask (decide (i < q))
 (.must (decide ((0 : Int) ≤ i) && decide (i < (↑b.length : Int)))
  (.must (decide ((0 : Int) ≤ i) && decide (i < (↑c.length : Int)))
   (.must true
    (.must (decide
  ((0 : Int) ≤ ixor IntKind.u8 (↑(b.getD i.toNat (0 : UInt8)).toNat : Int) (↑(c.getD i.toNat (0 : UInt8)).toNat : Int) ∧
    ixor IntKind.u8 (↑(b.getD i.toNat (0 : UInt8)).toNat : Int) (↑(c.getD i.toNat (0 : UInt8)).toNat : Int) ≤
      (255 : Int)))
     (.must true
      (H [Pt.r, Pt.r, Pt.r, Pt.l, Pt.r, Pt.b] k (H_iBitsChanged (b) (c) (IntKind.i64.wrap
  (s + onesOf (ixor IntKind.u8 (↑(b.getD i.toNat (0 : UInt8)).toNat : Int) (↑(c.getD i.toNat (0 : UInt8)).toNat : Int)))) (q) (IntKind.i64.wrap (i + (1 : Int))))))))))
 (.must true
  (.ret [C.int IntKind.i64 s]))) := by kernel_rfl
theorem ones8_tree (H : List Pt → Nat → St → T (List C)) (x : Int) : vBodyL E_ones8 noInl (sg [pU8] [rI]) Try.f98 H [C.int IntKind.u8 x] =
 (.must true
 (.must (decide ((0 : Int) ≤ x) && decide (x < (↑(256 : Nat) : Int)))
  (.must true
   (.ret [C.int IntKind.i64 (IntKind.i64.wrap (↑(pop8.getD x.toNat (0 : UInt8)).toNat : Int))])))) := by kernel_rfl
theorem sChangeEnd_tree (H : List Pt → Nat → St → T (List C)) (b : List UInt8) (c : List UInt8) : vBodyL E_sChangeEnd noInl (sg [pS, pS] [rI]) Try.f53 H [C.str b, C.str c] =
 (.must true
 (.ask ((↑b.length : Int) != (↑c.length : Int))
  (.ask (decide ((↑c.length : Int) < (↑b.length : Int)))
   (.must true
    (.ret [C.int IntKind.i64 (↑b.length : Int)]))
   (.must true
    (.ret [C.int IntKind.i64 (↑c.length : Int)])))
  (H [Pt.r, Pt.r, Pt.r, Pt.l, Pt.r, Pt.b] (9223372036854775808 : Nat) (H_sChangeEnd (b) (c) ((0 : Int)) ((0 : Int)))))) := by kernel_rfl
theorem sChangeEnd_round0 (H : List Pt → Nat → St → T (List C)) (b : List UInt8) (c : List UInt8) (n : Int) (i : Int) (k : Nat) : vRound E_sChangeEnd noInl (sg [pS, pS] [rI]) Try.f53 H [Pt.r, Pt.r, Pt.r, Pt.l, Pt.r, Pt.b] k (H_sChangeEnd b c n i) =
 (.ask (decide (i < (↑b.length : Int)))
 (.must (decide ((0 : Int) ≤ i) && decide (i < (↑b.length : Int)))
  (.must (decide ((0 : Int) ≤ i) && decide (i < (↑c.length : Int)))
   (.ask ((↑(b.getD i.toNat (0 : UInt8)).toNat : Int) != (↑(c.getD i.toNat (0 : UInt8)).toNat : Int))
    (H [Pt.r, Pt.r, Pt.r, Pt.l, Pt.r, Pt.b] k (H_sChangeEnd (b) (c) (IntKind.i64.wrap (i + (1 : Int))) (IntKind.i64.wrap (i + (1 : Int)))))
    (H [Pt.r, Pt.r, Pt.r, Pt.l, Pt.r, Pt.b] k (H_sChangeEnd (b) (c) (n) (IntKind.i64.wrap (i + (1 : Int))))))))
 (.must true
  (.ret [C.int IntKind.i64 n]))) := by kernel_rfl
theorem iChangeEnd_tree (H : List Pt → Nat → St → T (List C)) (b : List UInt8) (c : List UInt8) : vBodyL E_iChangeEnd noInl (sg [pS, pS] [rI]) Try.f51 H [C.str b, C.str c] =
 (.must true
 (.ask ((↑b.length : Int) != (↑c.length : Int))
  (.must true
   (.ret [C.int IntKind.i64 (imax (↑b.length : Int) (↑c.length : Int))]))
  (H [Pt.r, Pt.r, Pt.r, Pt.l, Pt.b] (9223372036854775808 : Nat) (H_iChangeEnd (b) (c) ((↑b.length : Int)))))) := by kernel_rfl
theorem iChangeEnd_round0 (H : List Pt → Nat → St → T (List C)) (b : List UInt8) (c : List UInt8) (n : Int) (k : Nat) : vRound E_iChangeEnd noInl (sg [pS, pS] [rI]) Try.f51 H [Pt.r, Pt.r, Pt.r, Pt.l, Pt.b] k (H_iChangeEnd b c n) =
 (.ask (decide ((0 : Int) < n))
 (.must (decide ((0 : Int) ≤ IntKind.i64.wrap (n - (1 : Int))) && decide (IntKind.i64.wrap (n - (1 : Int)) < (↑b.length : Int)))
  (.must (decide ((0 : Int) ≤ IntKind.i64.wrap (n - (1 : Int))) && decide (IntKind.i64.wrap (n - (1 : Int)) < (↑c.length : Int)))
   (.ask (decide
  ((↑(b.getD (IntKind.i64.wrap (n - (1 : Int))).toNat (0 : UInt8)).toNat : Int) =
    (↑(c.getD (IntKind.i64.wrap (n - (1 : Int))).toNat (0 : UInt8)).toNat : Int)))
    (H [Pt.r, Pt.r, Pt.r, Pt.l, Pt.b] k (H_iChangeEnd (b) (c) (IntKind.i64.wrap (n - (1 : Int)))))
    (.must true
     (.ret [C.int IntKind.i64 n])))))
 (.must true
  (.ret [C.int IntKind.i64 n]))) := by kernel_rfl
theorem sFirstChange_tree (H : List Pt → Nat → St → T (List C)) (b : List UInt8) (c : List UInt8) : vBodyL E_sFirstChange noInl (sg [pS, pS] [rI]) Try.f52 H [C.str b, C.str c] =
 (.must true
 (H [Pt.r, Pt.l, Pt.r, Pt.b] (9223372036854775808 : Nat) (H_sFirstChange (b) (c) ((0 : Int))))) := by kernel_rfl
theorem sFirstChange_round0 (H : List Pt → Nat → St → T (List C)) (b : List UInt8) (c : List UInt8) (i : Int) (k : Nat) : vRound E_sFirstChange noInl (sg [pS, pS] [rI]) Try.f52 H [Pt.r, Pt.l, Pt.r, Pt.b] k (H_sFirstChange b c i) =
 (.ask (decide (i < (↑b.length : Int)))
 (.ask (decide (i < (↑c.length : Int)))
  (.must (decide ((0 : Int) ≤ i) && decide (i < (↑b.length : Int)))
   (.must (decide ((0 : Int) ≤ i) && decide (i < (↑c.length : Int)))
    (.ask ((↑(b.getD i.toNat (0 : UInt8)).toNat : Int) != (↑(c.getD i.toNat (0 : UInt8)).toNat : Int))
     (.must true
      (.ret [C.int IntKind.i64 i]))
     (H [Pt.r, Pt.l, Pt.r, Pt.b] k (H_sFirstChange (b) (c) (IntKind.i64.wrap (i + (1 : Int))))))))
  (.ask (decide ((↑b.length : Int) < (↑c.length : Int)))
   (.must true
    (.ret [C.int IntKind.i64 (↑b.length : Int)]))
   (.ask (decide ((↑c.length : Int) < (↑b.length : Int)))
    (.must true
     (.ret [C.int IntKind.i64 (↑c.length : Int)]))
    (.must true
     (.ret [C.int IntKind.i64 (-1 : Int)])))))
 (.ask (decide ((↑b.length : Int) < (↑c.length : Int)))
  (.must true
   (.ret [C.int IntKind.i64 (↑b.length : Int)]))
  (.ask (decide ((↑c.length : Int) < (↑b.length : Int)))
   (.must true
    (.ret [C.int IntKind.i64 (↑c.length : Int)]))
   (.must true
    (.ret [C.int IntKind.i64 (-1 : Int)]))))) := by kernel_rfl
theorem iFirstChange_tree (H : List Pt → Nat → St → T (List C)) (b : List UInt8) (c : List UInt8) : vBodyL E_iFirstChange noInl (sg [pS, pS] [rI]) Try.f50 H [C.str b, C.str c] =
 (.must true
 (H [Pt.r, Pt.r, Pt.l, Pt.r, Pt.b] (9223372036854775808 : Nat) (H_iFirstChange (b) (c) (imin (↑b.length : Int) (↑c.length : Int)) (imin (↑b.length : Int) (↑c.length : Int)) ((0 : Int))))) := by kernel_rfl
theorem iFirstChange_round0 (H : List Pt → Nat → St → T (List C)) (b : List UInt8) (c : List UInt8) (n : Int) (q : Int) (i : Int) (k : Nat) : vRound E_iFirstChange noInl (sg [pS, pS] [rI]) Try.f50 H [Pt.r, Pt.r, Pt.l, Pt.r, Pt.b] k (H_iFirstChange b c n q i) =
 (.ask (decide (i < q))
 (.must (decide ((0 : Int) ≤ i) && decide (i < (↑b.length : Int)))
  (.must (decide ((0 : Int) ≤ i) && decide (i < (↑c.length : Int)))
   (.ask ((↑(b.getD i.toNat (0 : UInt8)).toNat : Int) != (↑(c.getD i.toNat (0 : UInt8)).toNat : Int))
    (.must true
     (.ret [C.int IntKind.i64 i]))
    (H [Pt.r, Pt.r, Pt.l, Pt.r, Pt.b] k (H_iFirstChange (b) (c) (n) (q) (IntKind.i64.wrap (i + (1 : Int))))))))
 (.ask (decide ((↑b.length : Int) = (↑c.length : Int)))
  (.must true
   (.ret [C.int IntKind.i64 (-1 : Int)]))
  (.must true
   (.ret [C.int IntKind.i64 n])))) := by kernel_rfl
end Go.Proofs.Ythpamcbipmkimaa.V

namespace Go.Proofs.Ythpamcbipmkimaa.V

theorem u8_ne (x y : UInt8) : (((x.toNat : Int) != (y.toNat : Int)) = true) ↔ x ≠ y := by
  rw [bne_iff_ne, ne_eq, Int.ofNat_inj, UInt8.toNat_inj]
theorem u8_eq (x y : UInt8) : ((x.toNat : Int) = (y.toNat : Int)) ↔ x = y := by
  rw [Int.ofNat_inj, UInt8.toNat_inj]
theorem imin_nat (a b : Nat) : imin (a : Int) (b : Int) = ((min a b : Nat) : Int) := by unfold imin; split <;> omega
theorem imax_nat (a b : Nat) : imax (a : Int) (b : Int) = ((max a b : Nat) : Int) := by unfold imax; split <;> omega
theorem iand_one (x : Int) : iand .i64 x 1 = x % 2 := by
  show IntKind.i64.wrap (((BitVec.ofInt 64 x &&& BitVec.ofInt 64 1).toNat : Nat) : Int) = _
  rw [BitVec.toNat_and]
  have h1 : (BitVec.ofInt 64 1).toNat = 1 := by decide
  have h2 : (BitVec.ofInt 64 x).toNat = (x % 18446744073709551616).toNat := by simp [BitVec.toNat_ofInt]
  rw [h1, h2, Nat.and_one_is_mod, wrap64] <;> omega
theorem ishr_one (x : Int) : ishr .i64 x 1 = x / 2 := by
  show x.fdiv (2 ^ (min (Int.toNat 1) 64)) = _
  rw [Int.fdiv_eq_ediv_of_nonneg] <;> simp

theorem sBrought_E : EnvSound Try.prog E_sBrought := mkE_sound (by simp [])
theorem sBrought_sound : Sound Try.prog 110 (sg [pI, pI, pI] [rI]) broughtSpec := vBody_sound sBrought_E noInl_ok Try.func110 (by kernel_rfl) fun cs outs hk h => by
  unfold broughtSpec at h
  split at h
  · simp only [Option.some.injEq, Prod.mk.injEq, true_and] at h
    rw [← h, vBody_L, sBrought_tree]
    simp only [eval_must', eval_ask', eval_ret', decide_eq_true_eq, if_true, broughtOf]
    repeat' split
    all_goals first | rfl | omega
  · cases h
theorem iBrought_E : EnvSound Try.prog E_iBrought := mkE_sound (by simp [])
theorem iBrought_sound : Sound Try.prog 109 (sg [pI, pI, pI] [rI]) broughtSpec := vBody_sound iBrought_E noInl_ok Try.func109 (by kernel_rfl) fun cs outs hk h => by
  unfold broughtSpec at h
  split at h
  · simp only [Option.some.injEq, Prod.mk.injEq, true_and] at h
    rw [← h, vBody_L, iBrought_tree]
    simp only [eval_must', eval_ask', eval_ret', decide_eq_true_eq, if_true, broughtOf, imin, imax]
    repeat' split
    all_goals first | rfl | omega | (congr 3; omega)
  · cases h
theorem brought_range (n : Int) (m : Nat) : 0 ≤ broughtOf n 0 m ∧ broughtOf n 0 m ≤ m := by unfold broughtOf; repeat' split <;> omega

theorem sCutText_E : EnvSound Try.prog E_sCutText := mkE_sound (by simp [sBrought_sound])
theorem sCutText_sound : Sound Try.prog 56 (sg [pS, pI] [rS]) cutSpec := vBody_sound sCutText_E noInl_ok Try.func56 (by kernel_rfl) fun cs outs hk h => by
  unfold cutSpec at h
  split at h
  · simp only [Option.some.injEq, Prod.mk.injEq, true_and] at h
    rw [← h, vBody_L, sCutText_tree]
    rename_i b n
    have := brought_range n b.length
    simp only [eval_must', eval_ask', eval_ret', decide_eq_true_eq, if_true, Bool.and_eq_true, this, and_self]
    rfl
  · cases h
theorem iCutText_E : EnvSound Try.prog E_iCutText := mkE_sound (by simp [iBrought_sound])
theorem iCutText_sound : Sound Try.prog 55 (sg [pS, pI] [rS]) cutSpec := vBody_sound iCutText_E noInl_ok Try.func55 (by kernel_rfl) fun cs outs hk h => by
  unfold cutSpec at h
  split at h
  · simp only [Option.some.injEq, Prod.mk.injEq, true_and] at h
    rw [← h, vBody_L, iCutText_tree]
    rename_i b n
    have := brought_range n b.length
    simp only [eval_must', eval_ask', eval_ret', decide_eq_true_eq, if_true, Bool.and_eq_true, this, and_self]
    rfl
  · cases h

theorem turnTo_succ (b : List UInt8) (a m : Int) (i : Nat) : turnTo b a m (i + 1) = turnStep a m (turnTo b a m i) i := by
  simp [turnTo, List.range_succ, List.foldl_append]
theorem turnStep_length (l : List UInt8) (a m : Int) (i : Nat) : (turnStep a m l i).length = l.length := by
  unfold turnStep; split <;> simp
theorem turnTo_length (b : List UInt8) (a m : Int) : ∀ i, (turnTo b a m i).length = b.length
  | 0 => rfl
  | i + 1 => by rw [turnTo_succ, turnStep_length, turnTo_length b a m i]
theorem turn_store (l : List UInt8) (a m : Int) (i : Nat) (h1 : iand .i64 (ishr .i64 m i) 1 = 1) (h2 : 0 ≤ a) (h3 : a + i < 8 * l.length) :
    (rowsOfStr l).set ((a + i) / 8).toNat (C.int .u8 (ixor .u8 (((rowsOfStr l).getD ((a + i) / 8).toNat []).getD 0 (C.fn 0 [])).toInt (ishl .u8 1 ((a + i) % 8))) :: List.drop (0 + 1) ((rowsOfStr l).getD ((a + i) / 8).toNat [])) = rowsOfStr (turnStep a m l i) := by
  have hj : ((a + i) / 8).toNat < l.length := by omega
  rw [rows_get l _ hj]
  simp only [List.getD_cons_zero, C.toInt, List.drop_succ_cons, List.drop_nil, Nat.zero_add]
  rw [rows_set _ _ _ (ixor8_range _ _).1 (ixor8_range _ _).2]
  simp only [turnStep, h1, h2, h3, and_self, if_true]
theorem sTurnBits_loop (b : List UInt8) (a m : Int) (ha : 0 ≤ a) (hb : b.length ≤ 1048576) (ha2 : a ≤ 9223372036854775807) : ∀ (n i : Nat), i ≤ 32 → 32 < i + n →
    (vLoop E_sTurnBits noInl (sg [pS, pI, pI] [rS]) Try.f31 [.r, .r, .r, .l, .r, .b] n (H_sTurnBits a m (rowsOfStr (turnTo b a m i)) b.length i)).eval = some [.str (turnOf b a m)] := by
  intro n
  induction n with
  | zero => intro i h1 h2; omega
  | succ n ih =>
    intro i h1 h2
    have hl := turnTo_length b a m i
    rw [vLoop_L _ _ _ _ _ _ _ (by kernel_rfl), sTurnBits_round0]
    by_cases hi : i < 32
    · have hi' : (i : Int) < 32 := by omega
      have e := ih (i + 1) (by omega) (by omega)
      rw [turnTo_succ] at e
      have w1 : IntKind.i64.wrap ((i : Int) + 1) = ((i + 1 : Nat) : Int) := by rw [wrap64] <;> omega
      have w2 : IntKind.u64.wrap (i : Int) = i := by rw [wrapU64] <;> omega
      have w3 : IntKind.i64.wrap (8 * (b.length : Int)) = 8 * (b.length : Int) := by rw [wrap64] <;> omega
      have w4 : IntKind.i64.wrap (8 * (b.length : Int) - i) = 8 * (b.length : Int) - i := by rw [wrap64] <;> omega
      have hz : (0 : Int) ≤ i := by omega
      simp only [eval_must', eval_ask', decide_eq_true_eq, if_true, w1, w2, w3, w4, hi', hz, rows_length, hl, Bool.and_eq_true, Nat.zero_add]
      by_cases h3 : iand .i64 (ishr .i64 m i) 1 = 1
      · by_cases h4 : a < 8 * (b.length : Int) - i
        · have w5 : IntKind.i64.wrap (a + i) = a + i := by rw [wrap64] <;> omega
          have w6 : (a + i).tdiv 8 = (a + i) / 8 := by rw [Int.tdiv_eq_ediv_of_nonneg (by omega)]
          have w7 : (a + i).tmod 8 = (a + i) % 8 := by rw [Int.tmod_eq_emod_of_nonneg (by omega)]
          have w8 : IntKind.i64.wrap ((a + i) / 8) = (a + i) / 8 := by rw [wrap64] <;> omega
          have w9 : IntKind.u64.wrap ((a + i) % 8) = (a + i) % 8 := by rw [wrapU64] <;> omega
          have c1 : (0 : Int) ≤ (a + i) / 8 := by omega
          have c2 : (a + i) / 8 < (b.length : Int) := by omega
          have c3 : ((a + i) / 8).toNat < b.length := by omega
          have c4 : (0 : Int) ≤ (a + i) % 8 := by omega
          have st := turn_store (turnTo b a m i) a m i h3 ha (by omega)
          have hg := rows_get (turnTo b a m i) ((a + i) / 8).toNat (by omega)
          have hg1 : 0 < ((rowsOfStr (turnTo b a m i)).getD ((a + i) / 8).toNat []).length := by rw [hg]; exact Nat.zero_lt_one
          have hg2 : C.is (K.int .u8) (((rowsOfStr (turnTo b a m i)).getD ((a + i) / 8).toNat []).getD 0 (C.fn 0 [])) = true := by rw [hg]; rfl
          simp only [Nat.zero_add] at st
          simp only [h3, h4, if_true, w5, w6, w7, w8, w9, c1, c2, c3, c4, hg1, hg2, and_self, st]
          exact e
        · have : turnStep a m (turnTo b a m i) i = turnTo b a m i := by
            unfold turnStep; rw [if_neg (by rw [hl]; omega)]
          rw [this] at e
          simp only [h3, h4, if_true, if_false]
          exact e
      · have : turnStep a m (turnTo b a m i) i = turnTo b a m i := by
          unfold turnStep; rw [if_neg (fun h => h3 h.1)]
        rw [this] at e
        simp only [h3, if_false]
        exact e
    · have hi2 : i = 32 := by omega
      subst hi2
      simp only [eval_must', eval_ask', eval_ret', decide_eq_true_eq]
      rw [if_neg (by omega), List.take_of_length_le (by rw [rows_length, hl]; omega), rows_bytes, str_rows]
      rfl
theorem iTurnBits_loop (b : List UInt8) (a m : Int) (hb : b.length ≤ 1048576) (ha1 : -9223372036854775808 ≤ a) (ha2 : a ≤ 9223372036854775807) : ∀ (n i : Nat), i ≤ 32 → 32 < i + n →
    (vLoop E_iTurnBits noInl (sg [pS, pI, pI] [rS]) Try.f48 [.r, .r, .l, .r, .b] n (H_iTurnBits a m (rowsOfStr (turnTo b a m i)) b.length i)).eval = some [.str (turnOf b a m)] := by
  intro n
  induction n with
  | zero => intro i h1 h2; omega
  | succ n ih =>
    intro i h1 h2
    have hl := turnTo_length b a m i
    rw [vLoop_L _ _ _ _ _ _ _ (by kernel_rfl), iTurnBits_round0]
    by_cases hi : i < 32
    · have hi' : (i : Int) < 32 := by omega
      have e := ih (i + 1) (by omega) (by omega)
      rw [turnTo_succ] at e
      have w1 : IntKind.i64.wrap ((i : Int) + 1) = ((i + 1 : Nat) : Int) := by rw [wrap64] <;> omega
      have w3 : IntKind.i64.wrap (8 * (b.length : Int)) = 8 * (b.length : Int) := by rw [wrap64] <;> omega
      have hz : (0 : Int) ≤ i := by omega
      simp only [eval_must', eval_ask', decide_eq_true_eq, if_true, w1, w3, hi', hz, rows_length, hl, Bool.and_eq_true, Nat.zero_add]
      by_cases h3 : iand .i64 (ishr .i64 m i) 1 = 1
      · by_cases h4 : 0 ≤ a ∧ a + i < 8 * (b.length : Int)
        · obtain ⟨ha, h4⟩ := h4
          have w5 : IntKind.i64.wrap (a + i) = a + i := by rw [wrap64] <;> omega
          have w6 : (a + i).tdiv 8 = (a + i) / 8 := by rw [Int.tdiv_eq_ediv_of_nonneg (by omega)]
          have w7 : (a + i).tmod 8 = (a + i) % 8 := by rw [Int.tmod_eq_emod_of_nonneg (by omega)]
          have w8 : IntKind.i64.wrap ((a + i) / 8) = (a + i) / 8 := by rw [wrap64] <;> omega
          have c0 : a < 8 * (b.length : Int) := by omega
          have c1 : (0 : Int) ≤ (a + i) / 8 := by omega
          have c2 : (a + i) / 8 < (b.length : Int) := by omega
          have c3 : ((a + i) / 8).toNat < b.length := by omega
          have c4 : (0 : Int) ≤ (a + i) % 8 := by omega
          have st := turn_store (turnTo b a m i) a m i h3 ha (by omega)
          have hg := rows_get (turnTo b a m i) ((a + i) / 8).toNat (by omega)
          have hg1 : 0 < ((rowsOfStr (turnTo b a m i)).getD ((a + i) / 8).toNat []).length := by rw [hg]; exact Nat.zero_lt_one
          have hg2 : C.is (K.int .u8) (((rowsOfStr (turnTo b a m i)).getD ((a + i) / 8).toNat []).getD 0 (C.fn 0 [])) = true := by rw [hg]; rfl
          simp only [Nat.zero_add] at st
          simp only [h3, h4, ha, c0, if_true, w5, w6, w7, w8, c1, c2, c3, c4, hg1, hg2, and_self, st]
          exact e
        · have : turnStep a m (turnTo b a m i) i = turnTo b a m i := by
            unfold turnStep; rw [if_neg (by rw [hl]; omega)]
          rw [this] at e
          simp only [h3, if_true]
          by_cases ha : 0 ≤ a
          · by_cases hc : a < 8 * (b.length : Int)
            · have w5 : IntKind.i64.wrap (a + i) = a + i := by rw [wrap64] <;> omega
              have h5 : ¬ (a + i < 8 * (b.length : Int)) := by omega
              simp only [ha, hc, w5, h5, if_true, if_false]
              exact e
            · simp only [ha, hc, if_true, if_false]
              exact e
          · simp only [ha, if_false]
            exact e
      · have : turnStep a m (turnTo b a m i) i = turnTo b a m i := by
          unfold turnStep; rw [if_neg (fun h => h3 h.1)]
        rw [this] at e
        simp only [h3, if_false]
        exact e
    · have hi2 : i = 32 := by omega
      subst hi2
      simp only [eval_must', eval_ask', eval_ret', decide_eq_true_eq]
      rw [if_neg (by omega), List.take_of_length_le (by rw [rows_length, hl]; omega), rows_bytes, str_rows]
      rfl
theorem turn_neg (b : List UInt8) (a m : Int) (h : a < 0) : turnOf b a m = b := by
  have : ∀ i, turnTo b a m i = b := by
    intro i
    induction i with
    | zero => rfl
    | succ i ih => rw [turnTo_succ, ih]; unfold turnStep; rw [if_neg (by omega)]
  exact this 32
theorem sTurnBits_E : EnvSound Try.prog E_sTurnBits := mkE_sound (by simp [])
theorem sTurnBits_sound : Sound Try.prog 31 (sg [pS, pI, pI] [rS]) turnSpec := vBody_sound sTurnBits_E noInl_ok Try.func31 (by kernel_rfl) fun cs outs hk h => by
  unfold turnSpec at h
  split at h
  · simp only [Option.some.injEq, Prod.mk.injEq, Bool.and_eq_true, decide_eq_true_eq] at h
    obtain ⟨⟨⟨h1, h2⟩, h3⟩, rfl⟩ := h
    rename_i b a m
    rw [vBody_L, sTurnBits_tree]
    simp only [eval_must', eval_ask', eval_ret', if_true, decide_eq_true_eq]
    split
    · rename_i h; rw [turn_neg b a m h]
    · exact sTurnBits_loop b a m (by omega) h1 h3 _ 0 (by omega) (by omega)
  · cases h
theorem iTurnBits_E : EnvSound Try.prog E_iTurnBits := mkE_sound (by simp [])
theorem iTurnBits_sound : Sound Try.prog 48 (sg [pS, pI, pI] [rS]) turnSpec := vBody_sound iTurnBits_E noInl_ok Try.func48 (by kernel_rfl) fun cs outs hk h => by
  unfold turnSpec at h
  split at h
  · simp only [Option.some.injEq, Prod.mk.injEq, Bool.and_eq_true, decide_eq_true_eq] at h
    obtain ⟨⟨⟨h1, h2⟩, h3⟩, rfl⟩ := h
    rename_i b a m
    rw [vBody_L, iTurnBits_tree]
    simp only [eval_must', eval_ask', eval_ret', if_true, decide_eq_true_eq]
    exact iTurnBits_loop b a m h1 h2 h3 _ 0 (by omega) (by omega)
  · cases h

theorem bitCount_range : ∀ (n : Nat) (x : Int), 0 ≤ bitCount n x ∧ bitCount n x ≤ n
  | 0, _ => by simp [bitCount]
  | n + 1, x => by simp only [bitCount]; have := bitCount_range n (x / 2); omega
theorem bitsTo_range (b c : List UInt8) : ∀ i : Nat, 0 ≤ bitsTo b c i ∧ bitsTo b c i ≤ 8 * i
  | 0 => by simp [bitsTo]
  | i + 1 => by simp only [bitsTo]; have := bitsTo_range b c i; have := bitCount_range 8 (ixor .u8 (b.getD i 0).toNat (c.getD i 0).toNat); omega
theorem bitCount_zero : ∀ n, bitCount n 0 = 0
  | 0 => rfl
  | n + 1 => by simp [bitCount, bitCount_zero n]
theorem ones_fin : ∀ x : Fin 256, onesOf ((x.val : Nat) : Int) = bitCount 8 ((x.val : Nat) : Int) := by decide +kernel
theorem ones_eq (x : Int) (h1 : 0 ≤ x) (h2 : x ≤ 255) : onesOf x = bitCount 8 x := by
  have := ones_fin ⟨x.toNat, by omega⟩
  simpa [Int.toNat_of_nonneg h1] using this
theorem pop8_length : pop8.length = 256 := by kernel_rfl
theorem ones8_E : EnvSound Try.prog E_ones8 := mkE_sound (by simp [])
theorem ones8_sound : Sound Try.prog 98 (sg [pU8] [rI]) onesSpec := vBody_sound ones8_E noInl_ok Try.func98 (by kernel_rfl) fun cs outs hk h => by
  unfold onesSpec at h
  split at h
  · simp only [Option.some.injEq, Prod.mk.injEq, Bool.and_eq_true, decide_eq_true_eq] at h
    obtain ⟨⟨h1, h2⟩, rfl⟩ := h
    rename_i x
    rw [vBody_L, ones8_tree]
    have h3 : x < ((256 : Nat) : Int) := by omega
    simp only [eval_must', eval_ret', if_true, Bool.and_eq_true, decide_eq_true_eq, h1, h3, and_self]
    rfl
  · cases h
theorem sBitsChanged_inner (b c : List UInt8) (m : Nat) (i : Int) : ∀ (k n : Nat) (x s : Int), 0 ≤ x → x < 2 ^ k → k < n → 0 ≤ s → s + k ≤ 9223372036854775807 →
    (vLoop E_sBitsChanged noInl (sg [pS, pS] [rI]) Try.f30 [.r, .r, .l, .r, .b, .lp m, .r, .l, .b, .r, .b] n (H_sBitsChangedb b c s i x)).eval = (vLoop E_sBitsChanged noInl (sg [pS, pS] [rI]) Try.f30 [.r, .r, .l, .r, .b] m (H_sBitsChangeda b c (s + bitCount k x) (IntKind.i64.wrap (i + 1)))).eval := by
  intro k
  induction k with
  | zero =>
    intro n x s h1 h2 h3 h4 h5
    have : x = 0 := by simp at h2; omega
    subst this
    cases n with
    | zero => omega
    | succ n =>
      rw [vLoop_L _ _ _ _ _ _ _ (by kernel_rfl), sBitsChanged_round1b]
      simp [eval_ask', bitCount]
  | succ k ih =>
    intro n x s h1 h2 h3 h4 h5
    cases n with
    | zero => omega
    | succ n =>
      rw [vLoop_L _ _ _ _ _ _ _ (by kernel_rfl), sBitsChanged_round1b]
      simp only [eval_ask', eval_must', if_true, decide_eq_true_eq, iand_one, ishr_one]
      by_cases hx : 0 < x
      · have hw : IntKind.i64.wrap (s + x % 2) = s + x % 2 := by rw [wrap64] <;> omega
        simp only [hx, if_true, hw]
        have h2' : x < 2 ^ k * 2 := by rw [← Int.pow_succ]; exact h2
        rw [ih n (x / 2) (s + x % 2) (by omega) (by omega) (by omega) (by omega) (by omega)]
        simp only [bitCount]
        congr 3
        omega
      · have : x = 0 := by omega
        subst this
        simp [bitCount_zero]
theorem sBitsChanged_loop (b c : List UInt8) (hb : b.length ≤ 1048576) (hc : c.length ≤ 1048576) : ∀ (n i : Nat), i ≤ min b.length c.length → min b.length c.length < i + n →
    (vLoop E_sBitsChanged noInl (sg [pS, pS] [rI]) Try.f30 [.r, .r, .l, .r, .b] n (H_sBitsChangeda b c (bitsTo b c i) i)).eval = some [.int .i64 (bitsOf b c)] := by
  intro n
  induction n with
  | zero => intro i h1 h2; omega
  | succ n ih =>
    intro i h1 h2
    rw [vLoop_L _ _ _ _ _ _ _ (by kernel_rfl), sBitsChanged_round0a]
    simp only [eval_must', eval_ask', eval_ret', decide_eq_true_eq, if_true, Bool.and_eq_true, Int.toNat_natCast, Int.ofNat_lt]
    have hz : (0 : Int) ≤ i := by omega
    have hr := bitsTo_range b c i
    by_cases hi : i < min b.length c.length
    · have hi1 : i < b.length := by omega
      have hi2 : i < c.length := by omega
      simp only [hi1, hi2, hz, if_true, and_self]
      have hx := ixor8_range ((b.getD i 0).toNat : Int) ((c.getD i 0).toNat : Int)
      rw [wrap64 (by omega) (by omega), sBitsChanged_inner b c n i 8 _ _ _ hx.1 (by have := hx.2; omega) (by omega) hr.1 (by omega)]
      have hw : IntKind.i64.wrap ((i : Int) + 1) = ((i + 1 : Nat) : Int) := by rw [wrap64] <;> omega
      rw [hw]
      exact ih (i + 1) (by omega) (by omega)
    · have hm : i = min b.length c.length := by omega
      have e : bitsOf b c = bitsTo b c i + 8 * ((max b.length c.length - min b.length c.length : Nat) : Int) := by rw [hm]; rfl
      have w1 : IntKind.i64.wrap ((b.length : Int) - c.length) = (b.length : Int) - c.length := by rw [wrap64] <;> omega
      have w2 : IntKind.i64.wrap ((c.length : Int) - b.length) = (c.length : Int) - b.length := by rw [wrap64] <;> omega
      have w3 : IntKind.i64.wrap (8 * ((b.length : Int) - c.length)) = 8 * ((b.length : Int) - c.length) := by rw [wrap64] <;> omega
      have w4 : IntKind.i64.wrap (8 * ((c.length : Int) - b.length)) = 8 * ((c.length : Int) - b.length) := by rw [wrap64] <;> omega
      simp only [w1, w2, w3, w4]
      have w5 : IntKind.i64.wrap (bitsTo b c i + 8 * ((b.length : Int) - c.length)) = bitsTo b c i + 8 * ((b.length : Int) - c.length) := by rw [wrap64] <;> omega
      have w6 : IntKind.i64.wrap (bitsTo b c i + 8 * ((c.length : Int) - b.length)) = bitsTo b c i + 8 * ((c.length : Int) - b.length) := by rw [wrap64] <;> omega
      simp only [w5, w6, e]
      repeat' split
      all_goals first | omega | (congr 3; omega)
theorem iBitsChanged_loop (b c : List UInt8) (m : Nat) (hm : m = min b.length c.length) (hb : b.length ≤ 1048576) (hc : c.length ≤ 1048576) : ∀ (n i : Nat), i ≤ m → m < i + n →
    (vLoop E_iBitsChanged noInl (sg [pS, pS] [rI]) Try.f28 [.r, .r, .r, .l, .r, .b] n (H_iBitsChanged b c (8 * ((max b.length c.length - m : Nat) : Int) + bitsTo b c i) m i)).eval = some [.int .i64 (bitsOf b c)] := by
  intro n
  induction n with
  | zero => intro i h1 h2; omega
  | succ n ih =>
    intro i h1 h2
    rw [vLoop_L _ _ _ _ _ _ _ (by kernel_rfl), iBitsChanged_round0]
    simp only [eval_must', eval_ask', eval_ret', decide_eq_true_eq, if_true, Bool.and_eq_true, Int.toNat_natCast, Int.ofNat_lt]
    have hz : (0 : Int) ≤ i := by omega
    have hr := bitsTo_range b c i
    by_cases hi : i < m
    · have hi1 : i < b.length := by omega
      have hi2 : i < c.length := by omega
      have hx := ixor8_range ((b.getD i 0).toNat : Int) ((c.getD i 0).toNat : Int)
      have hbc := bitCount_range 8 (ixor .u8 ((b.getD i 0).toNat : Int) ((c.getD i 0).toNat : Int))
      simp only [hi, hi1, hi2, hz, if_true, and_self, hx]
      rw [ones_eq _ hx.1 hx.2]
      have hw : IntKind.i64.wrap ((i : Int) + 1) = ((i + 1 : Nat) : Int) := by rw [wrap64] <;> omega
      rw [hw, wrap64 (by omega) (by omega), Int.add_assoc]
      exact ih (i + 1) (by omega) (by omega)
    · have hi' : i = m := by omega
      simp only [hi, if_false, bitsOf]
      subst hi'
      rw [← hm]
      congr 3
      omega
theorem sBitsChanged_E : EnvSound Try.prog E_sBitsChanged := mkE_sound (by simp [])
theorem sBitsChanged_sound : Sound Try.prog 30 (sg [pS, pS] [rI]) (ss_spec bitsOf) := vBody_sound sBitsChanged_E noInl_ok Try.func30 (by kernel_rfl) fun cs outs hk h => by
  unfold ss_spec at h
  split at h
  · simp only [Option.some.injEq, Prod.mk.injEq, Bool.and_eq_true, decide_eq_true_eq] at h
    obtain ⟨⟨h1, h2⟩, rfl⟩ := h
    rename_i b c
    rw [vBody_L, sBitsChanged_tree]
    simp only [eval_must', if_true]
    exact sBitsChanged_loop b c h1 h2 _ 0 (by omega) (by omega)
  · cases h
theorem iBitsChanged_E : EnvSound Try.prog E_iBitsChanged := mkE_sound (by simp [ones8_sound])
theorem iBitsChanged_sound : Sound Try.prog 28 (sg [pS, pS] [rI]) (ss_spec bitsOf) := vBody_sound iBitsChanged_E noInl_ok Try.func28 (by kernel_rfl) fun cs outs hk h => by
  unfold ss_spec at h
  split at h
  · simp only [Option.some.injEq, Prod.mk.injEq, Bool.and_eq_true, decide_eq_true_eq] at h
    obtain ⟨⟨h1, h2⟩, rfl⟩ := h
    rename_i b c
    rw [vBody_L, iBitsChanged_tree]
    simp only [eval_must', if_true, imin_nat, imax_nat]
    have w1 : IntKind.i64.wrap (((max b.length c.length : Nat) : Int) - ((min b.length c.length : Nat) : Int)) = ((max b.length c.length - min b.length c.length : Nat) : Int) := by rw [wrap64] <;> omega
    rw [w1, wrap64 (by omega) (by omega)]
    have := iBitsChanged_loop b c _ rfl h1 h2 9223372036854775808 0 (by omega) (by omega)
    simpa [bitsTo] using this
  · cases h

theorem lastDiff_le (b c : List UInt8) : ∀ i, lastDiff b c i ≤ i
  | 0 => Nat.le_refl _
  | i + 1 => by simp only [lastDiff]; have := lastDiff_le b c i; split <;> omega
theorem sChangeEnd_loop (b c : List UInt8) (hl : b.length = c.length) (hb : b.length ≤ 1048576) : ∀ (n i : Nat), i ≤ b.length → b.length < i + n →
    (vLoop E_sChangeEnd noInl (sg [pS, pS] [rI]) Try.f53 [.r, .r, .r, .l, .r, .b] n (H_sChangeEnd b c (lastDiff b c i) i)).eval = some [.int .i64 (endOf b c)] := by
  intro n
  induction n with
  | zero => intro i h1 h2; omega
  | succ n ih =>
    intro i h1 h2
    rw [vLoop_L _ _ _ _ _ _ _ (by kernel_rfl), sChangeEnd_round0]
    simp only [eval_must', eval_ask', eval_ret', decide_eq_true_eq, if_true, Bool.and_eq_true, u8_ne, Int.toNat_natCast, Int.ofNat_lt, Int.ofNat_inj]
    have hz : (0 : Int) ≤ i := by omega
    by_cases hi : i < b.length
    · have hi2 : i < c.length := by omega
      have hw : IntKind.i64.wrap ((i : Int) + 1) = ((i + 1 : Nat) : Int) := by rw [wrap64] <;> omega
      have e := ih (i + 1) (by omega) (by omega)
      simp only [hi, hi2, hz, if_true, and_self, hw]
      by_cases hx : b.getD i 0 = c.getD i 0
      · simp only [lastDiff, hx, if_true] at e
        simp only [hx, ne_eq, not_true_eq_false, if_false]
        exact e
      · simp only [lastDiff, hx, if_false] at e
        simp only [hx, ne_eq, not_false_eq_true, if_true]
        exact e
    · have : i = b.length := by omega
      subst this
      simp only [Nat.lt_irrefl, if_false, endOf, hl, if_true]
theorem iChangeEnd_loop (b c : List UInt8) (hl : b.length = c.length) (hb : b.length ≤ 1048576) : ∀ (n i : Nat), i ≤ b.length → i < n → lastDiff b c i = lastDiff b c b.length →
    (vLoop E_iChangeEnd noInl (sg [pS, pS] [rI]) Try.f51 [.r, .r, .r, .l, .b] n (H_iChangeEnd b c i)).eval = some [.int .i64 (endOf b c)] := by
  intro n
  induction n with
  | zero => intro i h1 h2; omega
  | succ n ih =>
    intro i h1 h2 h3
    rw [vLoop_L _ _ _ _ _ _ _ (by kernel_rfl), iChangeEnd_round0]
    simp only [eval_must', eval_ask', eval_ret', decide_eq_true_eq, if_true, Bool.and_eq_true, u8_eq]
    cases i with
    | zero =>
      simp only [lastDiff] at h3
      have e : endOf b c = 0 := by simp only [endOf, hl, if_true]; rw [hl] at h3; omega
      rw [e]
      rfl
    | succ j =>
      have hw : IntKind.i64.wrap (((j + 1 : Nat) : Int) - 1) = (j : Int) := by rw [wrap64] <;> omega
      have h0 : (0 : Int) < ((j + 1 : Nat) : Int) := by omega
      have hz : (0 : Int) ≤ j := by omega
      have hj : (j : Int) < b.length := by omega
      have hj2 : (j : Int) < c.length := by omega
      simp only [hw, h0, hz, hj, hj2, if_true, and_self, Int.toNat_natCast]
      by_cases hx : b.getD j 0 = c.getD j 0
      · simp only [lastDiff, hx, if_true] at h3
        simp only [hx, if_true]
        exact ih j (by omega) (by omega) h3
      · simp only [lastDiff, hx, if_false] at h3
        simp only [hx, if_false]
        have e : endOf b c = ((j + 1 : Nat) : Int) := by simp only [endOf, hl, if_true]; rw [hl] at h3; omega
        rw [e]
theorem sChangeEnd_E : EnvSound Try.prog E_sChangeEnd := mkE_sound (by simp [])
theorem sChangeEnd_sound : Sound Try.prog 53 (sg [pS, pS] [rI]) (ss_spec endOf) := vBody_sound sChangeEnd_E noInl_ok Try.func53 (by kernel_rfl) fun cs outs hk h => by
  unfold ss_spec at h
  split at h
  · simp only [Option.some.injEq, Prod.mk.injEq, Bool.and_eq_true, decide_eq_true_eq] at h
    obtain ⟨⟨h1, h2⟩, rfl⟩ := h
    rename_i b c
    rw [vBody_L, sChangeEnd_tree]
    simp only [eval_must', eval_ask', eval_ret', if_true, bne_iff_ne, ne_eq, decide_eq_true_eq, Int.ofNat_inj, Int.ofNat_lt]
    by_cases hl : b.length = c.length
    · simp only [hl, not_true_eq_false, if_false]
      exact sChangeEnd_loop b c hl h1 _ 0 (by omega) (by omega)
    · simp only [hl, not_false_eq_true, if_true, endOf, if_false, imax]
      repeat' split
      all_goals first | rfl | omega
  · cases h
theorem iChangeEnd_E : EnvSound Try.prog E_iChangeEnd := mkE_sound (by simp [])
theorem iChangeEnd_sound : Sound Try.prog 51 (sg [pS, pS] [rI]) (ss_spec endOf) := vBody_sound iChangeEnd_E noInl_ok Try.func51 (by kernel_rfl) fun cs outs hk h => by
  unfold ss_spec at h
  split at h
  · simp only [Option.some.injEq, Prod.mk.injEq, Bool.and_eq_true, decide_eq_true_eq] at h
    obtain ⟨⟨h1, h2⟩, rfl⟩ := h
    rename_i b c
    rw [vBody_L, iChangeEnd_tree]
    simp only [eval_must', eval_ask', eval_ret', if_true, bne_iff_ne, ne_eq, decide_eq_true_eq, Int.ofNat_inj, Int.ofNat_lt]
    by_cases hl : b.length = c.length
    · simp only [hl, not_true_eq_false, if_false]
      rw [← hl]
      exact iChangeEnd_loop b c hl h1 _ b.length (by omega) (by omega) rfl
    · simp only [hl, not_false_eq_true, if_true, endOf, if_false]
  · cases h

theorem common_le : ∀ (b c : List UInt8), common b c ≤ b.length ∧ common b c ≤ c.length
  | [], _ => by simp [common]
  | _ :: _, [] => by simp [common]
  | x :: xs, y :: ys => by
    simp only [common]
    have := common_le xs ys
    split <;> simp <;> omega
theorem common_lt : ∀ (b c : List UInt8) (i : Nat), i < common b c → b.getD i 0 = c.getD i 0
  | [], _, i => by simp [common]
  | _ :: _, [], i => by simp [common]
  | x :: xs, y :: ys, i => by
    simp only [common]
    split
    · rename_i h
      cases i with
      | zero => intro _; simpa using h
      | succ i => intro hi; have := common_lt xs ys i (by omega); simpa using this
    · intro h; omega
theorem common_ne : ∀ (b c : List UInt8), common b c < b.length → common b c < c.length → b.getD (common b c) 0 ≠ c.getD (common b c) 0
  | [], _ => by simp [common]
  | _ :: _, [] => by simp [common]
  | x :: xs, y :: ys => by
    simp only [common]
    split
    · intro h1 h2
      have := common_ne xs ys (by simpa using h1) (by simpa using h2)
      simpa using this
    · rename_i h; intro _ _; simpa using h
theorem common_self : ∀ (b : List UInt8), common b b = b.length
  | [] => rfl
  | x :: xs => by simp [common, common_self xs]
theorem common_eq : ∀ (b c : List UInt8), common b c = b.length → b.length = c.length → b = c
  | [], [] => by simp
  | [], _ :: _ => by simp
  | _ :: _, [] => by simp
  | x :: xs, y :: ys => by
    simp only [common]
    split
    · rename_i h
      intro h1 h2
      rw [h, common_eq xs ys (by simpa using h1) (by simpa using h2)]
    · intro h; simp at h
theorem sFirstChange_loop (b c : List UInt8) (hb : b.length ≤ 1048576) : ∀ (n i : Nat), i ≤ common b c → b.length < i + n →
    (vLoop E_sFirstChange noInl (sg [pS, pS] [rI]) Try.f52 [.r, .l, .r, .b] n (H_sFirstChange b c i)).eval = some [.int .i64 (firstOf b c)] := by
  intro n
  induction n with
  | zero => intro i h1 h2; have := common_le b c; omega
  | succ n ih =>
    intro i h1 h2
    have hle := common_le b c
    rw [vLoop_L _ _ _ _ _ _ _ (by kernel_rfl), sFirstChange_round0]
    simp only [eval_must', eval_ask', eval_ret', decide_eq_true_eq, if_true, Bool.and_eq_true, u8_ne, Int.toNat_natCast, Int.ofNat_lt]
    have hself := common_self b
    have heq := common_eq b c
    have hne := common_ne b c
    by_cases hbc : b = c
    · subst hbc
      have e1 : firstOf b b = -1 := by simp [firstOf]
      rw [e1]
      split
      · rename_i hi
        have hw : IntKind.i64.wrap ((i : Int) + 1) = ((i + 1 : Nat) : Int) := by rw [wrap64] <;> omega
        have e := ih (i + 1) (by omega) (by omega)
        rw [e1] at e
        rw [hw, e]
        simp [hi]
      · simp
    · have e1 : firstOf b c = common b c := by simp [firstOf, hbc]
      have hlt : ¬ (common b c = b.length ∧ b.length = c.length) := fun h => hbc (heq h.1 h.2)
      have hz : (0 : Int) ≤ i := by omega
      rw [e1]
      by_cases hi : i < b.length
      · by_cases hj : i < c.length
        · simp only [hi, hj, if_true, hz, true_and]
          by_cases hx : b.getD i 0 = c.getD i 0
          · have : i ≠ common b c := fun h => by rw [h] at hx; exact hne (by omega) (by omega) hx
            have hw : IntKind.i64.wrap ((i : Int) + 1) = ((i + 1 : Nat) : Int) := by rw [wrap64] <;> omega
            simp only [hx, ne_eq, not_true_eq_false, if_false, hw]
            rw [ih (i + 1) (by omega) (by omega), e1]
          · have : i = common b c := by
              by_cases h : i < common b c
              · exact absurd (common_lt b c i h) hx
              · omega
            simp only [hx, ne_eq, not_false_eq_true, if_true]
            rw [this]
        · simp only [hi, hj, if_true, if_false]
          repeat' split
          all_goals first | omega | (congr 3; omega)
      · simp only [hi, if_false]
        repeat' split
        all_goals first | omega | (congr 3; omega)
theorem iFirstChange_loop (b c : List UInt8) (m : Nat) (hm : m = min b.length c.length) (hb : b.length ≤ 1048576) : ∀ (n i : Nat), i ≤ common b c → b.length < i + n →
    (vLoop E_iFirstChange noInl (sg [pS, pS] [rI]) Try.f50 [.r, .r, .l, .r, .b] n (H_iFirstChange b c m m i)).eval = some [.int .i64 (firstOf b c)] := by
  intro n
  induction n with
  | zero => intro i h1 h2; have := common_le b c; omega
  | succ n ih =>
    intro i h1 h2
    have hle := common_le b c
    rw [vLoop_L _ _ _ _ _ _ _ (by kernel_rfl), iFirstChange_round0]
    simp only [eval_must', eval_ask', eval_ret', decide_eq_true_eq, if_true, Bool.and_eq_true, u8_ne, Int.toNat_natCast, Int.ofNat_lt, Int.ofNat_inj]
    have hself := common_self b
    have heq := common_eq b c
    have hne := common_ne b c
    have hz : (0 : Int) ≤ i := by omega
    by_cases hi : i < m
    · have hi1 : i < b.length := by omega
      have hi2 : i < c.length := by omega
      simp only [hi, hi1, hi2, hz, if_true, and_self]
      by_cases hx : b.getD i 0 = c.getD i 0
      · have : i ≠ common b c := fun h => by rw [h] at hx; exact hne (by omega) (by omega) hx
        have hw : IntKind.i64.wrap ((i : Int) + 1) = ((i + 1 : Nat) : Int) := by rw [wrap64] <;> omega
        simp only [hx, ne_eq, not_true_eq_false, if_false, hw]
        exact ih (i + 1) (by omega) (by omega)
      · have : i = common b c := by
          by_cases h : i < common b c
          · exact absurd (common_lt b c i h) hx
          · omega
        have hbc : b ≠ c := fun h => by subst h; exact hx rfl
        simp only [hx, ne_eq, not_false_eq_true, if_true, firstOf, hbc, if_false]
        rw [this]
    · simp only [hi, if_false]
      by_cases hbc : b = c
      · simp [firstOf, hbc]
      · have hlt : b.length ≠ c.length := fun h => hbc (heq (by omega) h)
        simp only [hlt, if_false, firstOf, hbc]
        congr 3; omega
theorem sFirstChange_E : EnvSound Try.prog E_sFirstChange := mkE_sound (by simp [])
theorem sFirstChange_sound : Sound Try.prog 52 (sg [pS, pS] [rI]) (ss_spec firstOf) := vBody_sound sFirstChange_E noInl_ok Try.func52 (by kernel_rfl) fun cs outs hk h => by
  unfold ss_spec at h
  split at h
  · simp only [Option.some.injEq, Prod.mk.injEq, Bool.and_eq_true, decide_eq_true_eq] at h
    obtain ⟨⟨h1, h2⟩, rfl⟩ := h
    rename_i b c
    rw [vBody_L, sFirstChange_tree]
    simp only [eval_must', if_true]
    exact sFirstChange_loop b c h1 _ 0 (by omega) (by omega)
  · cases h
theorem iFirstChange_E : EnvSound Try.prog E_iFirstChange := mkE_sound (by simp [])
theorem iFirstChange_sound : Sound Try.prog 50 (sg [pS, pS] [rI]) (ss_spec firstOf) := vBody_sound iFirstChange_E noInl_ok Try.func50 (by kernel_rfl) fun cs outs hk h => by
  unfold ss_spec at h
  split at h
  · simp only [Option.some.injEq, Prod.mk.injEq, Bool.and_eq_true, decide_eq_true_eq] at h
    obtain ⟨⟨h1, h2⟩, rfl⟩ := h
    rename_i b c
    rw [vBody_L, iFirstChange_tree]
    simp only [eval_must', if_true, imin_nat]
    exact iFirstChange_loop b c _ rfl h1 _ 0 (by omega) (by omega)
  · cases h

end Go.Proofs.Ythpamcbipmkimaa.V

namespace Go.Proofs.Ythpamcbipmkimaa.V
noncomputable section

def tz8 : List UInt8 := match Try.f90.body with | some c => (strConst c).getD [] | none => []
def len8 : List UInt8 := match Try.f91.body with | some c => (strConst c).getD [] | none => []
def tzOf (x : Int) : Int := IntKind.i64.wrap ((tz8.getD x.toNat 0).toNat : Int)
def lenOf (x : Int) : Int := IntKind.i64.wrap ((len8.getD x.toNat 0).toNat : Int)
def tabSpec (f : Int → Int) : Spec := fun cs => match cs with
  | [.int .u8 x] => some (decide (0 ≤ x ∧ x ≤ 255), [.int .i64 (f x)])
  | _ => none
def E_tz8 : Env := mkE [] []
def E_len8 : Env := mkE [] []
/-- the bits that are not the same -/
def dbit (b c : List UInt8) (k : Nat) : Bool := decide (ixor .u8 (b.getD (k / 8) 0).toNat (c.getD (k / 8) 0).toNat / 2 ^ (k % 8) % 2 = 1)
def firstBit (b c : List UInt8) : Nat → Int
  | 0 => -1
  | n + 1 => if firstBit b c n < 0 ∧ dbit b c n then n else firstBit b c n
def lastBit (b c : List UInt8) : Nat → Int
  | 0 => 0
  | n + 1 => if dbit b c n then n else lastBit b c n
def isBurst (b c : List UInt8) : Bool := decide (b.length = c.length ∧ b ≠ c ∧ lastBit b c (8 * b.length) - firstBit b c (8 * b.length) < 32)
def H_sIsBurst (b c : List UInt8) (first last k : Int) : St := st0 [(0, wstr b), (1, wstr c), (5, int64 first), (6, int64 last), (7, int64 k)]
def burstSpec : Spec := fun cs => match cs with
  | [.str b, .str c] => some (decide (b.length ≤ 1048576) && decide (c.length ≤ 1048576), [.bool (isBurst b c)])
  | _ => none
def E_sIsBurst : Env := mkE [(6, [0, 1, 5, 6, 7])] []
def E_iIsBurst : Env := mkE [] [(51, (sg [pS, pS] [rI]), (ss_spec endOf)), (50, (sg [pS, pS] [rI]), (ss_spec firstOf)), (90, (sg [pU8] [rI]), (tabSpec tzOf)), (91, (sg [pU8] [rI]), (tabSpec lenOf))]

def E_lIsBurst : Env := mkE [] [(19, (sg [pS, pS] [rB]), burstSpec), (20, (sg [pS, pS] [rB]), burstSpec)]

end
end Go.Proofs.Ythpamcbipmkimaa.V

namespace Go.Proofs.Ythpamcbipmkimaa.V
set_option maxRecDepth 100000
theorem tz8_tree (H : List Pt → Nat → St → T (List C)) (x : Int) : vBodyL E_tz8 noInl (sg [pU8] [rI]) Try.f90 H [C.int IntKind.u8 x] =
 (.must true
 (.must (decide ((0 : Int) ≤ x) && decide (x < (↑(256 : Nat) : Int)))
  (.must true
   (.ret [C.int IntKind.i64 (IntKind.i64.wrap (↑(tz8.getD x.toNat (0 : UInt8)).toNat : Int))])))) := by kernel_rfl
theorem len8_tree (H : List Pt → Nat → St → T (List C)) (x : Int) : vBodyL E_len8 noInl (sg [pU8] [rI]) Try.f91 H [C.int IntKind.u8 x] =
 (.must true
 (.must (decide ((0 : Int) ≤ x) && decide (x < (↑(256 : Nat) : Int)))
  (.must true
   (.ret [C.int IntKind.i64 (IntKind.i64.wrap (↑(len8.getD x.toNat (0 : UInt8)).toNat : Int))])))) := by kernel_rfl
theorem sIsBurst_tree (H : List Pt → Nat → St → T (List C)) (b : List UInt8) (c : List UInt8) : vBodyL E_sIsBurst noInl (sg [pS, pS] [rB]) Try.f19 H [C.str b, C.str c] =
 (.must true
 (.ask ((↑b.length : Int) != (↑c.length : Int))
  (.must true
   (.ret [C.bool false]))
  (.ask (b == c)
   (.must true
    (.ret [C.bool false]))
   (H [Pt.r, Pt.r, Pt.r, Pt.r, Pt.l, Pt.r, Pt.b] (9223372036854775808 : Nat) (H_sIsBurst (b) (c) ((-1 : Int)) ((0 : Int)) ((0 : Int))))))) := by kernel_rfl
theorem sIsBurst_round0 (H : List Pt → Nat → St → T (List C)) (b : List UInt8) (c : List UInt8) (f : Int) (l : Int) (i : Int) (k : Nat) : vRound E_sIsBurst noInl (sg [pS, pS] [rB]) Try.f19 H [Pt.r, Pt.r, Pt.r, Pt.r, Pt.l, Pt.r, Pt.b] k (H_sIsBurst b c f l i) =
 (.ask (decide (i < IntKind.i64.wrap ((8 : Int) * (↑b.length : Int))))
 (.must true
  (.must (decide ((0 : Int) ≤ IntKind.i64.wrap (i.tdiv (8 : Int))) &&
  decide (IntKind.i64.wrap (i.tdiv (8 : Int)) < (↑b.length : Int)))
   (.must true
    (.must (decide ((0 : Int) ≤ IntKind.i64.wrap (i.tdiv (8 : Int))) &&
  decide (IntKind.i64.wrap (i.tdiv (8 : Int)) < (↑c.length : Int)))
     (.must true
      (.must (decide ((0 : Int) ≤ IntKind.u64.wrap (i.tmod (8 : Int))))
       (.ask (decide
  (iand IntKind.u8
      (ishr IntKind.u8
        (ixor IntKind.u8 (↑(b.getD (IntKind.i64.wrap (i.tdiv (8 : Int))).toNat (0 : UInt8)).toNat : Int)
          (↑(c.getD (IntKind.i64.wrap (i.tdiv (8 : Int))).toNat (0 : UInt8)).toNat : Int))
        (IntKind.u64.wrap (i.tmod (8 : Int))))
      (1 : Int) =
    (1 : Int)))
        (.ask (decide (f < (0 : Int)))
         (H [Pt.r, Pt.r, Pt.r, Pt.r, Pt.l, Pt.r, Pt.b] k (H_sIsBurst (b) (c) (i) (i) (IntKind.i64.wrap (i + (1 : Int)))))
         (H [Pt.r, Pt.r, Pt.r, Pt.r, Pt.l, Pt.r, Pt.b] k (H_sIsBurst (b) (c) (f) (i) (IntKind.i64.wrap (i + (1 : Int))))))
        (H [Pt.r, Pt.r, Pt.r, Pt.r, Pt.l, Pt.r, Pt.b] k (H_sIsBurst (b) (c) (f) (l) (IntKind.i64.wrap (i + (1 : Int))))))))))))
 (.ask (decide (IntKind.i64.wrap (l - f) < (32 : Int)))
  (.must true
   (.ret [C.bool true]))
  (.must true
   (.ret [C.bool false])))) := by kernel_rfl
theorem iIsBurst_tree (H : List Pt → Nat → St → T (List C)) (b : List UInt8) (c : List UInt8) : vBodyL E_iIsBurst noInl (sg [pS, pS] [rB]) Try.f20 H [C.str b, C.str c] =
 (.must true
 (.ask ((↑b.length : Int) != (↑c.length : Int))
  (.must true
   (.ret [C.bool false]))
  (.ask (b == c)
   (.must true
    (.ret [C.bool false]))
   (.must true
    (.must (decide (b.length ≤ (1048576 : Nat)) && decide (c.length ≤ (1048576 : Nat)))
     (.must true
      (.must true
       (.must (decide (b.length ≤ (1048576 : Nat)) && decide (c.length ≤ (1048576 : Nat)))
        (.must true
         (.must (decide ((0 : Int) ≤ firstOf b c) && decide (firstOf b c < (↑b.length : Int)))
          (.must (decide ((0 : Int) ≤ firstOf b c) && decide (firstOf b c < (↑c.length : Int)))
           (.must true
            (.must (decide
  ((0 : Int) ≤
      ixor IntKind.u8 (↑(b.getD (firstOf b c).toNat (0 : UInt8)).toNat : Int)
        (↑(c.getD (firstOf b c).toNat (0 : UInt8)).toNat : Int) ∧
    ixor IntKind.u8 (↑(b.getD (firstOf b c).toNat (0 : UInt8)).toNat : Int)
        (↑(c.getD (firstOf b c).toNat (0 : UInt8)).toNat : Int) ≤
      (255 : Int)))
             (.must true
              (.must (decide ((0 : Int) ≤ IntKind.i64.wrap (endOf b c - (1 : Int))) &&
  decide (IntKind.i64.wrap (endOf b c - (1 : Int)) < (↑b.length : Int)))
               (.must (decide ((0 : Int) ≤ IntKind.i64.wrap (endOf b c - (1 : Int))) &&
  decide (IntKind.i64.wrap (endOf b c - (1 : Int)) < (↑c.length : Int)))
                (.must true
                 (.must (decide
  ((0 : Int) ≤
      ixor IntKind.u8 (↑(b.getD (IntKind.i64.wrap (endOf b c - (1 : Int))).toNat (0 : UInt8)).toNat : Int)
        (↑(c.getD (IntKind.i64.wrap (endOf b c - (1 : Int))).toNat (0 : UInt8)).toNat : Int) ∧
    ixor IntKind.u8 (↑(b.getD (IntKind.i64.wrap (endOf b c - (1 : Int))).toNat (0 : UInt8)).toNat : Int)
        (↑(c.getD (IntKind.i64.wrap (endOf b c - (1 : Int))).toNat (0 : UInt8)).toNat : Int) ≤
      (255 : Int)))
                  (.must true
                   (.ask (decide
  (IntKind.i64.wrap
      (IntKind.i64.wrap
          (IntKind.i64.wrap
              (IntKind.i64.wrap ((8 : Int) * IntKind.i64.wrap (endOf b c - (1 : Int))) +
                lenOf
                  (ixor IntKind.u8 (↑(b.getD (IntKind.i64.wrap (endOf b c - (1 : Int))).toNat (0 : UInt8)).toNat : Int)
                    (↑(c.getD (IntKind.i64.wrap (endOf b c - (1 : Int))).toNat (0 : UInt8)).toNat : Int))) -
            (1 : Int)) -
        IntKind.i64.wrap
          (IntKind.i64.wrap ((8 : Int) * firstOf b c) +
            tzOf
              (ixor IntKind.u8 (↑(b.getD (firstOf b c).toNat (0 : UInt8)).toNat : Int)
                (↑(c.getD (firstOf b c).toNat (0 : UInt8)).toNat : Int)))) <
    (32 : Int)))
                    (.must true
                     (.ret [C.bool true]))
                    (.must true
                     (.ret [C.bool false])))))))))))))))))))))) := by kernel_rfl
theorem lIsBurst_tree (H : List Pt → Nat → St → T (List C)) (b : List UInt8) (c : List UInt8) : vBodyL E_lIsBurst noInl (sg [pS, pS] [rB]) Try.f3 H [C.str b, C.str c] =
 (.must true
 (.ask (decide ((1048576 : Int) < (↑b.length : Int)))
  (.must true
   (.ret [C.bool true]))
  (.ask (decide ((1048576 : Int) < (↑c.length : Int)))
   (.must true
    (.ret [C.bool true]))
   (.must true
    (.must (decide (b.length ≤ (1048576 : Nat)) && decide (c.length ≤ (1048576 : Nat)))
     (.must true
      (.ask (isBurst b c)
       (.must true
        (.must (decide (b.length ≤ (1048576 : Nat)) && decide (c.length ≤ (1048576 : Nat)))
         (.must true
          (.ask (isBurst b c)
           (.ask (!true)
            (.must true
             (.ret [C.bool false]))
            (.must true
             (.ret [C.bool true])))
           (.ask true
            (.must true
             (.ret [C.bool false]))
            (.must true
             (.ret [C.bool true])))))))
       (.must true
        (.must (decide (b.length ≤ (1048576 : Nat)) && decide (c.length ≤ (1048576 : Nat)))
         (.must true
          (.ask (isBurst b c)
           (.ask true
            (.must true
             (.ret [C.bool false]))
            (.must true
             (.ret [C.bool true])))
           (.ask (!true)
            (.must true
             (.ret [C.bool false]))
            (.must true
             (.ret [C.bool true])))))))))))))) := by kernel_rfl
end Go.Proofs.Ythpamcbipmkimaa.V

namespace Go.Proofs.Ythpamcbipmkimaa.V

theorem iand8_one (x : Int) : iand .u8 x 1 = x % 2 := by
  show IntKind.u8.wrap (((BitVec.ofInt 8 x &&& BitVec.ofInt 8 1).toNat : Nat) : Int) = _
  rw [BitVec.toNat_and]
  have h1 : (BitVec.ofInt 8 1).toNat = 1 := by decide
  have h2 : (BitVec.ofInt 8 x).toNat = (x % 256).toNat := by simp [BitVec.toNat_ofInt]
  rw [h1, h2, Nat.and_one_is_mod, wrapU8] <;> omega
theorem ishr8 (x : Int) (n : Nat) (hn : n < 8) : ishr .u8 x (n : Int) = x / 2 ^ n := by
  show x.fdiv (2 ^ (min ((n : Int).toNat) 8)) = _
  have : min ((n : Int).toNat) 8 = n := by omega
  rw [this, Int.fdiv_eq_ediv_of_nonneg]
  exact Int.pow_nonneg (by omega)
theorem ixor8_nat (a b : Nat) (ha : a < 256) (hb : b < 256) : ixor .u8 (a : Int) (b : Int) = ((a ^^^ b : Nat) : Int) := by
  show IntKind.u8.wrap (((BitVec.ofInt 8 (a : Int) ^^^ BitVec.ofInt 8 (b : Int)).toNat : Nat) : Int) = _
  rw [BitVec.toNat_xor]
  have h1 : (BitVec.ofInt 8 (a : Int)).toNat = a := by simp [BitVec.toNat_ofInt]; omega
  have h2 : (BitVec.ofInt 8 (b : Int)).toNat = b := by simp [BitVec.toNat_ofInt]; omega
  have h3 : a ^^^ b < 256 := Nat.xor_lt_two_pow (n := 8) ha hb
  rw [h1, h2, wrapU8] <;> omega
theorem ixor8_zero (x y : UInt8) : ixor .u8 (x.toNat : Int) (y.toNat : Int) = 0 ↔ x = y := by
  rw [ixor8_nat _ _ x.toNat_lt y.toNat_lt, Int.natCast_eq_zero]
  constructor
  · intro h
    have h2 : (x.toNat ^^^ y.toNat) ^^^ y.toNat = 0 ^^^ y.toNat := by rw [h]
    rw [Nat.xor_assoc, Nat.xor_self, Nat.xor_zero, Nat.zero_xor] at h2
    exact UInt8.toNat_inj.1 h2
  · rintro rfl; exact Nat.xor_self _

theorem firstBit_none (b c : List UInt8) : ∀ n, (∀ j, j < n → dbit b c j = false) → firstBit b c n = -1
  | 0, _ => rfl
  | n + 1, h => by simp [firstBit, firstBit_none b c n (fun j hj => h j (by omega)), h n (by omega)]
theorem firstBit_eq (b c : List UInt8) (k : Nat) (hk : dbit b c k = true) (hj : ∀ j, j < k → dbit b c j = false) : ∀ n, k < n → firstBit b c n = k
  | 0, h => by omega
  | n + 1, h => by
    by_cases hkn : k = n
    · subst hkn; simp [firstBit, firstBit_none b c k hj, hk]
    · have := firstBit_eq b c k hk hj n (by omega)
      simp only [firstBit, this]
      rw [if_neg (by omega)]
theorem lastBit_eq (b c : List UInt8) (k : Nat) (hk : dbit b c k = true) : ∀ n, k < n → (∀ j, k < j → j < n → dbit b c j = false) → lastBit b c n = k
  | 0, h, _ => by omega
  | n + 1, h, hj => by
    by_cases hkn : k = n
    · subst hkn; simp [lastBit, hk]
    · simp only [lastBit, hj n (by omega) (by omega), Bool.false_eq_true, if_false]
      exact lastBit_eq b c k hk n (by omega) fun j h1 h2 => hj j h1 (by omega)
theorem firstBit_range (b c : List UInt8) : ∀ n : Nat, -1 ≤ firstBit b c n ∧ firstBit b c n < n
  | 0 => by simp [firstBit]
  | n + 1 => by simp only [firstBit]; have := firstBit_range b c n; split <;> omega
theorem lastBit_range (b c : List UInt8) : ∀ n : Nat, 0 ≤ lastBit b c n ∧ lastBit b c n ≤ n
  | 0 => by simp [lastBit]
  | n + 1 => by simp only [lastBit]; have := lastBit_range b c n; split <;> omega

theorem tz8_E : EnvSound Try.prog E_tz8 := mkE_sound (by simp [])
theorem tz8_sound : Sound Try.prog 90 (sg [pU8] [rI]) (tabSpec tzOf) := vBody_sound tz8_E noInl_ok Try.func90 (by kernel_rfl) fun cs outs hk h => by
  unfold tabSpec at h
  split at h
  · simp only [Option.some.injEq, Prod.mk.injEq, Bool.and_eq_true, decide_eq_true_eq] at h
    obtain ⟨⟨h1, h2⟩, rfl⟩ := h
    rw [vBody_L, tz8_tree]
    rename_i x
    have h3 : x < ((256 : Nat) : Int) := by omega
    simp only [eval_must', eval_ret', if_true, Bool.and_eq_true, decide_eq_true_eq, h1, h3, and_self]
    rfl
  · cases h
theorem len8_E : EnvSound Try.prog E_len8 := mkE_sound (by simp [])
theorem len8_sound : Sound Try.prog 91 (sg [pU8] [rI]) (tabSpec lenOf) := vBody_sound len8_E noInl_ok Try.func91 (by kernel_rfl) fun cs outs hk h => by
  unfold tabSpec at h
  split at h
  · simp only [Option.some.injEq, Prod.mk.injEq, Bool.and_eq_true, decide_eq_true_eq] at h
    obtain ⟨⟨h1, h2⟩, rfl⟩ := h
    rw [vBody_L, len8_tree]
    rename_i x
    have h3 : x < ((256 : Nat) : Int) := by omega
    simp only [eval_must', eval_ret', if_true, Bool.and_eq_true, decide_eq_true_eq, h1, h3, and_self]
    rfl
  · cases h

theorem tz_fin : ∀ x : Fin 256, x.val ≠ 0 → 0 ≤ tzOf x.val ∧ tzOf x.val < 8 ∧ ((x.val : Nat) : Int) / 2 ^ (tzOf x.val).toNat % 2 = 1 ∧ ∀ i : Fin 8, ((i.val : Nat) : Int) < tzOf x.val → ((x.val : Nat) : Int) / 2 ^ i.val % 2 ≠ 1 := by decide +kernel
theorem len_fin : ∀ x : Fin 256, x.val ≠ 0 → 1 ≤ lenOf x.val ∧ lenOf x.val ≤ 8 ∧ ((x.val : Nat) : Int) / 2 ^ (lenOf x.val - 1).toNat % 2 = 1 ∧ ∀ i : Fin 8, lenOf x.val ≤ ((i.val : Nat) : Int) → ((x.val : Nat) : Int) / 2 ^ i.val % 2 ≠ 1 := by decide +kernel
theorem tz_of (x : Int) (h1 : 0 ≤ x) (h2 : x ≤ 255) (h0 : x ≠ 0) : ∃ t : Nat, tzOf x = t ∧ t < 8 ∧ x / 2 ^ t % 2 = 1 ∧ ∀ i : Nat, i < t → x / 2 ^ i % 2 ≠ 1 := by
  obtain ⟨n, rfl⟩ := Int.eq_ofNat_of_zero_le h1
  obtain ⟨a1, a2, a3, a4⟩ := tz_fin ⟨n, by omega⟩ (by simp; omega)
  obtain ⟨t, ht⟩ := Int.eq_ofNat_of_zero_le a1
  simp only [] at ht a2 a3 a4
  refine ⟨t, ht, by omega, by rw [ht] at a3; simpa using a3, fun i hi => a4 ⟨i, by omega⟩ (by simp only [ht]; omega)⟩
theorem len_of (x : Int) (h1 : 0 ≤ x) (h2 : x ≤ 255) (h0 : x ≠ 0) : ∃ t : Nat, lenOf x = t + 1 ∧ t < 8 ∧ x / 2 ^ t % 2 = 1 ∧ ∀ i : Nat, t < i → i < 8 → x / 2 ^ i % 2 ≠ 1 := by
  obtain ⟨n, rfl⟩ := Int.eq_ofNat_of_zero_le h1
  obtain ⟨a1, a2, a3, a4⟩ := len_fin ⟨n, by omega⟩ (by simp; omega)
  obtain ⟨t, ht⟩ := Int.eq_ofNat_of_zero_le (a := lenOf (n : Int) - 1) (by simp only [] at a1; omega)
  simp only [] at a1 a2 a3 a4
  refine ⟨t, by omega, by omega, by rw [ht] at a3; simpa using a3, fun i hi hi8 => a4 ⟨i, hi8⟩ (by simp only []; omega)⟩

theorem sIsBurst_loop (b c : List UInt8) (hl : b.length = c.length) (hb : b.length ≤ 1048576) (hne : b ≠ c) : ∀ (n i : Nat), i ≤ 8 * b.length → 8 * b.length < i + n →
    (vLoop E_sIsBurst noInl (sg [pS, pS] [rB]) Try.f19 [.r, .r, .r, .r, .l, .r, .b] n (H_sIsBurst b c (firstBit b c i) (lastBit b c i) i)).eval = some [.bool (isBurst b c)] := by
  intro n
  induction n with
  | zero => intro i h1 h2; omega
  | succ n ih =>
    intro i h1 h2
    rw [vLoop_L _ _ _ _ _ _ _ (by kernel_rfl), sIsBurst_round0]
    have w1 : IntKind.i64.wrap (8 * (b.length : Int)) = 8 * (b.length : Int) := by rw [wrap64] <;> omega
    have w2 : (i : Int).tdiv 8 = ((i / 8 : Nat) : Int) := by rw [Int.tdiv_eq_ediv_of_nonneg (by omega)]; omega
    have w3 : (i : Int).tmod 8 = ((i % 8 : Nat) : Int) := by rw [Int.tmod_eq_emod_of_nonneg (by omega)]; omega
    have w4 : IntKind.i64.wrap ((i / 8 : Nat) : Int) = ((i / 8 : Nat) : Int) := by rw [wrap64] <;> omega
    have w5 : IntKind.u64.wrap ((i % 8 : Nat) : Int) = ((i % 8 : Nat) : Int) := by rw [wrapU64] <;> omega
    have w6 : IntKind.i64.wrap ((i : Int) + 1) = ((i + 1 : Nat) : Int) := by rw [wrap64] <;> omega
    have fr := firstBit_range b c i
    have lr := lastBit_range b c i
    have w7 : IntKind.i64.wrap (lastBit b c i - firstBit b c i) = lastBit b c i - firstBit b c i := by rw [wrap64] <;> omega
    have hz : (0 : Int) ≤ ((i / 8 : Nat) : Int) := by omega
    have hz2 : (0 : Int) ≤ ((i % 8 : Nat) : Int) := by omega
    simp only [eval_must', eval_ask', eval_ret', decide_eq_true_eq, if_true, Bool.and_eq_true, w1, w2, w3, w4, w5, w6, w7, hz, hz2, true_and, Int.toNat_natCast, Int.ofNat_lt]
    by_cases hi : i < 8 * b.length
    · have hi' : (i : Int) < 8 * (b.length : Int) := by omega
      have c1 : i / 8 < b.length := by omega
      have c2 : i / 8 < c.length := by omega
      simp only [hi', c1, c2, if_true, iand8_one, ishr8 _ _ (show i % 8 < 8 by omega)]
      have e := ih (i + 1) (by omega) (by omega)
      have hd : dbit b c i = true ↔ ixor .u8 ((b.getD (i / 8) 0).toNat : Int) ((c.getD (i / 8) 0).toNat : Int) / 2 ^ (i % 8) % 2 = 1 := by simp [dbit]
      by_cases hx : ixor .u8 ((b.getD (i / 8) 0).toNat : Int) ((c.getD (i / 8) 0).toNat : Int) / 2 ^ (i % 8) % 2 = 1
      · have hd' := hd.2 hx
        simp only [firstBit, lastBit, hd', and_true, if_true] at e
        simp only [hx, if_true]
        by_cases hf : firstBit b c i < 0
        · simp only [hf, if_true] at e ⊢; exact e
        · simp only [hf, if_false] at e ⊢; exact e
      · have hd' : dbit b c i = false := by cases h : dbit b c i with | true => exact absurd (hd.1 h) hx | false => rfl
        simp only [firstBit, lastBit, hd', Bool.false_eq_true, and_false, if_false] at e
        simp only [hx, if_false]
        exact e
    · have : i = 8 * b.length := by omega
      subst this
      rw [if_neg (by omega)]
      simp only [isBurst, hl, ne_eq, hne, not_false_eq_true, true_and]
      split <;> simp [*]

theorem sIsBurst_E : EnvSound Try.prog E_sIsBurst := mkE_sound (by simp [])
theorem sIsBurst_sound : Sound Try.prog 19 (sg [pS, pS] [rB]) burstSpec := vBody_sound sIsBurst_E noInl_ok Try.func19 (by kernel_rfl) fun cs outs hk h => by
  unfold burstSpec at h
  split at h
  · simp only [Option.some.injEq, Prod.mk.injEq, Bool.and_eq_true, decide_eq_true_eq] at h
    obtain ⟨⟨h1, h2⟩, rfl⟩ := h
    rename_i b c
    rw [vBody_L, sIsBurst_tree]
    simp only [eval_must', eval_ask', eval_ret', if_true, bne_iff_ne, ne_eq, beq_iff_eq, Int.ofNat_inj]
    by_cases hl : b.length = c.length
    · by_cases hbc : b = c
      · simp only [hl, not_true_eq_false, if_false, hbc, if_true]; simp [isBurst]
      · simp only [hl, not_true_eq_false, if_false, hbc]
        exact sIsBurst_loop b c hl h1 hbc _ 0 (by omega) (by omega)
    · simp only [hl, not_false_eq_true, if_true]; simp [isBurst, hl]
  · cases h

theorem lastDiff_spec (b c : List UInt8) : ∀ n, (∀ j, lastDiff b c n ≤ j → j < n → b.getD j 0 = c.getD j 0) ∧ (lastDiff b c n ≠ 0 → b.getD (lastDiff b c n - 1) 0 ≠ c.getD (lastDiff b c n - 1) 0)
  | 0 => ⟨fun j h1 h2 => by omega, fun h => absurd rfl h⟩
  | n + 1 => by
    obtain ⟨h1, h2⟩ := lastDiff_spec b c n
    simp only [lastDiff]
    split
    · rename_i h
      refine ⟨fun j hj hn => ?_, h2⟩
      by_cases hjn : j = n
      · subst hjn; exact h
      · exact h1 j hj (by omega)
    · rename_i h
      exact ⟨fun j hj hn => by omega, fun _ => h⟩

theorem dbit_same (b c : List UInt8) (k : Nat) (h : b.getD (k / 8) 0 = c.getD (k / 8) 0) : dbit b c k = false := by
  have := (ixor8_zero (b.getD (k / 8) 0) (c.getD (k / 8) 0)).2 h
  unfold dbit
  rw [this]
  simp

theorem iIsBurst_E : EnvSound Try.prog E_iIsBurst := mkE_sound (by simp [iChangeEnd_sound, iFirstChange_sound, tz8_sound, len8_sound])
theorem iIsBurst_sound : Sound Try.prog 20 (sg [pS, pS] [rB]) burstSpec := vBody_sound iIsBurst_E noInl_ok Try.func20 (by kernel_rfl) fun cs outs hk h => by
  unfold burstSpec at h
  split at h
  · simp only [Option.some.injEq, Prod.mk.injEq, Bool.and_eq_true, decide_eq_true_eq] at h
    obtain ⟨⟨h1, h2⟩, rfl⟩ := h
    rename_i b c
    rw [vBody_L, iIsBurst_tree]
    by_cases hl : b.length = c.length
    · by_cases hbc : b = c
      · subst hbc; simp [eval_must', eval_ask', eval_ret', isBurst]
      · have hcl := common_le b c
        have hp : common b c < b.length := by
          have := common_eq b c
          by_cases h : common b c = b.length
          · exact absurd (this h hl) hbc
          · omega
        have hpx := common_ne b c hp (by omega)
        have ef : firstOf b c = (common b c : Int) := by simp [firstOf, hbc]
        obtain ⟨d1, d2⟩ := lastDiff_spec b c b.length
        have dl := lastDiff_le b c b.length
        have hq : lastDiff b c b.length ≠ 0 := fun h0 => hpx (d1 _ (by omega) hp)
        obtain ⟨q, hq⟩ := Nat.exists_eq_succ_of_ne_zero hq
        rw [hq] at d1 d2 dl
        have hqx := d2 (by omega)
        simp only [Nat.succ_sub_one] at hqx
        have ee : endOf b c = (q : Int) + 1 := by simp only [endOf, hl, if_true]; rw [← hl, hq]; omega
        have w1 : IntKind.i64.wrap ((q : Int) + 1 - 1) = q := by rw [wrap64] <;> omega
        have x1 := ixor8_range ((b.getD (common b c) 0).toNat : Int) ((c.getD (common b c) 0).toNat : Int)
        have x2 := ixor8_range ((b.getD q 0).toNat : Int) ((c.getD q 0).toNat : Int)
        obtain ⟨t, t1, t2, t3, t4⟩ := tz_of _ x1.1 x1.2 (fun h => hpx ((ixor8_zero _ _).1 h))
        obtain ⟨u, u1, u2, u3, u4⟩ := len_of _ x2.1 x2.2 (fun h => hqx ((ixor8_zero _ _).1 h))
        have fb : firstBit b c (8 * b.length) = ((8 * common b c + t : Nat) : Int) := by
          refine firstBit_eq b c _ ?_ (fun j hj => ?_) _ (by omega)
          · have e1 : (8 * common b c + t) / 8 = common b c := by omega
            have e2 : (8 * common b c + t) % 8 = t := by omega
            simp only [dbit, e1, e2, t3, decide_true]
          · by_cases hjp : j / 8 < common b c
            · exact dbit_same b c j (common_lt b c _ hjp)
            · have e1 : j / 8 = common b c := by omega
              simp only [dbit, e1, decide_eq_false_iff_not]
              exact t4 _ (by omega)
        have lb : lastBit b c (8 * b.length) = ((8 * q + u : Nat) : Int) := by
          refine lastBit_eq b c _ ?_ _ (by omega) (fun j hj hn => ?_)
          · have e1 : (8 * q + u) / 8 = q := by omega
            have e2 : (8 * q + u) % 8 = u := by omega
            simp only [dbit, e1, e2, u3, decide_true]
          · by_cases hjp : q < j / 8
            · exact dbit_same b c j (d1 _ (by omega) (by omega))
            · have e1 : j / 8 = q := by omega
              simp only [dbit, e1, decide_eq_false_iff_not]
              exact u4 _ (by omega) (by omega)
        have hlb : ¬ ((b.length : Int) ≠ c.length) := by simp [hl]
        have c1 : (0 : Int) ≤ common b c := by omega
        have c2 : (common b c : Int) < b.length := by omega
        have c3 : (common b c : Int) < c.length := by omega
        have c4 : (0 : Int) ≤ q := by omega
        have c5 : (q : Int) < b.length := by omega
        have c6 : (q : Int) < c.length := by omega
        have w2 : IntKind.i64.wrap (8 * (q : Int)) = 8 * (q : Int) := by rw [wrap64] <;> omega
        have w3 : IntKind.i64.wrap (8 * (common b c : Int)) = 8 * (common b c : Int) := by rw [wrap64] <;> omega
        have w4 : IntKind.i64.wrap (8 * (q : Int) + (u + 1)) = 8 * (q : Int) + (u + 1) := by rw [wrap64] <;> omega
        have w5 : IntKind.i64.wrap (8 * (q : Int) + (u + 1) - 1) = 8 * (q : Int) + u := by rw [wrap64] <;> omega
        have w6 : IntKind.i64.wrap (8 * (common b c : Int) + t) = 8 * (common b c : Int) + t := by rw [wrap64] <;> omega
        have w7 : IntKind.i64.wrap (8 * (q : Int) + u - (8 * (common b c : Int) + t)) = 8 * (q : Int) + u - (8 * (common b c : Int) + t) := by rw [wrap64] <;> omega
        simp only [eval_must', eval_ask', eval_ret', if_true, bne_iff_ne, hlb, if_false, beq_iff_eq, hbc, ef, ee, w1, Bool.and_eq_true, decide_eq_true_eq, h1, h2, and_self, c1, c2, c3, c4, c5, c6, Int.toNat_natCast, x1, x2, t1, u1, w2, w3, w4, w5, w6, w7]
        simp only [isBurst, hl, ne_eq, hbc, not_false_eq_true, true_and]
        rw [← hl, fb, lb]
        split
        · rename_i h; simp; omega
        · rename_i h; simp; omega
    · simp [eval_must', eval_ask', eval_ret', isBurst, hl]
      intro h; omega
  · cases h

theorem lIsBurst_E : EnvSound Try.prog E_lIsBurst := mkE_sound (by simp [sIsBurst_sound, iIsBurst_sound])
theorem lIsBurst_sound : Sound Try.prog 3 (sg [pS, pS] [rB]) ssLaw := vBody_sound lIsBurst_E noInl_ok Try.func3 (by kernel_rfl) fun cs outs hk h => by
  unfold ssLaw at h
  split at h
  · simp only [Option.some.injEq, Prod.mk.injEq, true_and] at h
    rw [← h, vBody_L, lIsBurst_tree]
    rename_i b c
    simp only [eval_must', eval_ask', eval_ret', decide_eq_true_eq, if_true, Bool.and_eq_true]
    by_cases hb : isBurst b c = true <;> simp [hb] <;> intros <;> omega
  · cases h

end Go.Proofs.Ythpamcbipmkimaa.V

namespace Go.Proofs.Ythpamcbipmkimaa.V
noncomputable section

def szOf (n : Nat) (left : Int) : Int := if left - n < 0 then -1 else left - n
def szIntsSpec : Spec := fun cs => match cs with
  | [.sl rows, .int .i64 left] => some (decide (0 ≤ left) && decide (left ≤ 1048576) && decide (rows.length ≤ 281474976710656), [.int .i64 (szOf rows.length left)])
  | _ => none
def toIntsSpec : Spec := fun cs => match cs with
  | [.sl rows] => some (decide (rows.length ≤ 1048576) && rowsOk [.int .i64] rows, [.sl rows])
  | _ => none
def eqIntsSpec : Spec := fun cs => match cs with
  | [.sl x, .sl y] => some (decide (x.length ≤ 1048576) && (rowsOk [.int .i64] x && rowsOk [.int .i64] y), [.bool (decide (ints x = ints y))])
  | _ => none
def H_toIntS (r : List (List C)) (n : Nat) (out : List (List C)) (i : Int) : St := st1 [(0, .l (.sl r)), (3, .l (.ref 0 0 n)), (4, int64 i)] 1 out
def H_eqIntS (x y : List (List C)) (i : Int) : St := st0 [(0, .l (.sl x)), (1, .l (.sl y)), (5, int64 i)]
def E_szIntS : Env := mkE [] []
def E_toIntS : Env := mkE [(3, [0, 3, 4])] []
def E_eqIntS : Env := mkE [(4, [0, 1, 5])] []

def actOk (kind : Int) (text : List UInt8) (n : Int) (keeps : Nat) : Bool := inB kind 1 8 && decide (text.length ≤ 200) && decide (0 ≤ n) && decide (keeps ≤ 8)
def actOkSpec : Spec := fun cs => match cs with
  | [.int .i64 kind, .str text, .int .i64 n, .sl keeps] => some (true, [.bool (actOk kind text n keeps.length)])
  | _ => none
def pAct : PTy := .val true [.int .i64, .str, .int .i64, .slice 3]
def szAct (text : Nat) (keeps : Nat) (left : Int) : Int := if left - text < 0 then -1 else szOf keeps (left - text)
def szActSpec : Spec := fun cs => match cs with
  | [.int .i64 _, .str text, .int .i64 _, .sl keeps, .int .i64 left] => some (decide (0 ≤ left) && decide (left ≤ 1048576) && (decide (text.length ≤ 281474976710656) && decide (keeps.length ≤ 281474976710656)), [.int .i64 (szAct text.length keeps.length left)])
  | _ => none
def toActSpec : Spec := fun cs => match cs with
  | [.int .i64 kind, .str text, .int .i64 n, .sl keeps] => some (decide (keeps.length ≤ 1048576) && rowsOk [.int .i64] keeps, [.int .i64 kind, .str text, .int .i64 n, .sl keeps])
  | _ => none
def eqActSpec : Spec := fun cs => match cs with
  | [.int .i64 k1, .str t1, .int .i64 n1, .sl x, .int .i64 k2, .str t2, .int .i64 n2, .sl y] => some (decide (x.length ≤ 1048576) && (rowsOk [.int .i64] x && rowsOk [.int .i64] y), [.bool (decide (k1 = k2 ∧ t1 = t2 ∧ n1 = n2 ∧ ints x = ints y))])
  | _ => none
def actLaw : Spec := fun cs => match cs with
  | [.int .i64 _, .str text, .int .i64 _, .sl keeps] => some (decide (text.length ≤ 281474976710656) && decide (keeps.length ≤ 281474976710656) && rowsOk [.int .i64] keeps, [.bool true])
  | _ => none
def E_sActOk : Env := mkE [] [(93, (sg [pI, pI, pI] [rB]), inSpec)]
def E_iActOk : Env := mkE [] [(95, (sg [pI, pI, pI] [rB]), inSpec)]
def E_szActF : Env := mkE [] [(92, (sg [pSl 3, pI] [rI]), szIntsSpec)]
def E_toAct : Env := mkE [] [(94, (sg [pSl 3] [rSl 3]), toIntsSpec)]
def E_eqAct : Env := mkE [] [(96, (sg [pSl 3, pSl 3] [rB]), eqIntsSpec)]
def E_lActOk : Env := mkE [] [(22, (sg [pAct] [rB]), actOkSpec), (24, (sg [pAct] [rB]), actOkSpec), (21, (sg [pAct, pI] [rI]), szActSpec), (23, (sg [pAct] [⟨true, [(.int .i64, false), (.str, false), (.int .i64, false), (.slice 3, true)]⟩]), toActSpec), (25, (sg [pAct, pAct] [rB]), eqActSpec)]

end
end Go.Proofs.Ythpamcbipmkimaa.V

namespace Go.Proofs.Ythpamcbipmkimaa.V
set_option maxRecDepth 100000
theorem szIntS_tree (H : List Pt → Nat → St → T (List C)) (r : List (List C)) (n : Int) : vBodyL E_szIntS noInl (sg [pSl (3 : TypeId), pI] [rI]) Try.f92 H [C.sl r, C.int IntKind.i64 n] =
 (.must true
 (.ask (decide (IntKind.i64.wrap (n - (↑r.length : Int)) < (0 : Int)))
  (.must true
   (.ret [C.int IntKind.i64 (-1 : Int)]))
  (.must true
   (.ret [C.int IntKind.i64 (IntKind.i64.wrap (n - (↑r.length : Int)))])))) := by kernel_rfl
theorem toIntS_tree (H : List Pt → Nat → St → T (List C)) (r : List (List C)) : vBodyL E_toIntS noInl (sg [pSl (3 : TypeId)] [rSl (3 : TypeId)]) Try.f94 H [C.sl r] =
 (.must true
 (.must (decide ((0 : Int) ≤ (↑r.length : Int)) && decide ((↑r.length : Int) ≤ (↑r.length : Int)) &&
  decide ((↑(8 : Nat) : Int) * (↑r.length : Int) ≤ (281474976710656 : Int)))
  (H [Pt.r, Pt.r, Pt.l, Pt.r, Pt.b] (9223372036854775808 : Nat) (H_toIntS (r) ((↑r.length : Int).toNat) (List.replicate (↑r.length : Int).toNat [C.int IntKind.i64 (0 : Int)]) ((0 : Int)))))) := by kernel_rfl
theorem toIntS_round0 (H : List Pt → Nat → St → T (List C)) (r : List (List C)) (n : Nat) (o : List (List C)) (i : Int) (k : Nat) : vRound E_toIntS noInl (sg [pSl (3 : TypeId)] [rSl (3 : TypeId)]) Try.f94 H [Pt.r, Pt.r, Pt.l, Pt.r, Pt.b] k
  (H_toIntS r n o i) =
 (.ask (decide (i < (↑r.length : Int)))
 (.must (decide ((0 : Int) ≤ i) && decide (i < (↑r.length : Int)) && decide ((r.getD i.toNat []).length = (1 : Nat)))
  (.must (decide ((0 : Nat) < (r.getD i.toNat []).length) &&
    C.is (K.int IntKind.i64) ((r.getD i.toNat []).getD (0 : Nat) (C.fn (0 : FuncId) [])) &&
  true)
   (.must (decide ((0 : Int) ≤ i) && decide (i < (↑n : Int)))
    (.must (decide ((0 : Nat) + i.toNat < o.length))
     (H [Pt.r, Pt.r, Pt.l, Pt.r, Pt.b] k (H_toIntS (r) (n) (o.set ((0 : Nat) + i.toNat)
  (C.int IntKind.i64 ((r.getD i.toNat []).getD (0 : Nat) (C.fn (0 : FuncId) [])).toInt ::
    List.drop ((0 : Nat) + (1 : Nat)) (o.getD ((0 : Nat) + i.toNat) []))) (IntKind.i64.wrap (i + (1 : Int)))))))))
 (.must (decide (n = o.length) && (false || o.all fun r => r.all C.flat) && true && true && true)
  (.ret [C.sl o]))) := by kernel_rfl
theorem eqIntS_tree (H : List Pt → Nat → St → T (List C)) (x : List (List C)) (y : List (List C)) : vBodyL E_eqIntS noInl (sg [pSl (3 : TypeId), pSl (3 : TypeId)] [rB]) Try.f96 H [C.sl x, C.sl y] =
 (.must true
 (.ask ((↑x.length : Int) != (↑y.length : Int))
  (.must true
   (.ret [C.bool false]))
  (H [Pt.r, Pt.r, Pt.l, Pt.r, Pt.b] (9223372036854775808 : Nat) (H_eqIntS (x) (y) ((0 : Int)))))) := by kernel_rfl
theorem eqIntS_round0 (H : List Pt → Nat → St → T (List C)) (x : List (List C)) (y : List (List C)) (i : Int) (k : Nat) : vRound E_eqIntS noInl (sg [pSl (3 : TypeId), pSl (3 : TypeId)] [rB]) Try.f96 H [Pt.r, Pt.r, Pt.l, Pt.r, Pt.b] k
  (H_eqIntS x y i) =
 (.ask (decide (i < (↑x.length : Int)))
 (.must (decide ((0 : Int) ≤ i) && decide (i < (↑x.length : Int)) && decide ((x.getD i.toNat []).length = (1 : Nat)))
  (.must (decide ((0 : Nat) < (x.getD i.toNat []).length) &&
    C.is (K.int IntKind.i64) ((x.getD i.toNat []).getD (0 : Nat) (C.fn (0 : FuncId) [])) &&
  true)
   (.must (decide ((0 : Int) ≤ i) && decide (i < (↑y.length : Int)) && decide ((y.getD i.toNat []).length = (1 : Nat)))
    (.must (decide ((0 : Nat) < (y.getD i.toNat []).length) &&
    C.is (K.int IntKind.i64) ((y.getD i.toNat []).getD (0 : Nat) (C.fn (0 : FuncId) [])) &&
  true)
     (.ask (((x.getD i.toNat []).getD (0 : Nat) (C.fn (0 : FuncId) [])).toInt !=
  ((y.getD i.toNat []).getD (0 : Nat) (C.fn (0 : FuncId) [])).toInt)
      (.must true
       (.ret [C.bool false]))
      (H [Pt.r, Pt.r, Pt.l, Pt.r, Pt.b] k (H_eqIntS (x) (y) (IntKind.i64.wrap (i + (1 : Int))))))))))
 (.must true
  (.ret [C.bool true]))) := by kernel_rfl
theorem sActOk_tree (H : List Pt → Nat → St → T (List C)) (k : Int) (t : List UInt8) (n : Int) (r : List (List C)) : vBodyL E_sActOk noInl (sg [pAct] [rB]) Try.f22 H [C.int IntKind.i64 k, C.str t, C.int IntKind.i64 n, C.sl r] =
 (.must true
 (.must true
  (.must true
   (.must true
    (.ask (inB k (1 : Int) (8 : Int))
     (.ask (decide ((↑t.length : Int) ≤ (200 : Int)))
      (.ask (decide ((0 : Int) ≤ n))
       (.ask (decide ((↑r.length : Int) ≤ (8 : Int)))
        (.must true
         (.ret [C.bool true]))
        (.must true
         (.ret [C.bool false])))
       (.must true
        (.ret [C.bool false])))
      (.must true
       (.ret [C.bool false])))
     (.must true
      (.ret [C.bool false]))))))) := by kernel_rfl
theorem iActOk_tree (H : List Pt → Nat → St → T (List C)) (k : Int) (t : List UInt8) (n : Int) (r : List (List C)) : vBodyL E_iActOk noInl (sg [pAct] [rB]) Try.f24 H [C.int IntKind.i64 k, C.str t, C.int IntKind.i64 n, C.sl r] =
 (.must true
 (.must true
  (.must true
   (.must true
    (.ask (inB k (1 : Int) (8 : Int))
     (.ask (decide ((↑t.length : Int) ≤ (200 : Int)))
      (.ask (decide ((0 : Int) ≤ n))
       (.ask (decide ((↑r.length : Int) ≤ (8 : Int)))
        (.must true
         (.ret [C.bool true]))
        (.must true
         (.ret [C.bool false])))
       (.must true
        (.ret [C.bool false])))
      (.must true
       (.ret [C.bool false])))
     (.must true
      (.ret [C.bool false]))))))) := by kernel_rfl
theorem szActF_tree (H : List Pt → Nat → St → T (List C)) (k : Int) (t : List UInt8) (n : Int) (r : List (List C)) (m : Int) : vBodyL E_szActF noInl (sg [pAct, pI] [rI]) Try.f21 H
  [C.int IntKind.i64 k, C.str t, C.int IntKind.i64 n, C.sl r, C.int IntKind.i64 m] =
 (.must true
 (.ask (decide (IntKind.i64.wrap (m - (↑t.length : Int)) < (0 : Int)))
  (.must true
   (.ret [C.int IntKind.i64 (-1 : Int)]))
  (.must true
   (.must (decide ((0 : Int) ≤ IntKind.i64.wrap (m - (↑t.length : Int))) &&
    decide (IntKind.i64.wrap (m - (↑t.length : Int)) ≤ (1048576 : Int)) &&
  decide (r.length ≤ (281474976710656 : Nat)))
    (.must true
     (.ask (decide (szOf r.length (IntKind.i64.wrap (m - (↑t.length : Int))) < (0 : Int)))
      (.must true
       (.ret [C.int IntKind.i64 (-1 : Int)]))
      (.must true
       (.ret [C.int IntKind.i64 (szOf r.length (IntKind.i64.wrap (m - (↑t.length : Int))))])))))))) := by kernel_rfl
theorem toAct_tree (H : List Pt → Nat → St → T (List C)) (k : Int) (t : List UInt8) (n : Int) (r : List (List C)) : vBodyL E_toAct noInl
  (sg [pAct]
    [{ agg := true,
        ls := [(K.int IntKind.i64, false), (K.str, false), (K.int IntKind.i64, false), (K.slice (3 : TypeId), true)] }])
  Try.f23 H [C.int IntKind.i64 k, C.str t, C.int IntKind.i64 n, C.sl r] =
 (.must true
 (.must true
  (.must (decide (r.length ≤ (1048576 : Nat)) && rowsOk [K.int IntKind.i64] r)
   (.must ((true && r.all fun row => decide (row.length = (1 : Nat))) && true && true && true)
    (.must (true && (false || true) &&
      (true && (false || true) &&
        (true && (false || true) &&
          (decide (r.length = r.length) && (false || r.all fun r => r.all C.flat) && true))) &&
    true &&
  true)
     (.ret [C.int IntKind.i64 k, C.str t, C.int IntKind.i64 n, C.sl r])))))) := by kernel_rfl
theorem eqAct_tree (H : List Pt → Nat → St → T (List C)) (k : Int) (t : List UInt8) (n : Int) (r : List (List C)) (k2 : Int) (t2 : List UInt8) (n2 : Int) (r2 : List (List C)) : vBodyL E_eqAct noInl (sg [pAct, pAct] [rB]) Try.f25 H
  [C.int IntKind.i64 k, C.str t, C.int IntKind.i64 n, C.sl r, C.int IntKind.i64 k2, C.str t2, C.int IntKind.i64 n2,
    C.sl r2] =
 (.must true
 (.ask (k != k2)
  (.must true
   (.ret [C.bool false]))
  (.ask (!t == t2)
   (.must true
    (.ret [C.bool false]))
   (.ask (n != n2)
    (.must true
     (.ret [C.bool false]))
    (.must true
     (.must (decide (r.length ≤ (1048576 : Nat)) && (rowsOk [K.int IntKind.i64] r && rowsOk [K.int IntKind.i64] r2))
      (.must true
       (.ask (decide (ints r = ints r2))
        (.must true
         (.ret [C.bool true]))
        (.must true
         (.ret [C.bool false])))))))))) := by kernel_rfl
theorem lActOk_tree (H : List Pt → Nat → St → T (List C)) (k : Int) (t : List UInt8) (n : Int) (r : List (List C)) : vBodyL E_lActOk noInl (sg [pAct] [rB]) Try.f4 H [C.int IntKind.i64 k, C.str t, C.int IntKind.i64 n, C.sl r] =
 (.must true
 (.must true
  (.must (decide ((0 : Int) ≤ (1048576 : Int)) && decide ((1048576 : Int) ≤ (1048576 : Int)) &&
  (decide (t.length ≤ (281474976710656 : Nat)) && decide (r.length ≤ (281474976710656 : Nat))))
   (.must true
    (.ask (decide (szAct t.length r.length (1048576 : Int) < (0 : Int)))
     (.must true
      (.ret [C.bool true]))
     (.must true
      (.must (decide (r.length ≤ (1048576 : Nat)) && rowsOk [K.int IntKind.i64] r)
       (.must (decide ((0 : Nat) < (1 : Nat)) && true &&
      (decide ((0 : Nat) < (1 : Nat)) && true &&
        (decide ((0 : Nat) < (1 : Nat)) && true &&
          ((true && r.all fun row => decide (row.length = (1 : Nat))) && true))) &&
    true &&
  true)
        (.must true
         (.must true
          (.must true
           (.ask (actOk k t n (List.take r.length r).length)
            (.must true
             (.must (decide (r.length ≤ (1048576 : Nat)) && rowsOk [K.int IntKind.i64] r)
              (.must (decide ((0 : Nat) < (1 : Nat)) && true &&
      (decide ((0 : Nat) < (1 : Nat)) && true &&
        (decide ((0 : Nat) < (1 : Nat)) && true &&
          ((true && r.all fun row => decide (row.length = (1 : Nat))) && true))) &&
    true &&
  true)
               (.must true
                (.must true
                 (.must true
                  (.ask (actOk k t n (List.take r.length r).length)
                   (.ask (!true)
                    (.must true
                     (.ret [C.bool false]))
                    (.must true
                     (.must (decide (r.length ≤ (1048576 : Nat)) && rowsOk [K.int IntKind.i64] r)
                      (.must (decide ((0 : Nat) < (1 : Nat)) && true &&
      (decide ((0 : Nat) < (1 : Nat)) && true &&
        (decide ((0 : Nat) < (1 : Nat)) && true &&
          ((true && r.all fun row => decide (row.length = (1 : Nat))) && true))) &&
    true &&
  true)
                       (.must true
                        (.must (decide ((List.take r.length r).length ≤ (1048576 : Nat)) &&
  (rowsOk [K.int IntKind.i64] (List.take r.length r) && rowsOk [K.int IntKind.i64] (List.take r.length r)))
                         (.must true
                          (.ask (decide (k = k ∧ t = t ∧ n = n ∧ ints (List.take r.length r) = ints (List.take r.length r)))
                           (.must true
                            (.ret [C.bool true]))
                           (.must true
                            (.ret [C.bool false]))))))))))
                   (.ask true
                    (.must true
                     (.ret [C.bool false]))
                    (.must true
                     (.must (decide (r.length ≤ (1048576 : Nat)) && rowsOk [K.int IntKind.i64] r)
                      (.must (decide ((0 : Nat) < (1 : Nat)) && true &&
      (decide ((0 : Nat) < (1 : Nat)) && true &&
        (decide ((0 : Nat) < (1 : Nat)) && true &&
          ((true && r.all fun row => decide (row.length = (1 : Nat))) && true))) &&
    true &&
  true)
                       (.must true
                        (.must (decide ((List.take r.length r).length ≤ (1048576 : Nat)) &&
  (rowsOk [K.int IntKind.i64] (List.take r.length r) && rowsOk [K.int IntKind.i64] (List.take r.length r)))
                         (.must true
                          (.ask (decide (k = k ∧ t = t ∧ n = n ∧ ints (List.take r.length r) = ints (List.take r.length r)))
                           (.must true
                            (.ret [C.bool true]))
                           (.must true
                            (.ret [C.bool false])))))))))))))))))
            (.must true
             (.must (decide (r.length ≤ (1048576 : Nat)) && rowsOk [K.int IntKind.i64] r)
              (.must (decide ((0 : Nat) < (1 : Nat)) && true &&
      (decide ((0 : Nat) < (1 : Nat)) && true &&
        (decide ((0 : Nat) < (1 : Nat)) && true &&
          ((true && r.all fun row => decide (row.length = (1 : Nat))) && true))) &&
    true &&
  true)
               (.must true
                (.must true
                 (.must true
                  (.ask (actOk k t n (List.take r.length r).length)
                   (.ask true
                    (.must true
                     (.ret [C.bool false]))
                    (.must true
                     (.must (decide (r.length ≤ (1048576 : Nat)) && rowsOk [K.int IntKind.i64] r)
                      (.must (decide ((0 : Nat) < (1 : Nat)) && true &&
      (decide ((0 : Nat) < (1 : Nat)) && true &&
        (decide ((0 : Nat) < (1 : Nat)) && true &&
          ((true && r.all fun row => decide (row.length = (1 : Nat))) && true))) &&
    true &&
  true)
                       (.must true
                        (.must (decide ((List.take r.length r).length ≤ (1048576 : Nat)) &&
  (rowsOk [K.int IntKind.i64] (List.take r.length r) && rowsOk [K.int IntKind.i64] (List.take r.length r)))
                         (.must true
                          (.ask (decide (k = k ∧ t = t ∧ n = n ∧ ints (List.take r.length r) = ints (List.take r.length r)))
                           (.must true
                            (.ret [C.bool true]))
                           (.must true
                            (.ret [C.bool false]))))))))))
                   (.ask (!true)
                    (.must true
                     (.ret [C.bool false]))
                    (.must true
                     (.must (decide (r.length ≤ (1048576 : Nat)) && rowsOk [K.int IntKind.i64] r)
                      (.must (decide ((0 : Nat) < (1 : Nat)) && true &&
      (decide ((0 : Nat) < (1 : Nat)) && true &&
        (decide ((0 : Nat) < (1 : Nat)) && true &&
          ((true && r.all fun row => decide (row.length = (1 : Nat))) && true))) &&
    true &&
  true)
                       (.must true
                        (.must (decide ((List.take r.length r).length ≤ (1048576 : Nat)) &&
  (rowsOk [K.int IntKind.i64] (List.take r.length r) && rowsOk [K.int IntKind.i64] (List.take r.length r)))
                         (.must true
                          (.ask (decide (k = k ∧ t = t ∧ n = n ∧ ints (List.take r.length r) = ints (List.take r.length r)))
                           (.must true
                            (.ret [C.bool true]))
                           (.must true
                            (.ret [C.bool false]))))))))))))))))))))))))))))) := by kernel_rfl
end Go.Proofs.Ythpamcbipmkimaa.V

namespace Go.Proofs.Ythpamcbipmkimaa.V

theorem szIntS_E : EnvSound Try.prog E_szIntS := mkE_sound (by simp [])
theorem szIntS_sound : Sound Try.prog 92 (sg [pSl 3, pI] [rI]) szIntsSpec := vBody_sound szIntS_E noInl_ok Try.func92 (by kernel_rfl) fun cs outs hk h => by
  unfold szIntsSpec at h
  split at h
  · simp only [Option.some.injEq, Prod.mk.injEq, Bool.and_eq_true, decide_eq_true_eq] at h
    obtain ⟨⟨⟨h1, h2⟩, h3⟩, rfl⟩ := h
    rename_i rows left
    rw [vBody_L, szIntS_tree]
    have w : IntKind.i64.wrap (left - (rows.length : Int)) = left - rows.length := by rw [wrap64] <;> omega
    simp only [eval_must', eval_ask', eval_ret', if_true, decide_eq_true_eq, w, szOf]
    split <;> rfl
  · cases h

theorem toIntS_loop (l : List Int) (hl : l.length ≤ 1048576) : ∀ (n i : Nat), i ≤ l.length → l.length < i + n →
    (vLoop E_toIntS noInl (sg [pSl 3] [rSl 3]) Try.f94 [.r, .r, .l, .r, .b] n (H_toIntS (l.map eInt) l.length ((l.take i ++ List.replicate (l.length - i) 0).map eInt) i)).eval = some [.sl (l.map eInt)] := by
  intro n
  induction n with
  | zero => intro i h1 h2; omega
  | succ n ih =>
    intro i h1 h2
    rw [vLoop_L _ _ _ _ _ _ _ (by kernel_rfl), toIntS_round0]
    by_cases hi : i < l.length
    · have e := ih (i + 1) (by omega) (by omega)
      rw [← copy_set l 0 0 i hi, List.map_set] at e
      have w : IntKind.i64.wrap ((i : Int) + 1) = ((i + 1 : Nat) : Int) := by rw [wrap64] <;> omega
      have hz : (0 : Int) ≤ i := by omega
      have hi' : (i : Int) < l.length := by omega
      have g := map_getD eInt l 0 i hi
      have hlen : (l.take i ++ List.replicate (l.length - i) (0 : Int)).length = l.length := by simp; omega
      have g2 := map_getD eInt (l.take i ++ List.replicate (l.length - i) 0) 0 i (by omega)
      simp only [eval_must', eval_ask', eval_ret', if_true, decide_eq_true_eq, Bool.and_eq_true, w, hz, hi', Int.toNat_natCast, List.length_map, Nat.zero_add, g, g2, hlen, hi, and_self]
      exact e
    · have : i = l.length := by omega
      subst this
      have f := flat_ints l
      simp [eval_must', eval_ask', eval_ret', C.flat]
theorem toIntS_E : EnvSound Try.prog E_toIntS := mkE_sound (by simp [])
theorem toIntS_sound : Sound Try.prog 94 (sg [pSl 3] [rSl 3]) toIntsSpec := vBody_sound toIntS_E noInl_ok Try.func94 (by kernel_rfl) fun cs outs hk h => by
  unfold toIntsSpec at h
  split at h
  · simp only [Option.some.injEq, Prod.mk.injEq, Bool.and_eq_true, decide_eq_true_eq] at h
    obtain ⟨⟨h1, h2⟩, rfl⟩ := h
    rename_i rows
    have hr := rows_ints h2
    generalize ints rows = l at hr
    subst hr
    rw [List.length_map] at h1
    rw [vBody_L, toIntS_tree]
    have c1 : (8 : Int) * (l.length : Int) ≤ 281474976710656 := by omega
    have c2 : (0 : Int) ≤ l.length := by omega
    have := toIntS_loop l h1 9223372036854775808 0 (by omega) (by omega)
    simp only [List.take_zero, List.nil_append, Nat.sub_zero, List.map_replicate] at this
    simp only [eval_must', if_true, decide_eq_true_eq, Bool.and_eq_true, List.length_map, Int.toNat_natCast, c2, Int.le_refl, and_self, true_and]
    rw [if_pos (by omega)]
    exact this
  · cases h

theorem eqIntS_loop (x y : List Int) (hx : x.length ≤ 1048576) (hl : x.length = y.length) : ∀ (n i : Nat), i ≤ x.length → x.length < i + n → x.take i = y.take i →
    (vLoop E_eqIntS noInl (sg [pSl 3, pSl 3] [rB]) Try.f96 [.r, .r, .l, .r, .b] n (H_eqIntS (x.map eInt) (y.map eInt) i)).eval = some [.bool (decide (x = y))] := by
  intro n
  induction n with
  | zero => intro i h1 h2; omega
  | succ n ih =>
    intro i h1 h2 h3
    rw [vLoop_L _ _ _ _ _ _ _ (by kernel_rfl), eqIntS_round0]
    by_cases hi : i < x.length
    · have hi2 : i < y.length := by omega
      have w : IntKind.i64.wrap ((i : Int) + 1) = ((i + 1 : Nat) : Int) := by rw [wrap64] <;> omega
      have hz : (0 : Int) ≤ i := by omega
      have g := map_getD eInt x 0 i hi
      have g2 := map_getD eInt y 0 i hi2
      simp only [eval_must', eval_ask', eval_ret', if_true, decide_eq_true_eq, Bool.and_eq_true, w, hz, Int.toNat_natCast, Int.ofNat_lt, List.length_map, g, g2, hi, hi2, and_self, List.getD_cons_zero, C.toInt, C.is, List.length_cons, List.length_nil, Nat.zero_lt_succ, beq_self_eq_true, bne_iff_ne, ne_eq]
      by_cases hxy : x.getD i 0 = y.getD i 0
      · have e := ih (i + 1) (by omega) (by omega) (by
          rw [List.take_add_one, List.take_add_one, h3]
          simp [List.getD_eq_getElem?_getD, hi, hi2] at hxy
          simp [hi, hi2, hxy])
        simp only [hxy, not_true_eq_false, if_false]
        exact e
      · have : x ≠ y := fun h => hxy (by rw [h])
        simp only [hxy, not_false_eq_true, if_true, this, decide_false]
    · have e1 : i = x.length := by omega
      have : x = y := by
        rw [e1, List.take_length, hl, List.take_length] at h3
        exact h3
      have e2 : decide (x = y) = true := by simp [this]
      simp only [eval_must', eval_ask', eval_ret', decide_eq_true_eq, List.length_map, Int.ofNat_lt, hi, if_false, if_true, e2]
theorem eqIntS_E : EnvSound Try.prog E_eqIntS := mkE_sound (by simp [])
theorem eqIntS_sound : Sound Try.prog 96 (sg [pSl 3, pSl 3] [rB]) eqIntsSpec := vBody_sound eqIntS_E noInl_ok Try.func96 (by kernel_rfl) fun cs outs hk h => by
  unfold eqIntsSpec at h
  split at h
  · simp only [Option.some.injEq, Prod.mk.injEq, Bool.and_eq_true, decide_eq_true_eq] at h
    obtain ⟨⟨h1, h2, h3⟩, rfl⟩ := h
    rename_i x y
    have hx := rows_ints h2
    have hy := rows_ints h3
    generalize ints x = l at hx ⊢
    generalize ints y = m at hy ⊢
    subst hx; subst hy
    rw [List.length_map] at h1
    rw [vBody_L, eqIntS_tree]
    simp only [eval_must', eval_ask', eval_ret', if_true, bne_iff_ne, ne_eq, List.length_map, Int.ofNat_inj]
    by_cases hl : l.length = m.length
    · simp only [hl, not_true_eq_false, if_false]
      exact eqIntS_loop l m h1 hl _ 0 (by omega) (by omega) rfl
    · have : l ≠ m := fun h => hl (by rw [h])
      simp [hl, this]
  · cases h

theorem sActOk_E : EnvSound Try.prog E_sActOk := mkE_sound (by simp [sIn_sound])
theorem sActOk_sound : Sound Try.prog 22 (sg [pAct] [rB]) actOkSpec := vBody_sound sActOk_E noInl_ok Try.func22 (by kernel_rfl) fun cs outs hk h => by
  unfold actOkSpec at h
  split at h
  · simp only [Option.some.injEq, Prod.mk.injEq, true_and] at h
    rw [← h, vBody_L, sActOk_tree]
    simp only [eval_must', eval_ask', eval_ret', if_true, actOk]
    repeat' split
    all_goals first | rfl | (simp_all; done) | (simp_all; omega)
  · cases h
theorem iActOk_E : EnvSound Try.prog E_iActOk := mkE_sound (by simp [iIn_sound])
theorem iActOk_sound : Sound Try.prog 24 (sg [pAct] [rB]) actOkSpec := vBody_sound iActOk_E noInl_ok Try.func24 (by kernel_rfl) fun cs outs hk h => by
  unfold actOkSpec at h
  split at h
  · simp only [Option.some.injEq, Prod.mk.injEq, true_and] at h
    rw [← h, vBody_L, iActOk_tree]
    simp only [eval_must', eval_ask', eval_ret', if_true, actOk]
    repeat' split
    all_goals first | rfl | (simp_all; done) | (simp_all; omega)
  · cases h
theorem szActF_E : EnvSound Try.prog E_szActF := mkE_sound (by simp [szIntS_sound])
theorem szActF_sound : Sound Try.prog 21 (sg [pAct, pI] [rI]) szActSpec := vBody_sound szActF_E noInl_ok Try.func21 (by kernel_rfl) fun cs outs hk h => by
  unfold szActSpec at h
  split at h
  · simp only [Option.some.injEq, Prod.mk.injEq, Bool.and_eq_true, decide_eq_true_eq] at h
    obtain ⟨⟨⟨h1, h2⟩, h3, h4⟩, rfl⟩ := h
    rename_i k t n r m
    rw [vBody_L, szActF_tree]
    have w : IntKind.i64.wrap (m - (t.length : Int)) = m - t.length := by rw [wrap64] <;> omega
    simp only [eval_must', eval_ask', eval_ret', if_true, decide_eq_true_eq, Bool.and_eq_true, w, szAct]
    by_cases hn : m - (t.length : Int) < 0
    · simp [hn]
    · have c1 : 0 ≤ m - (t.length : Int) := by omega
      have c2 : m - (t.length : Int) ≤ 1048576 := by omega
      simp only [hn, if_false, c1, c2, h4, and_self, if_true]
      unfold szOf
      repeat' split
      all_goals first | rfl | omega
  · cases h
theorem toAct_E : EnvSound Try.prog E_toAct := mkE_sound (by simp [toIntS_sound])
theorem toAct_sound : Sound Try.prog 23 (sg [pAct] [⟨true, [(.int .i64, false), (.str, false), (.int .i64, false), (.slice 3, true)]⟩]) toActSpec := vBody_sound toAct_E noInl_ok Try.func23 (by kernel_rfl) fun cs outs hk h => by
  unfold toActSpec at h
  split at h
  · simp only [Option.some.injEq, Prod.mk.injEq, Bool.and_eq_true, decide_eq_true_eq] at h
    obtain ⟨⟨h1, h2⟩, rfl⟩ := h
    rename_i k t n rows
    have hr := rows_ints h2
    generalize ints rows = l at hr
    subst hr
    rw [vBody_L, toAct_tree]
    rw [List.length_map] at h1
    simp [eval_must', eval_ret', h1, C.flat]
  · cases h
theorem eqAct_E : EnvSound Try.prog E_eqAct := mkE_sound (by simp [eqIntS_sound])
theorem eqAct_sound : Sound Try.prog 25 (sg [pAct, pAct] [rB]) eqActSpec := vBody_sound eqAct_E noInl_ok Try.func25 (by kernel_rfl) fun cs outs hk h => by
  unfold eqActSpec at h
  split at h
  · simp only [Option.some.injEq, Prod.mk.injEq, Bool.and_eq_true, decide_eq_true_eq] at h
    obtain ⟨⟨h1, h2, h3⟩, rfl⟩ := h
    rw [vBody_L, eqAct_tree]
    simp only [eval_must', eval_ask', eval_ret', h1, h2, h3, if_true, decide_true, Bool.and_self]
    repeat' split
    all_goals first | rfl | (simp_all; done)
  · cases h
theorem lActOk_E : EnvSound Try.prog E_lActOk := mkE_sound (by simp [sActOk_sound, iActOk_sound, szActF_sound, toAct_sound, eqAct_sound])
theorem lActOk_sound : Sound Try.prog 4 (sg [pAct] [rB]) actLaw := vBody_sound lActOk_E noInl_ok Try.func4 (by kernel_rfl) fun cs outs hk h => by
  unfold actLaw at h
  split at h
  · simp only [Option.some.injEq, Prod.mk.injEq, Bool.and_eq_true, decide_eq_true_eq] at h
    obtain ⟨⟨⟨h1, h2⟩, h3⟩, rfl⟩ := h
    rename_i k t n rows
    have hr := rows_ints h3
    generalize ints rows = l at hr
    subst hr
    rw [vBody_L, lActOk_tree]
    rw [List.length_map] at h2
    by_cases hs : szAct t.length l.length 1048576 < 0
    · simp [eval_must', eval_ask', eval_ret', hs, h1, h2]
    · have hl : l.length ≤ 1048576 := by
        unfold szAct szOf at hs
        repeat' split at hs
        all_goals omega
      have hm : ((l.map eInt).take l.length) = l.map eInt := by rw [List.take_of_length_le]; simp
      by_cases ha : actOk k t n l.length = true <;> simp [eval_must', eval_ask', eval_ret', hs, h1, h2, hl, hm, ha]
  · cases h

end Go.Proofs.Ythpamcbipmkimaa.V

namespace Go.Proofs.Ythpamcbipmkimaa.V
noncomputable section

def crcStep (x : Nat) : Nat := if x % 2 = 1 then (x / 2) ^^^ 2197175160 else x / 2
def crcIter : Nat → Nat → Nat
  | 0, x => x
  | n + 1, x => crcIter n (crcStep x)
def crcByte (s b : Nat) : Nat := crcIter 8 (s ^^^ b)
def low32 (s : Int) : Nat := (s % 4294967296).toNat
def crcFold (x : Nat) (t : List UInt8) : Nat := t.foldl (fun x c => crcByte x c.toNat) x
def crcMore (s : Nat) (t : List UInt8) : Nat := crcFold (s ^^^ 4294967295) t ^^^ 4294967295
def sumByteSpec : Spec := fun cs => match cs with
  | [.int .i64 s, .int .i64 b] => some (true, [.int .i64 (crcByte (low32 s) (b % 256).toNat : Nat)])
  | _ => none
def sumByte32Spec : Spec := fun cs => match cs with
  | [.int .u32 s, .int .u8 b] => some (decide (0 ≤ s ∧ s ≤ 4294967295) && decide (0 ≤ b ∧ b ≤ 255), [.int .u32 (crcByte s.toNat b.toNat : Nat)])
  | _ => none
def sumMoreSpec : Spec := fun cs => match cs with
  | [.int .i64 s, .str t] => some (decide (t.length ≤ 281474976710656), [.int .i64 (crcMore (low32 s) t : Nat)])
  | _ => none
def sumOfSpec : Spec := fun cs => match cs with
  | [.str t] => some (decide (t.length ≤ 281474976710656), [.int .i64 (crcMore 0 t : Nat)])
  | _ => none
def H_sSumByte (x i : Int) : St := st0 [(5, int64 x), (6, int64 i)]
def H_iSumByte32 (x i : Int) : St := st0 [(0, .l (.i .u32 x)), (10, int64 i)]
def H_sSumMore (t : List UInt8) (x i : Int) : St := st0 [(1, wstr t), (5, int64 x), (6, int64 i)]
def H_iSumMore (t : List UInt8) (x n i : Int) : St := st0 [(1, wstr t), (5, .l (.i .u32 x)), (11, int64 n), (12, int64 i)]
def E_sSumByte : Env := mkE [(3, [5, 6])] []
def E_iSumByte32 : Env := mkE [(3, [0, 10])] []
def E_sSumMore : Env := mkE [(3, [1, 5, 6])] [(175, (sg [pI, pI] [rI]), sumByteSpec)]
def E_iSumMore : Env := mkE [(3, [1, 5, 11, 12])] [(174, (sg [pU32, pU8] [rU32]), sumByte32Spec)]
def E_sSumOf : Env := mkE [] [(156, (sg [pI, pS] [rI]), sumMoreSpec)]
def E_iSumOf : Env := mkE [] [(155, (sg [pI, pS] [rI]), sumMoreSpec)]

end
end Go.Proofs.Ythpamcbipmkimaa.V

namespace Go.Proofs.Ythpamcbipmkimaa.V
set_option maxRecDepth 100000
theorem sSumByte_tree (H : List Pt → Nat → St → T (List C)) (s : Int) (b : Int) : vBodyL E_sSumByte noInl (sg [pI, pI] [rI]) Try.f175 H [C.int IntKind.i64 s, C.int IntKind.i64 b] =
 (.must true
 (H [Pt.r, Pt.r, Pt.l, Pt.r, Pt.b] (9223372036854775808 : Nat) (H_sSumByte (ixor IntKind.i64 (iand IntKind.i64 s (4294967295 : Int)) (iand IntKind.i64 b (255 : Int))) ((0 : Int))))) := by kernel_rfl
theorem iSumByte32_tree (H : List Pt → Nat → St → T (List C)) (s : Int) (b : Int) : vBodyL E_iSumByte32 noInl (sg [pU32, pU8] [rU32]) Try.f174 H [C.int IntKind.u32 s, C.int IntKind.u8 b] =
 (.must true
 (H [Pt.r, Pt.r, Pt.l, Pt.r, Pt.b] (9223372036854775808 : Nat) (H_iSumByte32 (ixor IntKind.u32 s (IntKind.u32.wrap b)) ((0 : Int))))) := by kernel_rfl
theorem sSumByte_round0 (H : List Pt → Nat → St → T (List C)) (x : Int) (i : Int) (k : Nat) : vRound E_sSumByte noInl (sg [pI, pI] [rI]) Try.f175 H [Pt.r, Pt.r, Pt.l, Pt.r, Pt.b] k (H_sSumByte x i) =
 (.ask (decide (i < (8 : Int)))
 (.ask (decide (iand IntKind.i64 x (1 : Int) = (1 : Int)))
  (.must true
   (H [Pt.r, Pt.r, Pt.l, Pt.r, Pt.b] k (H_sSumByte (ixor IntKind.i64 (ishr IntKind.i64 x (1 : Int)) (2197175160 : Int)) (IntKind.i64.wrap (i + (1 : Int))))))
  (.must true
   (H [Pt.r, Pt.r, Pt.l, Pt.r, Pt.b] k (H_sSumByte (ishr IntKind.i64 x (1 : Int)) (IntKind.i64.wrap (i + (1 : Int)))))))
 (.must true
  (.ret [C.int IntKind.i64 x]))) := by kernel_rfl
theorem iSumByte32_round0 (H : List Pt → Nat → St → T (List C)) (x : Int) (i : Int) (k : Nat) : vRound E_iSumByte32 noInl (sg [pU32, pU8] [rU32]) Try.f174 H [Pt.r, Pt.r, Pt.l, Pt.r, Pt.b] k (H_iSumByte32 x i) =
 (.ask (decide (i < (8 : Int)))
 (.ask (decide (iand IntKind.u32 x (1 : Int) = (1 : Int)))
  (.must true
   (H [Pt.r, Pt.r, Pt.l, Pt.r, Pt.b] k (H_iSumByte32 (ixor IntKind.u32 (ishr IntKind.u32 x (1 : Int)) (2197175160 : Int)) (IntKind.i64.wrap (i + (1 : Int))))))
  (.must true
   (H [Pt.r, Pt.r, Pt.l, Pt.r, Pt.b] k (H_iSumByte32 (ishr IntKind.u32 x (1 : Int)) (IntKind.i64.wrap (i + (1 : Int)))))))
 (.must true
  (.ret [C.int IntKind.u32 x]))) := by kernel_rfl
theorem sSumMore_round0 (H : List Pt → Nat → St → T (List C)) (t : List UInt8) (x : Int) (i : Int) (k : Nat) : vRound E_sSumMore noInl (sg [pI, pS] [rI]) Try.f156 H [Pt.r, Pt.r, Pt.l, Pt.r, Pt.b] k (H_sSumMore t x i) =
 (.ask (decide (i < (↑t.length : Int)))
 (.must (decide ((0 : Int) ≤ i) && decide (i < (↑t.length : Int)))
  (.must true
   (.must true
    (.must true
     (H [Pt.r, Pt.r, Pt.l, Pt.r, Pt.b] k (H_sSumMore (t) (Int.ofNat (crcByte (low32 x) (IntKind.i64.wrap (↑(t.getD i.toNat (0 : UInt8)).toNat : Int) % (256 : Int)).toNat)) (IntKind.i64.wrap (i + (1 : Int)))))))))
 (.must true
  (.ret [C.int IntKind.i64 (ixor IntKind.i64 x (4294967295 : Int))]))) := by kernel_rfl
theorem iSumMore_round0 (H : List Pt → Nat → St → T (List C)) (t : List UInt8) (x : Int) (n : Int) (i : Int) (k : Nat) : vRound E_iSumMore noInl (sg [pI, pS] [rI]) Try.f155 H [Pt.r, Pt.r, Pt.l, Pt.r, Pt.b] k (H_iSumMore t x n i) =
 (.ask (decide (i < n))
 (.must (decide ((0 : Int) ≤ i) && decide (i < (↑t.length : Int)))
  (.must true
   (.must (decide ((0 : Int) ≤ x ∧ x ≤ (4294967295 : Int)) &&
  decide
    ((0 : Int) ≤ (↑(t.getD i.toNat (0 : UInt8)).toNat : Int) ∧
      (↑(t.getD i.toNat (0 : UInt8)).toNat : Int) ≤ (255 : Int)))
    (.must true
     (H [Pt.r, Pt.r, Pt.l, Pt.r, Pt.b] k (H_iSumMore (t) (Int.ofNat (crcByte x.toNat (↑(t.getD i.toNat (0 : UInt8)).toNat : Int).toNat)) (n) (IntKind.i64.wrap (i + (1 : Int)))))))))
 (.must true
  (.ret [C.int IntKind.i64 (IntKind.i64.wrap (ixor IntKind.u32 x (4294967295 : Int)))]))) := by kernel_rfl
theorem sSumMore_tree (H : List Pt → Nat → St → T (List C)) (s : Int) (t : List UInt8) : vBodyL E_sSumMore noInl (sg [pI, pS] [rI]) Try.f156 H [C.int IntKind.i64 s, C.str t] =
 (.must true
 (H [Pt.r, Pt.r, Pt.l, Pt.r, Pt.b] (9223372036854775808 : Nat) (H_sSumMore (t) (ixor IntKind.i64 (iand IntKind.i64 s (4294967295 : Int)) (4294967295 : Int)) ((0 : Int))))) := by kernel_rfl
theorem iSumMore_tree (H : List Pt → Nat → St → T (List C)) (s : Int) (t : List UInt8) : vBodyL E_iSumMore noInl (sg [pI, pS] [rI]) Try.f155 H [C.int IntKind.i64 s, C.str t] =
 (.must true
 (H [Pt.r, Pt.r, Pt.l, Pt.r, Pt.b] (9223372036854775808 : Nat) (H_iSumMore (t) (ixor IntKind.u32 (IntKind.u32.wrap s) (4294967295 : Int)) ((↑t.length : Int)) ((0 : Int))))) := by kernel_rfl
theorem sSumOf_tree (H : List Pt → Nat → St → T (List C)) (t : List UInt8) : vBodyL E_sSumOf noInl (sg [pS] [rI]) Try.f124 H [C.str t] =
 (.must true
 (.must true
  (.must (decide (t.length ≤ (281474976710656 : Nat)))
   (.must true
    (.must true
     (.ret [C.int IntKind.i64 (Int.ofNat (crcMore (low32 (0 : Int)) t))])))))) := by kernel_rfl
theorem iSumOf_tree (H : List Pt → Nat → St → T (List C)) (t : List UInt8) : vBodyL E_iSumOf noInl (sg [pS] [rI]) Try.f119 H [C.str t] =
 (.must true
 (.must true
  (.must (decide (t.length ≤ (281474976710656 : Nat)))
   (.must true
    (.must true
     (.ret [C.int IntKind.i64 (Int.ofNat (crcMore (low32 (0 : Int)) t))])))))) := by kernel_rfl
end Go.Proofs.Ythpamcbipmkimaa.V

namespace Go.Proofs.Ythpamcbipmkimaa.V

theorem iand32 (s : Int) : iand .i64 s 4294967295 = (low32 s : Int) := by
  show IntKind.i64.wrap (((BitVec.ofInt 64 s &&& BitVec.ofInt 64 4294967295).toNat : Nat) : Int) = _
  rw [BitVec.toNat_and]
  have h1 : (BitVec.ofInt 64 4294967295).toNat = 2 ^ 32 - 1 := by decide
  have h2 : (BitVec.ofInt 64 s).toNat = (s % 18446744073709551616).toNat := by simp [BitVec.toNat_ofInt]
  rw [h1, h2, Nat.and_two_pow_sub_one_eq_mod]
  unfold low32
  rw [wrap64] <;> omega
theorem iand255 (s : Int) : iand .i64 s 255 = s % 256 := by
  show IntKind.i64.wrap (((BitVec.ofInt 64 s &&& BitVec.ofInt 64 255).toNat : Nat) : Int) = _
  rw [BitVec.toNat_and]
  have h1 : (BitVec.ofInt 64 255).toNat = 2 ^ 8 - 1 := by decide
  have h2 : (BitVec.ofInt 64 s).toNat = (s % 18446744073709551616).toNat := by simp [BitVec.toNat_ofInt]
  rw [h1, h2, Nat.and_two_pow_sub_one_eq_mod, wrap64] <;> omega
theorem ixor64_nat (a b : Nat) (ha : a < 4294967296) (hb : b < 4294967296) : ixor .i64 (a : Int) (b : Int) = ((a ^^^ b : Nat) : Int) := by
  show IntKind.i64.wrap (((BitVec.ofInt 64 (a : Int) ^^^ BitVec.ofInt 64 (b : Int)).toNat : Nat) : Int) = _
  rw [BitVec.toNat_xor]
  have h1 : (BitVec.ofInt 64 (a : Int)).toNat = a := by simp [BitVec.toNat_ofInt]; omega
  have h2 : (BitVec.ofInt 64 (b : Int)).toNat = b := by simp [BitVec.toNat_ofInt]; omega
  have h3 : a ^^^ b < 4294967296 := Nat.xor_lt_two_pow (n := 32) ha hb
  rw [h1, h2, wrap64] <;> omega
theorem ixor32_nat (a b : Nat) (ha : a < 4294967296) (hb : b < 4294967296) : ixor .u32 (a : Int) (b : Int) = ((a ^^^ b : Nat) : Int) := by
  show IntKind.u32.wrap (((BitVec.ofInt 32 (a : Int) ^^^ BitVec.ofInt 32 (b : Int)).toNat : Nat) : Int) = _
  rw [BitVec.toNat_xor]
  have h1 : (BitVec.ofInt 32 (a : Int)).toNat = a := by simp [BitVec.toNat_ofInt]; omega
  have h2 : (BitVec.ofInt 32 (b : Int)).toNat = b := by simp [BitVec.toNat_ofInt]; omega
  have h3 : a ^^^ b < 4294967296 := Nat.xor_lt_two_pow (n := 32) ha hb
  rw [h1, h2, wrapU32] <;> omega
theorem iand32_one (x : Int) : iand .u32 x 1 = x % 2 := by
  show IntKind.u32.wrap (((BitVec.ofInt 32 x &&& BitVec.ofInt 32 1).toNat : Nat) : Int) = _
  rw [BitVec.toNat_and]
  have h1 : (BitVec.ofInt 32 1).toNat = 1 := by decide
  have h2 : (BitVec.ofInt 32 x).toNat = (x % 4294967296).toNat := by simp [BitVec.toNat_ofInt]
  rw [h1, h2, Nat.and_one_is_mod, wrapU32] <;> omega
theorem ishr32_one (x : Int) : ishr .u32 x 1 = x / 2 := by
  show x.fdiv (2 ^ (min (Int.toNat 1) 32)) = _
  rw [Int.fdiv_eq_ediv_of_nonneg] <;> simp
theorem wrapU32_low (s : Int) : IntKind.u32.wrap s = (low32 s : Int) := by
  unfold low32
  simp only [IntKind.wrap, IntKind.bits, IntKind.signed]
  simp
  omega
theorem low32_lt (s : Int) : low32 s < 4294967296 := by unfold low32; omega
theorem crcStep_lt (x : Nat) (h : x < 4294967296) : crcStep x < 4294967296 := by
  unfold crcStep
  split
  · exact Nat.xor_lt_two_pow (n := 32) (by omega) (by omega)
  · omega
theorem crcIter_lt : ∀ (n x : Nat), x < 4294967296 → crcIter n x < 4294967296
  | 0, x, h => h
  | n + 1, x, h => crcIter_lt n _ (crcStep_lt x h)
theorem crcByte_lt (s b : Nat) (hs : s < 4294967296) (hb : b < 256) : crcByte s b < 4294967296 :=
  crcIter_lt 8 _ (Nat.xor_lt_two_pow (n := 32) hs (by omega))
theorem crcFold_lt : ∀ (t : List UInt8) (x : Nat), x < 4294967296 → crcFold x t < 4294967296
  | [], x, h => h
  | c :: t, x, h => crcFold_lt t _ (crcByte_lt x c.toNat h c.toNat_lt)
theorem crcMore_lt (s : Nat) (t : List UInt8) (hs : s < 4294967296) : crcMore s t < 4294967296 :=
  Nat.xor_lt_two_pow (n := 32) (crcFold_lt t _ (Nat.xor_lt_two_pow (n := 32) hs (by omega))) (by omega)

theorem sSumByte_loop : ∀ (n i x : Nat), x < 4294967296 → i ≤ 8 → 8 < i + n →
    (vLoop E_sSumByte noInl (sg [pI, pI] [rI]) Try.f175 [.r, .r, .l, .r, .b] n (H_sSumByte x i)).eval = some [.int .i64 (crcIter (8 - i) x : Nat)] := by
  intro n
  induction n with
  | zero => intro i x hx h1 h2; omega
  | succ n ih =>
    intro i x hx h1 h2
    rw [vLoop_L _ _ _ _ _ _ _ (by kernel_rfl), sSumByte_round0]
    by_cases hi : i < 8
    · have e := ih (i + 1) (crcStep x) (crcStep_lt x hx) (by omega) (by omega)
      have hs : 8 - i = (8 - (i + 1)) + 1 := by omega
      have w : IntKind.i64.wrap ((i : Int) + 1) = ((i + 1 : Nat) : Int) := by rw [wrap64] <;> omega
      have hi' : (i : Int) < 8 := by omega
      have d : (x : Int) / 2 = ((x / 2 : Nat) : Int) := by omega
      have m : (x : Int) % 2 = ((x % 2 : Nat) : Int) := by omega
      have hx2 : ixor .i64 ((x / 2 : Nat) : Int) 2197175160 = ((x / 2 ^^^ 2197175160 : Nat) : Int) := ixor64_nat (x / 2) 2197175160 (by omega) (by omega)
      rw [hs]
      simp only [crcIter]
      rw [← e]
      simp only [eval_must', eval_ask', eval_ret', if_true, decide_eq_true_eq, w, hi', iand_one, ishr_one, d, m, hx2]
      unfold crcStep
      by_cases ho : x % 2 = 1
      · simp [ho]
      · simp only [ho, if_false]; rw [if_neg (by omega)]
    · have : i = 8 := by omega
      subst this
      simp [eval_must', eval_ask', eval_ret', crcIter]
theorem sSumByte_E : EnvSound Try.prog E_sSumByte := mkE_sound (by simp [])
theorem sSumByte_sound : Sound Try.prog 175 (sg [pI, pI] [rI]) sumByteSpec := vBody_sound sSumByte_E noInl_ok Try.func175 (by kernel_rfl) fun cs outs hk h => by
  unfold sumByteSpec at h
  split at h
  · simp only [Option.some.injEq, Prod.mk.injEq, true_and] at h
    rename_i s b
    rw [← h, vBody_L, sSumByte_tree]
    have e : b % 256 = ((b % 256).toNat : Int) := by omega
    have hb : (b % 256).toNat < 256 := by omega
    simp only [eval_must', if_true, iand32, iand255]
    rw [e, ixor64_nat _ _ (low32_lt s) (by omega)]
    exact sSumByte_loop _ 0 _ (Nat.xor_lt_two_pow (n := 32) (low32_lt s) (by omega)) (by omega) (by omega)
  · cases h

theorem iSumByte32_loop : ∀ (n i x : Nat), x < 4294967296 → i ≤ 8 → 8 < i + n →
    (vLoop E_iSumByte32 noInl (sg [pU32, pU8] [rU32]) Try.f174 [.r, .r, .l, .r, .b] n (H_iSumByte32 x i)).eval = some [.int .u32 (crcIter (8 - i) x : Nat)] := by
  intro n
  induction n with
  | zero => intro i x hx h1 h2; omega
  | succ n ih =>
    intro i x hx h1 h2
    rw [vLoop_L _ _ _ _ _ _ _ (by kernel_rfl), iSumByte32_round0]
    by_cases hi : i < 8
    · have e := ih (i + 1) (crcStep x) (crcStep_lt x hx) (by omega) (by omega)
      have hs : 8 - i = (8 - (i + 1)) + 1 := by omega
      have w : IntKind.i64.wrap ((i : Int) + 1) = ((i + 1 : Nat) : Int) := by rw [wrap64] <;> omega
      have hi' : (i : Int) < 8 := by omega
      have d : (x : Int) / 2 = ((x / 2 : Nat) : Int) := by omega
      have m : (x : Int) % 2 = ((x % 2 : Nat) : Int) := by omega
      have hx2 : ixor .u32 ((x / 2 : Nat) : Int) 2197175160 = ((x / 2 ^^^ 2197175160 : Nat) : Int) := ixor32_nat (x / 2) 2197175160 (by omega) (by omega)
      rw [hs]
      simp only [crcIter]
      rw [← e]
      simp only [eval_must', eval_ask', eval_ret', if_true, decide_eq_true_eq, w, hi', iand32_one, ishr32_one, d, m, hx2]
      unfold crcStep
      by_cases ho : x % 2 = 1
      · simp [ho]
      · simp only [ho, if_false]; rw [if_neg (by omega)]
    · have : i = 8 := by omega
      subst this
      simp [eval_must', eval_ask', eval_ret', crcIter]
theorem iSumByte32_E : EnvSound Try.prog E_iSumByte32 := mkE_sound (by simp [])
theorem iSumByte32_sound : Sound Try.prog 174 (sg [pU32, pU8] [rU32]) sumByte32Spec := vBody_sound iSumByte32_E noInl_ok Try.func174 (by kernel_rfl) fun cs outs hk h => by
  unfold sumByte32Spec at h
  split at h
  · simp only [Option.some.injEq, Prod.mk.injEq, Bool.and_eq_true, decide_eq_true_eq] at h
    obtain ⟨⟨⟨h1, h2⟩, h3, h4⟩, rfl⟩ := h
    rename_i s b
    obtain ⟨s, rfl⟩ := Int.eq_ofNat_of_zero_le h1
    obtain ⟨b, rfl⟩ := Int.eq_ofNat_of_zero_le h3
    rw [vBody_L, iSumByte32_tree]
    simp only [eval_must', if_true, Int.toNat_natCast]
    rw [wrapU32 (by omega) (by omega), ixor32_nat _ _ (by omega) (by omega)]
    exact iSumByte32_loop _ 0 _ (Nat.xor_lt_two_pow (n := 32) (by omega) (by omega)) (by omega) (by omega)
  · cases h

theorem drop_step (t : List UInt8) (i : Nat) (h : i < t.length) : t.drop i = t.getD i 0 :: t.drop (i + 1) := by
  rw [List.drop_eq_getElem_cons h]; simp [List.getD_eq_getElem?_getD, h]
theorem sSumMore_loop (t : List UInt8) (ht : t.length ≤ 281474976710656) : ∀ (n i x : Nat), x < 4294967296 → i ≤ t.length → t.length < i + n →
    (vLoop E_sSumMore noInl (sg [pI, pS] [rI]) Try.f156 [.r, .r, .l, .r, .b] n (H_sSumMore t x i)).eval = some [.int .i64 (crcFold x (t.drop i) ^^^ 4294967295 : Nat)] := by
  intro n
  induction n with
  | zero => intro i x hx h1 h2; omega
  | succ n ih =>
    intro i x hx h1 h2
    rw [vLoop_L _ _ _ _ _ _ _ (by kernel_rfl), sSumMore_round0]
    by_cases hi : i < t.length
    · have hb := byte_lt t i
      have e := ih (i + 1) (crcByte x (t.getD i 0).toNat) (crcByte_lt _ _ hx hb) (by omega) (by omega)
      have w : IntKind.i64.wrap ((i : Int) + 1) = ((i + 1 : Nat) : Int) := by rw [wrap64] <;> omega
      have hz : (0 : Int) ≤ i := by omega
      have w2 : IntKind.i64.wrap ((t.getD i 0).toNat : Int) = ((t.getD i 0).toNat : Int) := by rw [wrap64] <;> omega
      have l1 : low32 (x : Int) = x := by unfold low32; omega
      have l2 : (((t.getD i 0).toNat : Int) % 256).toNat = (t.getD i 0).toNat := by omega
      rw [drop_step t i hi]
      simp only [crcFold, List.foldl_cons] at e ⊢
      simp only [eval_must', eval_ask', eval_ret', if_true, decide_eq_true_eq, Bool.and_eq_true, w, hz, Int.toNat_natCast, Int.ofNat_lt, hi, and_self, w2, l1, l2]
      exact e
    · have : i = t.length := by omega
      subst this
      have hx2 : ixor .i64 (x : Int) 4294967295 = ((x ^^^ 4294967295 : Nat) : Int) := ixor64_nat x 4294967295 hx (by omega)
      simp [eval_must', eval_ask', eval_ret', crcFold, hx2]
theorem sSumMore_E : EnvSound Try.prog E_sSumMore := mkE_sound (by simp [sSumByte_sound])
theorem sSumMore_sound : Sound Try.prog 156 (sg [pI, pS] [rI]) sumMoreSpec := vBody_sound sSumMore_E noInl_ok Try.func156 (by kernel_rfl) fun cs outs hk h => by
  unfold sumMoreSpec at h
  split at h
  · simp only [Option.some.injEq, Prod.mk.injEq, decide_eq_true_eq] at h
    obtain ⟨h1, rfl⟩ := h
    rename_i s t
    rw [vBody_L, sSumMore_tree]
    have hx2 : ixor .i64 (low32 s : Int) 4294967295 = ((low32 s ^^^ 4294967295 : Nat) : Int) := ixor64_nat _ 4294967295 (low32_lt s) (by omega)
    simp only [eval_must', if_true, iand32, hx2]
    exact sSumMore_loop t h1 _ 0 _ (Nat.xor_lt_two_pow (n := 32) (low32_lt s) (by omega)) (by omega) (by omega)
  · cases h
theorem iSumMore_loop (t : List UInt8) (ht : t.length ≤ 281474976710656) : ∀ (n i x : Nat), x < 4294967296 → i ≤ t.length → t.length < i + n →
    (vLoop E_iSumMore noInl (sg [pI, pS] [rI]) Try.f155 [.r, .r, .l, .r, .b] n (H_iSumMore t x t.length i)).eval = some [.int .i64 (crcFold x (t.drop i) ^^^ 4294967295 : Nat)] := by
  intro n
  induction n with
  | zero => intro i x hx h1 h2; omega
  | succ n ih =>
    intro i x hx h1 h2
    rw [vLoop_L _ _ _ _ _ _ _ (by kernel_rfl), iSumMore_round0]
    by_cases hi : i < t.length
    · have hb := byte_lt t i
      have e := ih (i + 1) (crcByte x (t.getD i 0).toNat) (crcByte_lt _ _ hx hb) (by omega) (by omega)
      have w : IntKind.i64.wrap ((i : Int) + 1) = ((i + 1 : Nat) : Int) := by rw [wrap64] <;> omega
      have hz : (0 : Int) ≤ i := by omega
      have hx1 : (0 : Int) ≤ x := by omega
      have hx2 : (x : Int) ≤ 4294967295 := by omega
      have hb1 : (0 : Int) ≤ ((t.getD i 0).toNat : Int) := by omega
      have hb2 : ((t.getD i 0).toNat : Int) ≤ 255 := by omega
      rw [drop_step t i hi]
      simp only [crcFold, List.foldl_cons] at e ⊢
      simp only [eval_must', eval_ask', eval_ret', if_true, decide_eq_true_eq, Bool.and_eq_true, w, hz, Int.toNat_natCast, Int.ofNat_lt, hi, and_self, hx1, hx2, hb1, hb2]
      exact e
    · have : i = t.length := by omega
      subst this
      have hx2 : ixor .u32 (x : Int) 4294967295 = ((x ^^^ 4294967295 : Nat) : Int) := ixor32_nat x 4294967295 hx (by omega)
      have hl : x ^^^ 4294967295 < 4294967296 := Nat.xor_lt_two_pow (n := 32) hx (by omega)
      have w : IntKind.i64.wrap ((x ^^^ 4294967295 : Nat) : Int) = ((x ^^^ 4294967295 : Nat) : Int) := by rw [wrap64] <;> omega
      simp [eval_must', eval_ask', eval_ret', crcFold, hx2, w]
theorem iSumMore_E : EnvSound Try.prog E_iSumMore := mkE_sound (by simp [iSumByte32_sound])
theorem iSumMore_sound : Sound Try.prog 155 (sg [pI, pS] [rI]) sumMoreSpec := vBody_sound iSumMore_E noInl_ok Try.func155 (by kernel_rfl) fun cs outs hk h => by
  unfold sumMoreSpec at h
  split at h
  · simp only [Option.some.injEq, Prod.mk.injEq, decide_eq_true_eq] at h
    obtain ⟨h1, rfl⟩ := h
    rename_i s t
    rw [vBody_L, iSumMore_tree]
    have hx2 : ixor .u32 (low32 s : Int) 4294967295 = ((low32 s ^^^ 4294967295 : Nat) : Int) := ixor32_nat _ 4294967295 (low32_lt s) (by omega)
    simp only [eval_must', if_true, wrapU32_low, hx2]
    exact iSumMore_loop t h1 _ 0 _ (Nat.xor_lt_two_pow (n := 32) (low32_lt s) (by omega)) (by omega) (by omega)
  · cases h
theorem sSumOf_E : EnvSound Try.prog E_sSumOf := mkE_sound (by simp [sSumMore_sound])
theorem sSumOf_sound : Sound Try.prog 124 (sg [pS] [rI]) sumOfSpec := vBody_sound sSumOf_E noInl_ok Try.func124 (by kernel_rfl) fun cs outs hk h => by
  unfold sumOfSpec at h
  split at h
  · simp only [Option.some.injEq, Prod.mk.injEq, decide_eq_true_eq] at h
    obtain ⟨h1, rfl⟩ := h
    rw [vBody_L, sSumOf_tree]
    simp [eval_must', eval_ret', h1]
    rfl
  · cases h
theorem iSumOf_E : EnvSound Try.prog E_iSumOf := mkE_sound (by simp [iSumMore_sound])
theorem iSumOf_sound : Sound Try.prog 119 (sg [pS] [rI]) sumOfSpec := vBody_sound iSumOf_E noInl_ok Try.func119 (by kernel_rfl) fun cs outs hk h => by
  unfold sumOfSpec at h
  split at h
  · simp only [Option.some.injEq, Prod.mk.injEq, decide_eq_true_eq] at h
    obtain ⟨h1, rfl⟩ := h
    rw [vBody_L, iSumOf_tree]
    simp [eval_must', eval_ret', h1]
    rfl
  · cases h

end Go.Proofs.Ythpamcbipmkimaa.V

namespace Go.Proofs.Ythpamcbipmkimaa.V
noncomputable section

/-- the drawing cursor: bytes, place, state -/
def curH (h : Int) : Int := IntKind.i64.wrap (IntKind.i64.wrap (h * 6364136223846793005) + 1442695040888963407)
def curX (h : Int) : Int := iand .i64 (ixor .i64 (ishr .i64 (curH h) 33) (ishr .i64 (curH h) 45)) 255
def rowByte (r : List C) : Int := (r.getD 0 (.fn 0 [])).toInt
def curByte (rows : List (List C)) (i h : Int) : Int := if i < rows.length then iand .i64 (IntKind.i64.wrap (curX h + IntKind.i64.wrap (rowByte (rows.getD i.toNat [])))) 255 else curX h
def curI (rows : List (List C)) (i : Int) : Int := if i < rows.length then i + 1 else i
def curOk (rows : List (List C)) (i : Int) : Bool := rowsOk [.int .u8] rows && (decide (rows.length ≤ 1048576) && (decide (0 ≤ i) && decide (i ≤ rows.length)))
def pCur : PTy := .box [.slice 5, .int .i64, .int .i64]
def byteSpec : Spec := fun cs => match cs with
  | [.sl rows, .int .i64 i, .int .i64 h] => some (curOk rows i, [.int .i64 (curByte rows i h), .sl rows, .int .i64 (curI rows i), .int .i64 (curH h)])
  | _ => none
def E_sByte : Env := mkE [] []

def below (rows : List (List C)) (i h n : Int) : Int :=
  if n ≤ 0 then 0 else if n ≤ 256 then (curByte rows i h).tmod n
  else (curByte rows i h * 16777216 + curByte rows (curI rows i) (curH h) * 65536 + curByte rows (curI rows (curI rows i)) (curH (curH h)) * 256 + curByte rows (curI rows (curI rows (curI rows i))) (curH (curH (curH h)))).tmod n
def belowI (rows : List (List C)) (i n : Int) : Int := if n ≤ 0 then i else if n ≤ 256 then curI rows i else curI rows (curI rows (curI rows (curI rows i)))
def belowH (h n : Int) : Int := if n ≤ 0 then h else if n ≤ 256 then curH h else curH (curH (curH (curH h)))
def belowSpec : Spec := fun cs => match cs with
  | [.sl rows, .int .i64 i, .int .i64 h, .int .i64 n] => some (curOk rows i, [.int .i64 (below rows i h n), .sl rows, .int .i64 (belowI rows i n), .int .i64 (belowH h n)])
  | _ => none
def onceSpec : Spec := fun cs => match cs with
  | [.sl rows, .int .i64 i, .int .i64 h, .int .i64 n] => some (curOk rows i, [.bool (decide (below rows i h n = 0)), .sl rows, .int .i64 (belowI rows i n), .int .i64 (belowH h n)])
  | _ => none
def E_sBelow : Env := mkE [] [(149, (⟨[pCur], [rI], true⟩), byteSpec)]
def E_sOnce : Env := mkE [] [(101, (⟨[pCur, pI], [rI], true⟩), belowSpec)]

def pickSpec : Spec := fun cs => match cs with
  | [.sl rows, .int .i64 i, .int .i64 h, .sl l] => some (curOk rows i && (rowsOk [.int .i64] l && (decide (0 < l.length) && decide (l.length ≤ 1048576))), [.int .i64 ((ints l).getD (below rows i h l.length).toNat 0), .sl rows, .int .i64 (belowI rows i l.length), .int .i64 (belowH h l.length)])
  | _ => none
def E_sPickInt : Env := mkE [] [(101, (⟨[pCur, pI], [rI], true⟩), belowSpec)]

def hashOf : Nat → Int → List (List C) → Int
  | 0, h, _ => h
  | _ + 1, h, [] => h
  | f + 1, h, r :: rows => hashOf f (iand .i64 (IntKind.i64.wrap (IntKind.i64.wrap (IntKind.i64.wrap (h * 131) + IntKind.i64.wrap (rowByte r)) + 7)) 1073741823) rows
def newH (rows : List (List C)) : Int := hashOf 4000 (94701 + rows.length) rows
def E_sNew : Env := mkE [(3, [0, 3, 4])] []
def H_sNew (r : List (List C)) (h i : Int) (hp : List (Nat × Blk)) (nx : Nat) (pn : List Nat) : St := { slots := [(0, .l (.sl r)), (3, int64 h), (4, int64 i)], heap := hp, next := nx, pins := pn }
def drawS : FuncId → List W → St → Option (Bool × W × St) := fun g ws σ => match ws with
  | [.l (.sl rows)] => if g = 99 then some (curOk rows 0, .l (.ptr σ.next 0), { σ with heap := (σ.next, .box [.sl rows, .i .i64 0, .i .i64 (newH rows)]) :: σ.heap, next := σ.next + 1 }) else none
  | _ => none
def drawInl : FuncId → Option Func := fun g => if g = 99 then some Try.f99 else none
def mkD (lv : List (Nat × List Nat)) (gs : Laws) : Env := { mkE lv gs with inl := drawInl }

def curText (rows : List (List C)) : Nat → Int → Int → List UInt8
  | 0, _, _ => []
  | m + 1, i, h => UInt8.ofNat (curByte rows i h).toNat :: curText rows m (curI rows i) (curH h)
def textI (rows : List (List C)) : Nat → Int → Int
  | 0, i => i
  | m + 1, i => textI rows m (curI rows i)
def textH : Nat → Int → Int
  | 0, h => h
  | m + 1, h => textH m (curH h)
def textN (n : Int) : Nat := (if n > 5000 then 5000 else n).toNat
def textSpec : Spec := fun cs => match cs with
  | [.sl rows, .int .i64 i, .int .i64 h, .int .i64 n] => some (curOk rows i, [.str (curText rows (textN n) i h), .sl rows, .int .i64 (textI rows (textN n) i), .int .i64 (textH (textN n) h)])
  | _ => none
def H_sText (r : List (List C)) (i h n : Int) (m : Nat) (o : List (List C)) (k : Int) : St := { slots := [(0, .l (.ptr 0 0)), (1, int64 n), (5, .l (.ref 1 0 m)), (6, int64 k)], heap := [(0, .box [.sl r, .i .i64 i, .i .i64 h]), (1, .arr 1 o)], next := 2, pins := [0] }
def E_sText : Env := mkE [(5, [0, 1, 5, 6])] [(149, (⟨[pCur], [rI], true⟩), byteSpec)]

end
end Go.Proofs.Ythpamcbipmkimaa.V

namespace Go.Proofs.Ythpamcbipmkimaa.V
set_option maxRecDepth 100000
theorem sByte_tree (H : List Pt → Nat → St → T (List C)) (r : List (List C)) (i : Int) (h : Int) : vBodyL E_sByte noInl { params := [pCur], results := [rI], nested := true } Try.f149 H
  [C.sl r, C.int IntKind.i64 i, C.int IntKind.i64 h] =
 (.must true
 (.must true
  (.must true
   (.ask (decide (i < (↑r.length : Int)))
    (.must (decide ((0 : Int) ≤ i) && decide (i < (↑r.length : Int)) && decide ((r.getD i.toNat []).length = (1 : Nat)))
     (.must (decide ((0 : Nat) < (r.getD i.toNat []).length) &&
    C.is (K.int IntKind.u8) ((r.getD i.toNat []).getD (0 : Nat) (C.fn (0 : FuncId) [])) &&
  true)
      (.must true
       (.ret [C.int IntKind.i64
    (iand IntKind.i64
      (IntKind.i64.wrap
        (iand IntKind.i64
            (ixor IntKind.i64
              (ishr IntKind.i64
                (IntKind.i64.wrap (IntKind.i64.wrap (h * (6364136223846793005 : Int)) + (1442695040888963407 : Int)))
                (33 : Int))
              (ishr IntKind.i64
                (IntKind.i64.wrap (IntKind.i64.wrap (h * (6364136223846793005 : Int)) + (1442695040888963407 : Int)))
                (45 : Int)))
            (255 : Int) +
          IntKind.i64.wrap ((r.getD i.toNat []).getD (0 : Nat) (C.fn (0 : FuncId) [])).toInt))
      (255 : Int)),
  C.sl r, C.int IntKind.i64 (IntKind.i64.wrap (i + (1 : Int))),
  C.int IntKind.i64
    (IntKind.i64.wrap (IntKind.i64.wrap (h * (6364136223846793005 : Int)) + (1442695040888963407 : Int)))]))))
    (.must true
     (.ret [C.int IntKind.i64
    (iand IntKind.i64
      (ixor IntKind.i64
        (ishr IntKind.i64
          (IntKind.i64.wrap (IntKind.i64.wrap (h * (6364136223846793005 : Int)) + (1442695040888963407 : Int)))
          (33 : Int))
        (ishr IntKind.i64
          (IntKind.i64.wrap (IntKind.i64.wrap (h * (6364136223846793005 : Int)) + (1442695040888963407 : Int)))
          (45 : Int)))
      (255 : Int)),
  C.sl r, C.int IntKind.i64 i,
  C.int IntKind.i64
    (IntKind.i64.wrap (IntKind.i64.wrap (h * (6364136223846793005 : Int)) + (1442695040888963407 : Int)))])))))) := by kernel_rfl
theorem sBelow_tree (H : List Pt → Nat → St → T (List C)) (r : List (List C)) (i : Int) (h : Int) (n : Int) : vBodyL E_sBelow noInl { params := [pCur, pI], results := [rI], nested := true } Try.f101 H
  [C.sl r, C.int IntKind.i64 i, C.int IntKind.i64 h, C.int IntKind.i64 n] =
 (.must true
 (.ask (decide (n ≤ (0 : Int)))
  (.must true
   (.ret [C.int IntKind.i64 (0 : Int), C.sl r, C.int IntKind.i64 i, C.int IntKind.i64 h]))
  (.ask (decide (n ≤ (256 : Int)))
   (.must true
    (.must (curOk r i)
     (.must true
      (.must (decide ¬n = (0 : Int))
       (.must true
        (.ret [C.int IntKind.i64 ((curByte r i h).tmod n), C.sl r, C.int IntKind.i64 (curI r i), C.int IntKind.i64 (curH h)]))))))
   (.must true
    (.must (curOk r i)
     (.must true
      (.must true
       (.must (curOk r (curI r i))
        (.must true
         (.must true
          (.must (curOk r (curI r (curI r i)))
           (.must true
            (.must true
             (.must (curOk r (curI r (curI r (curI r i))))
              (.must true
               (.must (decide ¬n = (0 : Int))
                (.must true
                 (.ret [C.int IntKind.i64
    ((IntKind.i64.wrap
          (IntKind.i64.wrap
              (IntKind.i64.wrap
                  (IntKind.i64.wrap (curByte r i h * (16777216 : Int)) +
                    IntKind.i64.wrap (curByte r (curI r i) (curH h) * (65536 : Int))) +
                IntKind.i64.wrap (curByte r (curI r (curI r i)) (curH (curH h)) * (256 : Int))) +
            curByte r (curI r (curI r (curI r i))) (curH (curH (curH h))))).tmod
      n),
  C.sl r, C.int IntKind.i64 (curI r (curI r (curI r (curI r i)))), C.int IntKind.i64 (curH (curH (curH (curH h))))])))))))))))))))))) := by kernel_rfl
theorem sOnce_tree (H : List Pt → Nat → St → T (List C)) (r : List (List C)) (i : Int) (h : Int) (n : Int) : vBodyL E_sOnce noInl { params := [pCur, pI], results := [rB], nested := true } Try.f152 H
  [C.sl r, C.int IntKind.i64 i, C.int IntKind.i64 h, C.int IntKind.i64 n] =
 (.must true
 (.must true
  (.must (curOk r i)
   (.must true
    (.ask (decide (below r i h n = (0 : Int)))
     (.must true
      (.ret [C.bool true, C.sl r, C.int IntKind.i64 (belowI r i n), C.int IntKind.i64 (belowH h n)]))
     (.must true
      (.ret [C.bool false, C.sl r, C.int IntKind.i64 (belowI r i n), C.int IntKind.i64 (belowH h n)]))))))) := by kernel_rfl
theorem sPickInt_tree (H : List Pt → Nat → St → T (List C)) (r : List (List C)) (i : Int) (h : Int) (l : List (List C)) : vBodyL E_sPickInt noInl { params := [pCur, pSl (3 : TypeId)], results := [rI], nested := true } Try.f102 H
  [C.sl r, C.int IntKind.i64 i, C.int IntKind.i64 h, C.sl l] =
 (.must true
 (.must true
  (.must (curOk r i)
   (.must true
    (.must (decide ((0 : Int) ≤ below r i h (↑l.length : Int)) && decide (below r i h (↑l.length : Int) < (↑l.length : Int)) &&
  decide ((l.getD (below r i h (↑l.length : Int)).toNat []).length = (1 : Nat)))
     (.must (decide ((0 : Nat) < (l.getD (below r i h (↑l.length : Int)).toNat []).length) &&
    C.is (K.int IntKind.i64)
      ((l.getD (below r i h (↑l.length : Int)).toNat []).getD (0 : Nat) (C.fn (0 : FuncId) [])) &&
  true)
      (.must true
       (.ret [C.int IntKind.i64 ((l.getD (below r i h (↑l.length : Int)).toNat []).getD (0 : Nat) (C.fn (0 : FuncId) [])).toInt,
  C.sl r, C.int IntKind.i64 (belowI r i (↑l.length : Int)), C.int IntKind.i64 (belowH h (↑l.length : Int))])))))))) := by kernel_rfl
theorem sNew_tree (H : List Pt → Nat → St → T (W × St)) (r : List (List C)) (hp : List (Nat × Blk)) (nx : Nat) (pn : List Nat) (sl : List (Nat × W)) : vInL E_sNew noInl Try.f99 H [W.l (L.sl r)] { slots := sl, heap := hp, next := nx, pins := pn } =
 (H [Pt.r, Pt.r, Pt.l, Pt.r, Pt.b] (9223372036854775808 : Nat) (H_sNew (r) (IntKind.i64.wrap ((94701 : Int) + (↑r.length : Int))) ((0 : Int)) (hp) (nx) (pn))) := by kernel_rfl
theorem sNew_round0 (H : List Pt → Nat → St → T (W × St)) (r : List (List C)) (h : Int) (i : Int) (hp : List (Nat × Blk)) (nx : Nat) (pn : List Nat) (sl : List (Nat × W)) (k : Nat) : vInRound E_sNew noInl Try.f99 { slots := sl, heap := hp, next := nx, pins := pn } H [Pt.r, Pt.r, Pt.l, Pt.r, Pt.b] k
  (H_sNew r h i hp nx pn) =
 (.ask (decide (i < (↑r.length : Int)))
 (.ask (decide (i < (4000 : Int)))
  (.must (decide ((0 : Int) ≤ i) && decide (i < (↑r.length : Int)) && decide ((r.getD i.toNat []).length = (1 : Nat)))
   (.must (decide ((0 : Nat) < (r.getD i.toNat []).length) &&
    C.is (K.int IntKind.u8) ((r.getD i.toNat []).getD (0 : Nat) (C.fn (0 : FuncId) [])) &&
  true)
    (H [Pt.r, Pt.r, Pt.l, Pt.r, Pt.b] k (H_sNew (r) (iand IntKind.i64
  (IntKind.i64.wrap
    (IntKind.i64.wrap
        (IntKind.i64.wrap (h * (131 : Int)) +
          IntKind.i64.wrap ((r.getD i.toNat []).getD (0 : Nat) (C.fn (0 : FuncId) [])).toInt) +
      (7 : Int)))
  (1073741823 : Int)) (IntKind.i64.wrap (i + (1 : Int))) (hp) (nx) (pn)))))
  (.ret (W.l (L.ptr nx (0 : Nat)),
  {
    slots :=
      [((2 : Nat), W.l (L.ptr nx (0 : Nat))), ((31 : Nat), W.l (L.ptr nx (0 : Nat))),
        ((30 : Nat), W.agg [L.sl r, L.i IntKind.i64 (0 : Int), L.i IntKind.i64 h]),
        ((29 : Nat), W.l (L.i IntKind.i64 h)), ((28 : Nat), W.l (L.sl r)), ((15 : Nat), W.l (L.b false)),
        ((14 : Nat), W.l (L.b false)), ((13 : Nat), W.l (L.i IntKind.i64 i)), ((12 : Nat), W.l (L.b true)),
        ((11 : Nat), W.l (L.b true)), ((10 : Nat), W.l (L.i IntKind.i64 (↑r.length : Int))), ((9 : Nat), W.l (L.sl r)),
        ((8 : Nat), W.l (L.i IntKind.i64 i)), ((0 : Nat), W.l (L.sl r)), ((3 : Nat), W.l (L.i IntKind.i64 h)),
        ((4 : Nat), W.l (L.i IntKind.i64 i))],
    heap := (nx, Blk.box [L.sl r, L.i IntKind.i64 (0 : Int), L.i IntKind.i64 h]) :: hp, next := nx + (1 : Nat),
    pins := pn })))
 (.ret (W.l (L.ptr nx (0 : Nat)),
  {
    slots :=
      [((2 : Nat), W.l (L.ptr nx (0 : Nat))), ((31 : Nat), W.l (L.ptr nx (0 : Nat))),
        ((30 : Nat), W.agg [L.sl r, L.i IntKind.i64 (0 : Int), L.i IntKind.i64 h]),
        ((29 : Nat), W.l (L.i IntKind.i64 h)), ((28 : Nat), W.l (L.sl r)), ((15 : Nat), W.l (L.b false)),
        ((14 : Nat), W.l L.und), ((13 : Nat), W.l L.und), ((12 : Nat), W.l (L.b false)), ((11 : Nat), W.l (L.b false)),
        ((10 : Nat), W.l (L.i IntKind.i64 (↑r.length : Int))), ((9 : Nat), W.l (L.sl r)),
        ((8 : Nat), W.l (L.i IntKind.i64 i)), ((0 : Nat), W.l (L.sl r)), ((3 : Nat), W.l (L.i IntKind.i64 h)),
        ((4 : Nat), W.l (L.i IntKind.i64 i))],
    heap := (nx, Blk.box [L.sl r, L.i IntKind.i64 (0 : Int), L.i IntKind.i64 h]) :: hp, next := nx + (1 : Nat),
    pins := pn }))) := by kernel_rfl
theorem sText_tree (H : List Pt → Nat → St → T (List C)) (r : List (List C)) (i : Int) (h : Int) (n : Int) : vBodyL E_sText noInl { params := [pCur, pI], results := [rS], nested := true } Try.f100 H
  [C.sl r, C.int IntKind.i64 i, C.int IntKind.i64 h, C.int IntKind.i64 n] =
 (.must true
 (.ask (decide ((5000 : Int) < n))
  (H [Pt.r, Pt.r, Pt.r, Pt.l, Pt.r, Pt.b] (9223372036854775808 : Nat) (H_sText (r) (i) (h) ((5000 : Int)) ((0 : Nat)) ([]) ((0 : Int))))
  (H [Pt.r, Pt.r, Pt.r, Pt.l, Pt.r, Pt.b] (9223372036854775808 : Nat) (H_sText (r) (i) (h) (n) ((0 : Nat)) ([]) ((0 : Int)))))) := by kernel_rfl
theorem sText_round0 (H : List Pt → Nat → St → T (List C)) (r : List (List C)) (i : Int) (h : Int) (n : Int) (q : Nat) (o : List (List C)) (j : Int) (k : Nat) : vRound E_sText noInl { params := [pCur, pI], results := [rS], nested := true } Try.f100 H
  [Pt.r, Pt.r, Pt.r, Pt.l, Pt.r, Pt.b] k (H_sText r i h n q o j) =
 (.ask (decide (j < n))
 (.must true
  (.must (curOk r i)
   (.must true
    (.must (decide (q = o.length) && roomy (o.length + (1 : Nat)) (1 : Nat) && (decide ((1 : Nat) = (1 : Nat)) && true))
     (H [Pt.r, Pt.r, Pt.r, Pt.l, Pt.r, Pt.b] k (H_sText (r) (curI r i) (curH h) (n) (o.length + (1 : Nat)) (o.append [[C.int IntKind.u8 (IntKind.u8.wrap (curByte r i h))]]) (IntKind.i64.wrap (j + (1 : Int)))))))))
 (.must ((List.take q o).all byteRow)
  (.must true
   (.ret [C.str (strOfRows (List.take q o)), C.sl r, C.int IntKind.i64 i, C.int IntKind.i64 h])))) := by kernel_rfl
end Go.Proofs.Ythpamcbipmkimaa.V

namespace Go.Proofs.Ythpamcbipmkimaa.V

theorem row_u8 {r : List C} (h : kindsOk r [.int .u8] = true) : r = [C.int .u8 (rowByte r)] := by
  cases r with
  | nil => simp [kindsOk] at h
  | cons c r =>
    cases r with
    | cons d r => simp [kindsOk] at h
    | nil =>
      cases c with
      | int k n => simp [kindsOk, C.is] at h; subst h; rfl
      | _ => simp [kindsOk, C.is] at h
theorem rowsOk_at {ks : List K} {rows : List (List C)} (h : rowsOk ks rows = true) (i : Nat) (hi : i < rows.length) : kindsOk (rows.getD i []) ks = true := by
  simp only [rowsOk, List.all_eq_true] at h
  exact h _ (by simp [List.getD_eq_getElem?_getD, hi])
theorem curOk_iff (rows : List (List C)) (i : Int) : curOk rows i = true ↔ rowsOk [.int .u8] rows = true ∧ rows.length ≤ 1048576 ∧ 0 ≤ i ∧ i ≤ rows.length := by simp [curOk]
theorem curI_ok (rows : List (List C)) (i : Int) (h : curOk rows i = true) : curOk rows (curI rows i) = true := by
  have := (curOk_iff rows i).1 h
  rw [curOk_iff]
  unfold curI
  refine ⟨this.1, this.2.1, ?_⟩
  split <;> omega
theorem iand255_range (x : Int) : 0 ≤ iand .i64 x 255 ∧ iand .i64 x 255 ≤ 255 := by rw [iand255]; omega
theorem curByte_range (rows : List (List C)) (i h : Int) : 0 ≤ curByte rows i h ∧ curByte rows i h ≤ 255 := by
  unfold curByte curX; split <;> exact iand255_range _
theorem sByte_E : EnvSound Try.prog E_sByte := mkE_sound (by simp [])
theorem sByte_sound : Sound Try.prog 149 (⟨[pCur], [rI], true⟩) byteSpec := vBody_sound sByte_E noInl_ok Try.func149 (by kernel_rfl) fun cs outs hk h => by
  unfold byteSpec at h
  split at h
  · simp only [Option.some.injEq, Prod.mk.injEq] at h
    obtain ⟨h1, rfl⟩ := h
    rename_i rows i hh
    obtain ⟨a1, a2, a3, a4⟩ := (curOk_iff rows i).1 h1
    rw [vBody_L, sByte_tree]
    by_cases hi : i < rows.length
    · have hr := row_u8 (rowsOk_at a1 i.toNat (by omega))
      have w : IntKind.i64.wrap (i + 1) = i + 1 := by rw [wrap64] <;> omega
      have e1 : ((rows.getD i.toNat []).length) = 1 := by rw [hr]; rfl
      have e2 : C.is (K.int .u8) ((rows.getD i.toNat []).getD 0 (C.fn 0 [])) = true := by rw [hr]; rfl
      simp only [eval_must', eval_ask', eval_ret', if_true, decide_eq_true_eq, Bool.and_eq_true, hi, a3, e1, e2, w, curByte, curI, and_self, Nat.zero_lt_one]
      rfl
    · simp only [eval_must', eval_ask', eval_ret', if_true, decide_eq_true_eq, hi, if_false, curByte, curI]
      rfl
  · cases h

theorem below_range (rows : List (List C)) (i h n : Int) (hn : 0 < n) : 0 ≤ below rows i h n ∧ below rows i h n < n := by
  have r1 := curByte_range rows i h
  have r2 := curByte_range rows (curI rows i) (curH h)
  have r3 := curByte_range rows (curI rows (curI rows i)) (curH (curH h))
  have r4 := curByte_range rows (curI rows (curI rows (curI rows i))) (curH (curH (curH h)))
  unfold below
  rw [if_neg (by omega)]
  split
  · rw [Int.tmod_eq_emod_of_nonneg (by omega)]
    exact ⟨Int.emod_nonneg _ (by omega), Int.emod_lt_of_pos _ hn⟩
  · rw [Int.tmod_eq_emod_of_nonneg (by omega)]
    exact ⟨Int.emod_nonneg _ (by omega), Int.emod_lt_of_pos _ hn⟩
theorem sBelow_E : EnvSound Try.prog E_sBelow := mkE_sound (by simp [sByte_sound])
theorem sBelow_sound : Sound Try.prog 101 (⟨[pCur, pI], [rI], true⟩) belowSpec := vBody_sound sBelow_E noInl_ok Try.func101 (by kernel_rfl) fun cs outs hk h => by
  unfold belowSpec at h
  split at h
  · simp only [Option.some.injEq, Prod.mk.injEq] at h
    obtain ⟨h1, rfl⟩ := h
    rename_i rows i hh n
    have o1 := curI_ok rows i h1
    have o2 := curI_ok rows _ o1
    have o3 := curI_ok rows _ o2
    have r1 := curByte_range rows i hh
    have r2 := curByte_range rows (curI rows i) (curH hh)
    have r3 := curByte_range rows (curI rows (curI rows i)) (curH (curH hh))
    have r4 := curByte_range rows (curI rows (curI rows (curI rows i))) (curH (curH (curH hh)))
    rw [vBody_L, sBelow_tree]
    by_cases p1 : n ≤ 0
    · simp [eval_must', eval_ask', eval_ret', p1, below, belowI, belowH]
    · by_cases p2 : n ≤ 256
      · have hn : n ≠ 0 := by omega
        simp [eval_must', eval_ask', eval_ret', p1, p2, below, belowI, belowH, h1, hn]
      · have hn : n ≠ 0 := by omega
        have w1 : IntKind.i64.wrap (curByte rows i hh * 16777216) = curByte rows i hh * 16777216 := by rw [wrap64] <;> omega
        have w2 : IntKind.i64.wrap (curByte rows (curI rows i) (curH hh) * 65536) = curByte rows (curI rows i) (curH hh) * 65536 := by rw [wrap64] <;> omega
        have w3 : IntKind.i64.wrap (curByte rows (curI rows (curI rows i)) (curH (curH hh)) * 256) = curByte rows (curI rows (curI rows i)) (curH (curH hh)) * 256 := by rw [wrap64] <;> omega
        have w4 : IntKind.i64.wrap (curByte rows i hh * 16777216 + curByte rows (curI rows i) (curH hh) * 65536) = curByte rows i hh * 16777216 + curByte rows (curI rows i) (curH hh) * 65536 := by rw [wrap64] <;> omega
        have w5 : IntKind.i64.wrap (curByte rows i hh * 16777216 + curByte rows (curI rows i) (curH hh) * 65536 + curByte rows (curI rows (curI rows i)) (curH (curH hh)) * 256) = curByte rows i hh * 16777216 + curByte rows (curI rows i) (curH hh) * 65536 + curByte rows (curI rows (curI rows i)) (curH (curH hh)) * 256 := by rw [wrap64] <;> omega
        have w6 : IntKind.i64.wrap (curByte rows i hh * 16777216 + curByte rows (curI rows i) (curH hh) * 65536 + curByte rows (curI rows (curI rows i)) (curH (curH hh)) * 256 + curByte rows (curI rows (curI rows (curI rows i))) (curH (curH (curH hh)))) = curByte rows i hh * 16777216 + curByte rows (curI rows i) (curH hh) * 65536 + curByte rows (curI rows (curI rows i)) (curH (curH hh)) * 256 + curByte rows (curI rows (curI rows (curI rows i))) (curH (curH (curH hh))) := by rw [wrap64] <;> omega
        simp [eval_must', eval_ask', eval_ret', p1, p2, below, belowI, belowH, h1, o1, o2, o3, hn, w1, w2, w3, w4, w5, w6]
  · cases h
theorem sOnce_E : EnvSound Try.prog E_sOnce := mkE_sound (by simp [sBelow_sound])
theorem sOnce_sound : Sound Try.prog 152 (⟨[pCur, pI], [rB], true⟩) onceSpec := vBody_sound sOnce_E noInl_ok Try.func152 (by kernel_rfl) fun cs outs hk h => by
  unfold onceSpec at h
  split at h
  · simp only [Option.some.injEq, Prod.mk.injEq] at h
    obtain ⟨h1, rfl⟩ := h
    rename_i rows i hh n
    rw [vBody_L, sOnce_tree]
    by_cases p : below rows i hh n = 0 <;> simp [eval_must', eval_ask', eval_ret', h1, p]
  · cases h

theorem sPickInt_E : EnvSound Try.prog E_sPickInt := mkE_sound (by simp [sBelow_sound])
theorem sPickInt_sound : Sound Try.prog 102 (⟨[pCur, pSl 3], [rI], true⟩) pickSpec := vBody_sound sPickInt_E noInl_ok Try.func102 (by kernel_rfl) fun cs outs hk h => by
  unfold pickSpec at h
  split at h
  · simp only [Option.some.injEq, Prod.mk.injEq, Bool.and_eq_true, decide_eq_true_eq] at h
    obtain ⟨⟨h1, h2, h3, h4⟩, rfl⟩ := h
    rename_i rows i hh l
    have hr := rows_ints h2
    generalize ints l = m at hr ⊢
    subst hr
    rw [List.length_map] at h3 h4
    rw [vBody_L, sPickInt_tree]
    simp only [List.length_map]
    obtain ⟨b1, b2⟩ := below_range rows i hh m.length (by omega)
    have hlt : (below rows i hh m.length).toNat < m.length := by omega
    have g := map_getD eInt m 0 _ hlt
    simp only [eval_must', eval_ask', eval_ret', if_true, decide_eq_true_eq, Bool.and_eq_true, h1, b1, b2, g, List.length_map, and_self]
    simp [C.is, C.toInt]
  · cases h

theorem hash_step (f : Nat) (h : Int) (rows : List (List C)) (i : Nat) (hi : i < rows.length) : hashOf (f + 1) h (rows.drop i) = hashOf f (iand .i64 (IntKind.i64.wrap (IntKind.i64.wrap (IntKind.i64.wrap (h * 131) + IntKind.i64.wrap (rowByte (rows.getD i []))) + 7)) 1073741823) (rows.drop (i + 1)) := by
  rw [List.drop_eq_getElem_cons hi]
  simp [hashOf, List.getD_eq_getElem?_getD, hi]
theorem hash_nil (f : Nat) (h : Int) : hashOf f h [] = h := by cases f <;> rfl
theorem sNew_loop (rows : List (List C)) (hok : curOk rows 0 = true) (hp : List (Nat × Blk)) (nx : Nat) (pn : List Nat) (sl : List (Nat × W)) : ∀ (n i : Nat) (h : Int), i ≤ rows.length → i ≤ 4000 → 4000 < i + n →
    ∃ s, (vInLoop E_sNew noInl Try.f99 { slots := sl, heap := hp, next := nx, pins := pn } [.r, .r, .l, .r, .b] n (H_sNew rows h i hp nx pn)).eval = some (.l (.ptr nx 0), s) ∧ s.heap = (nx, .box [.sl rows, .i .i64 0, .i .i64 (hashOf (4000 - i) h (rows.drop i))]) :: hp ∧ s.next = nx + 1 ∧ s.pins = pn := by
  obtain ⟨a1, a2, a3, a4⟩ := (curOk_iff rows 0).1 hok
  intro n
  induction n with
  | zero => intro i h h1 h2 h3; omega
  | succ n ih =>
    intro i h h1 h2 h3
    rw [vInLoop_L _ _ _ _ _ _ _ (by kernel_rfl), sNew_round0]
    by_cases hi : i < rows.length
    · by_cases hj : i < 4000
      · have hr := row_u8 (rowsOk_at a1 i hi)
        have w : IntKind.i64.wrap ((i : Int) + 1) = ((i + 1 : Nat) : Int) := by rw [wrap64] <;> omega
        have hi' : (i : Int) < rows.length := by omega
        have hj' : (i : Int) < 4000 := by omega
        have hz : (0 : Int) ≤ i := by omega
        have e1 : ((rows.getD i []).length) = 1 := by rw [hr]; rfl
        have e2 : C.is (K.int .u8) ((rows.getD i []).getD 0 (C.fn 0 [])) = true := by rw [hr]; rfl
        have hs : 4000 - i = (4000 - (i + 1)) + 1 := by omega
        rw [hs, hash_step _ _ _ _ hi]
        simp only [eval_must', eval_ask', if_true, decide_eq_true_eq, Bool.and_eq_true, hi', hj', hz, Int.toNat_natCast, e1, e2, w, and_self, Nat.zero_lt_one]
        exact ih (i + 1) _ (by omega) (by omega) (by omega)
      · have : i = 4000 := by omega
        subst this
        have hi' : ((4000 : Nat) : Int) < rows.length := by omega
        simp only [eval_ask', eval_ret', decide_eq_true_eq, hi', if_true]
        rw [if_neg (by omega)]
        exact ⟨_, rfl, rfl, rfl, rfl⟩
    · have hd : rows.drop i = [] := List.drop_eq_nil_of_le (by omega)
      rw [hd, hash_nil]
      simp only [eval_ask', eval_ret', decide_eq_true_eq]
      rw [if_neg (by omega)]
      exact ⟨_, rfl, rfl, rfl, rfl⟩
theorem drawS_ok : SumOk Try.prog drawS := by
  intro g ws σ x σ' hs
  unfold drawS at hs
  split at hs
  · rename_i rows
    split at hs
    · rename_i hg
      subst hg
      simp only [Option.some.injEq, Prod.mk.injEq] at hs
      obtain ⟨hok, rfl, rfl⟩ := hs
      obtain ⟨sl, hp, nx, pn⟩ := σ
      have hlen := ((curOk_iff rows 0).1 hok).2.1
      obtain ⟨s, h1, h2, h3, h4⟩ := sNew_loop rows hok hp nx pn sl 9223372036854775808 0 (94701 + rows.length) (by omega) (by omega) (by omega)
      have w : IntKind.i64.wrap (94701 + (rows.length : Int)) = 94701 + rows.length := by rw [wrap64] <;> omega
      refine ⟨E_sNew, 1, s, Try.f99, Try.func99, mkE_sound (by simp), ?_, h2, h3, h4⟩
      rw [inlAt_L]
      show (vInL E_sNew noInl _ (vInLoop E_sNew noInl _ _) _ _).eval = _
      rw [sNew_tree, w]
      exact h1
    · cases hs
  · cases hs
theorem drawInl_eq {g : FuncId} {fn : Func} (h : drawInl g = some fn) : g = 99 ∧ fn = Try.f99 := by
  unfold drawInl at h
  split at h
  · rename_i hg; exact ⟨hg, (Option.some.inj h).symm⟩
  · cases h
theorem drawName : (Try.f99.name == "runtime.NumGoroutine") = false := by kernel_rfl
theorem mixedOk : Try.prog.follows .mixedOrders = true := by kernel_rfl
theorem mkD_sound {lv : List (Nat × List Nat)} {gs : Laws} (h : ∀ p, p ∈ gs → Sound Try.prog p.1 p.2.1 p.2.2) : EnvSound Try.prog (mkD lv gs) :=
  ⟨⟨(tys_ok tyTab_ok).1, fun g fn hh => by obtain ⟨rfl, rfl⟩ := drawInl_eq hh; exact Try.func99, fun t m e te h1 h2 => arrs_ok arrTab_ok t m e te h1 h2, gls_ok glTab_ok⟩, fun g sig spec hl => h (g, sig, spec) (lookup_mem hl), fun g fn hh => (by obtain ⟨rfl, rfl⟩ := drawInl_eq hh; exact drawName), mixedOk⟩

theorem curText_len (rows : List (List C)) : ∀ (m : Nat) (i h : Int), (curText rows m i h).length = m
  | 0, _, _ => rfl
  | m + 1, i, h => by simp [curText, curText_len rows m]
theorem textI_ok (rows : List (List C)) : ∀ (m : Nat) (i : Int), curOk rows i = true → curOk rows (textI rows m i) = true
  | 0, _, h => h
  | m + 1, i, h => textI_ok rows m _ (curI_ok rows i h)
theorem sText_loop (rows : List (List C)) (n : Nat) (hn : n ≤ 5000) : ∀ (f m j : Nat) (i h : Int) (l : List UInt8), curOk rows i = true → j + f = n → f < m → l.length = j →
    (vLoop E_sText noInl (⟨[pCur, pI], [rS], true⟩) Try.f100 [.r, .r, .r, .l, .r, .b] m (H_sText rows i h n l.length (rowsOfStr l) j)).eval = some [.str (l ++ curText rows f i h), .sl rows, .int .i64 (textI rows f i), .int .i64 (textH f h)] := by
  intro f
  induction f with
  | zero =>
    intro m j i h l hok h1 h2 h3
    obtain ⟨m, rfl⟩ : ∃ q, m = q + 1 := ⟨m - 1, by omega⟩
    rw [vLoop_L _ _ _ _ _ _ _ (by kernel_rfl), sText_round0]
    have c : ¬ ((j : Int) < n) := by omega
    have tk : (rowsOfStr l).take l.length = rowsOfStr l := List.take_of_length_le (by rw [rows_length]; omega)
    simp only [eval_must', eval_ask', eval_ret', decide_eq_true_eq, c, if_false, tk, rows_bytes, str_rows, curText, textI, textH, List.append_nil]
    simp
  | succ f ih =>
    intro m j i h l hok h1 h2 h3
    obtain ⟨m, rfl⟩ : ∃ q, m = q + 1 := ⟨m - 1, by omega⟩
    rw [vLoop_L _ _ _ _ _ _ _ (by kernel_rfl), sText_round0]
    have hr := curByte_range rows i h
    have c : (j : Int) < n := by omega
    have w : IntKind.i64.wrap ((j : Int) + 1) = ((j + 1 : Nat) : Int) := by rw [wrap64] <;> omega
    have u : IntKind.u8.wrap (curByte rows i h) = (((curByte rows i h).toNat : Nat) : Int) := by rw [wrapU8] <;> omega
    have ro : roomy (l.length + 1) 1 = true := by simp only [roomy, decide_eq_true_eq]; omega
    have ra : (rowsOfStr l).append [[C.int .u8 (((curByte rows i h).toNat : Nat) : Int)]] = rowsOfStr (l ++ [UInt8.ofNat (curByte rows i h).toNat]) := by
      have := rows_one (((curByte rows i h).toNat : Nat) : Int) (by omega) (by omega)
      rw [Int.toNat_natCast] at this
      rw [this, List.append_eq, rowsStr_append]
    have e := ih m (j + 1) (curI rows i) (curH h) (l ++ [UInt8.ofNat (curByte rows i h).toNat]) (curI_ok rows i hok) (by omega) (by omega) (by simp; omega)
    rw [List.length_append, List.append_assoc] at e
    simp only [eval_must', eval_ask', if_true, decide_eq_true_eq, Bool.and_eq_true, c, hok, w, u, ro, rows_length, ra, and_self, curText, textI, textH]
    exact e
theorem sText_E : EnvSound Try.prog E_sText := mkE_sound (by simp [sByte_sound])
theorem sText_sound : Sound Try.prog 100 (⟨[pCur, pI], [rS], true⟩) textSpec := vBody_sound sText_E noInl_ok Try.func100 (by kernel_rfl) fun cs outs hk h => by
  unfold textSpec at h
  split at h
  · simp only [Option.some.injEq, Prod.mk.injEq] at h
    obtain ⟨h1, rfl⟩ := h
    rename_i rows i hh n
    rw [vBody_L, sText_tree]
    have lp := fun (q : Nat) (hq : q ≤ 5000) => sText_loop rows q hq q 9223372036854775808 0 i hh [] h1 (by omega) (by omega) rfl
    by_cases p : (5000 : Int) < n
    · have en : textN n = 5000 := by unfold textN; rw [if_pos p]; rfl
      rw [en]
      simp only [eval_must', eval_ask', if_true, decide_eq_true_eq, p]
      exact lp 5000 (by omega)
    · have en : textN n = n.toNat := by unfold textN; rw [if_neg p]
      rw [en]
      simp only [eval_must', eval_ask', if_true, decide_eq_true_eq, p, if_false]
      by_cases p2 : 0 ≤ n
      · obtain ⟨n, rfl⟩ := Int.eq_ofNat_of_zero_le p2
        exact lp n (by omega)
      · have hz : n.toNat = 0 := by omega
        rw [hz]
        rw [vLoop_L _ _ _ _ _ 9223372036854775807 _ (by kernel_rfl), sText_round0]
        have c : ¬ ((0 : Int) < n) := by omega
        simp only [eval_must', eval_ask', eval_ret', decide_eq_true_eq, c, if_false, curText, textI, textH]
        simp [strOfRows]
  · cases h

end Go.Proofs.Ythpamcbipmkimaa.V

namespace Go.Proofs.Ythpamcbipmkimaa.V
noncomputable section

def pCode : PTy := .val false [.slice 5]
/-- a text of less than n bytes, from a cursor; the cursor behind it -/
def dtT (rows : List (List C)) (n i h : Int) : List UInt8 := curText rows (textN (below rows i h n)) (belowI rows i n) (belowH h n)
def dtI (rows : List (List C)) (n i h : Int) : Int := textI rows (textN (below rows i h n)) (belowI rows i n)
def dtH (rows : List (List C)) (n i h : Int) : Int := textH (textN (below rows i h n)) (belowH h n)
def dtAt (rows : List (List C)) (i h : Int) : Int := ([0, 1, 7, 8, 40, 95, -1, 9223372036854775807] : List Int).getD (below rows i h 8).toNat 0
def dtBits (rows : List (List C)) (i h : Int) : Int := ([0, 1, 3, 255, 4294967295, 2147483648, -1, 4294967296, below rows i h 100000] : List Int).getD (below rows (belowI rows i 100000) (belowH h 100000) 9).toNat 0
def drawTurnT (rows : List (List C)) : List UInt8 := dtT rows 12 0 (newH rows)
def drawTurnAt (rows : List (List C)) : Int := dtAt rows (dtI rows 12 0 (newH rows)) (dtH rows 12 0 (newH rows))
def drawTurnBits (rows : List (List C)) : Int := dtBits rows (belowI rows (dtI rows 12 0 (newH rows)) 8) (belowH (dtH rows 12 0 (newH rows)) 8)
def drawTurnSpec : Spec := fun cs => match cs with
  | [.sl rows] => some (curOk rows 0, [.str (drawTurnT rows), .int .i64 (drawTurnAt rows), .int .i64 (drawTurnBits rows)])
  | _ => none
def E_sDrawTurnBits : Env := mkD [] [(101, (⟨[pCur, pI], [rI], true⟩), belowSpec), (102, (⟨[pCur, pSl 3], [rI], true⟩), pickSpec), (100, (⟨[pCur, pI], [rS], true⟩), textSpec)]

def twoA (rows : List (List C)) : List UInt8 := dtT rows 12 0 (newH rows)
def twoI (rows : List (List C)) : Int := dtI rows 12 0 (newH rows)
def twoH (rows : List (List C)) : Int := dtH rows 12 0 (newH rows)
def twoS (rows : List (List C)) : Int := below rows (twoI rows) (twoH rows) 5
def twoI' (rows : List (List C)) : Int := belowI rows (twoI rows) 5
def twoH' (rows : List (List C)) : Int := belowH (twoH rows) 5
def twoB (rows : List (List C)) : List UInt8 :=
  if twoS rows = 0 then twoA rows
  else if twoS rows = 1 then cutOf (twoA rows) (below rows (twoI' rows) (twoH' rows) 12)
  else if twoS rows = 2 then curText rows (textN (twoA rows).length) (twoI' rows) (twoH' rows)
  else turnOf (twoA rows) (below rows (twoI' rows) (twoH' rows) 90) (1 + below rows (belowI rows (twoI' rows) 90) (belowH (twoH' rows) 90) 100000 * 40000)
def twoSpec : Spec := fun cs => match cs with
  | [.sl rows] => some (curOk rows 0, [.str (twoA rows), .str (twoB rows)])
  | _ => none
def E_sTwo : Env := mkD [] [(56, (sg [pS, pI] [rS]), cutSpec), (31, (sg [pS, pI, pI] [rS]), turnSpec), (101, (⟨[pCur, pI], [rI], true⟩), belowSpec), (100, (⟨[pCur, pI], [rS], true⟩), textSpec)]
def E_sDrawBitsChanged : Env := mkE [] [(97, (⟨[pCode], [rS, rS], true⟩), twoSpec)]

end
end Go.Proofs.Ythpamcbipmkimaa.V

namespace Go.Proofs.Ythpamcbipmkimaa.V
set_option maxRecDepth 100000
theorem sDrawTurnBits_tree (H : List Pt → Nat → St → T (List C)) (r : List (List C)) : vBodyL E_sDrawTurnBits (sumInl drawS) { params := [pCode], results := [rS, rI, rI], nested := true } Try.f29 H [C.sl r] =
 (.must true
 (.must (curOk r (0 : Int))
  (.must true
   (.must (curOk r (0 : Int))
    (.must true
     (.must true
      (.must (curOk r (belowI r (0 : Int) (12 : Int)))
       (.must true
        (.must true
         (.must (curOk r (textI r (textN (below r (0 : Int) (newH r) (12 : Int))) (belowI r (0 : Int) (12 : Int))) &&
  (rowsOk [K.int IntKind.i64]
      [[C.int IntKind.i64 (0 : Int)], [C.int IntKind.i64 (1 : Int)], [C.int IntKind.i64 (7 : Int)],
        [C.int IntKind.i64 (8 : Int)], [C.int IntKind.i64 (40 : Int)], [C.int IntKind.i64 (95 : Int)],
        [C.int IntKind.i64 (-1 : Int)], [C.int IntKind.i64 (9223372036854775807 : Int)]] &&
    (decide ((0 : Nat) < (8 : Nat)) && decide ((8 : Nat) ≤ (1048576 : Nat)))))
          (.must true
           (.must true
            (.must (curOk r
  (belowI r (textI r (textN (below r (0 : Int) (newH r) (12 : Int))) (belowI r (0 : Int) (12 : Int)))
    (↑(8 : Nat) : Int)))
             (.must true
              (.must true
               (.must (curOk r
    (belowI r
      (belowI r (textI r (textN (below r (0 : Int) (newH r) (12 : Int))) (belowI r (0 : Int) (12 : Int)))
        (↑(8 : Nat) : Int))
      (100000 : Int)) &&
  (rowsOk [K.int IntKind.i64]
      [[C.int IntKind.i64 (0 : Int)], [C.int IntKind.i64 (1 : Int)], [C.int IntKind.i64 (3 : Int)],
        [C.int IntKind.i64 (255 : Int)], [C.int IntKind.i64 (4294967295 : Int)], [C.int IntKind.i64 (2147483648 : Int)],
        [C.int IntKind.i64 (-1 : Int)], [C.int IntKind.i64 (4294967296 : Int)],
        [C.int IntKind.i64
            (below r
              (belowI r (textI r (textN (below r (0 : Int) (newH r) (12 : Int))) (belowI r (0 : Int) (12 : Int)))
                (↑(8 : Nat) : Int))
              (belowH (textH (textN (below r (0 : Int) (newH r) (12 : Int))) (belowH (newH r) (12 : Int)))
                (↑(8 : Nat) : Int))
              (100000 : Int))]] &&
    (decide
        ((0 : Nat) <
          ((((((((Nat.add (1 : Nat) (0 : Nat)).succ.add (0 : Nat)).succ.add (0 : Nat)).succ.add
                                      (0 : Nat)).succ.add
                                (0 : Nat)).succ.add
                          (0 : Nat)).succ.add
                    (0 : Nat)).succ.add
              (0 : Nat)).succ) &&
      decide
        (((((((((Nat.add (1 : Nat) (0 : Nat)).succ.add (0 : Nat)).succ.add (0 : Nat)).succ.add
                                      (0 : Nat)).succ.add
                                (0 : Nat)).succ.add
                          (0 : Nat)).succ.add
                    (0 : Nat)).succ.add
              (0 : Nat)).succ ≤
          (1048576 : Nat)))))
                (.must true
                 (.must true
                  (.ret [C.str
    (curText r (textN (below r (0 : Int) (newH r) (12 : Int))) (belowI r (0 : Int) (12 : Int))
      (belowH (newH r) (12 : Int))),
  C.int IntKind.i64
    ((ints
          [[C.int IntKind.i64 (0 : Int)], [C.int IntKind.i64 (1 : Int)], [C.int IntKind.i64 (7 : Int)],
            [C.int IntKind.i64 (8 : Int)], [C.int IntKind.i64 (40 : Int)], [C.int IntKind.i64 (95 : Int)],
            [C.int IntKind.i64 (-1 : Int)], [C.int IntKind.i64 (9223372036854775807 : Int)]]).getD
      (below r (textI r (textN (below r (0 : Int) (newH r) (12 : Int))) (belowI r (0 : Int) (12 : Int)))
          (textH (textN (below r (0 : Int) (newH r) (12 : Int))) (belowH (newH r) (12 : Int)))
          (↑(8 : Nat) : Int)).toNat
      (0 : Int)),
  C.int IntKind.i64
    ((ints
          [[C.int IntKind.i64 (0 : Int)], [C.int IntKind.i64 (1 : Int)], [C.int IntKind.i64 (3 : Int)],
            [C.int IntKind.i64 (255 : Int)], [C.int IntKind.i64 (4294967295 : Int)],
            [C.int IntKind.i64 (2147483648 : Int)], [C.int IntKind.i64 (-1 : Int)],
            [C.int IntKind.i64 (4294967296 : Int)],
            [C.int IntKind.i64
                (below r
                  (belowI r (textI r (textN (below r (0 : Int) (newH r) (12 : Int))) (belowI r (0 : Int) (12 : Int)))
                    (↑(8 : Nat) : Int))
                  (belowH (textH (textN (below r (0 : Int) (newH r) (12 : Int))) (belowH (newH r) (12 : Int)))
                    (↑(8 : Nat) : Int))
                  (100000 : Int))]]).getD
      (below r
          (belowI r
            (belowI r (textI r (textN (below r (0 : Int) (newH r) (12 : Int))) (belowI r (0 : Int) (12 : Int)))
              (↑(8 : Nat) : Int))
            (100000 : Int))
          (belowH
            (belowH (textH (textN (below r (0 : Int) (newH r) (12 : Int))) (belowH (newH r) (12 : Int)))
              (↑(8 : Nat) : Int))
            (100000 : Int))
          (↑((((((((Nat.add (1 : Nat) (0 : Nat)).succ.add (0 : Nat)).succ.add (0 : Nat)).succ.add
                                          (0 : Nat)).succ.add
                                    (0 : Nat)).succ.add
                              (0 : Nat)).succ.add
                        (0 : Nat)).succ.add
                  (0 : Nat)).succ :
            Int)).toNat
      (0 : Int))]))))))))))))))))))) := by kernel_rfl
theorem sTwo_tree (H : List Pt → Nat → St → T (List C)) (r : List (List C)) : vBodyL E_sTwo (sumInl drawS) { params := [pCode], results := [rS, rS], nested := true } Try.f97 H [C.sl r] =
 (.must true
 (.must (curOk r (0 : Int))
  (.must true
   (.must (curOk r (0 : Int))
    (.must true
     (.must true
      (.must (curOk r (belowI r (0 : Int) (12 : Int)))
       (.must true
        (.must true
         (.must (curOk r (textI r (textN (below r (0 : Int) (newH r) (12 : Int))) (belowI r (0 : Int) (12 : Int))))
          (.must true
           (.ask (decide
  (below r (textI r (textN (below r (0 : Int) (newH r) (12 : Int))) (belowI r (0 : Int) (12 : Int)))
      (textH (textN (below r (0 : Int) (newH r) (12 : Int))) (belowH (newH r) (12 : Int))) (5 : Int) =
    (0 : Int)))
            (.must true
             (.ret [C.str
    (curText r (textN (below r (0 : Int) (newH r) (12 : Int))) (belowI r (0 : Int) (12 : Int))
      (belowH (newH r) (12 : Int))),
  C.str
    (curText r (textN (below r (0 : Int) (newH r) (12 : Int))) (belowI r (0 : Int) (12 : Int))
      (belowH (newH r) (12 : Int)))]))
            (.ask (decide
  (below r (textI r (textN (below r (0 : Int) (newH r) (12 : Int))) (belowI r (0 : Int) (12 : Int)))
      (textH (textN (below r (0 : Int) (newH r) (12 : Int))) (belowH (newH r) (12 : Int))) (5 : Int) =
    (1 : Int)))
             (.must true
              (.must (curOk r (belowI r (textI r (textN (below r (0 : Int) (newH r) (12 : Int))) (belowI r (0 : Int) (12 : Int))) (5 : Int)))
               (.must true
                (.must true
                 (.must true
                  (.must true
                   (.must true
                    (.ret [C.str
    (curText r (textN (below r (0 : Int) (newH r) (12 : Int))) (belowI r (0 : Int) (12 : Int))
      (belowH (newH r) (12 : Int))),
  C.str
    (cutOf
      (curText r (textN (below r (0 : Int) (newH r) (12 : Int))) (belowI r (0 : Int) (12 : Int))
        (belowH (newH r) (12 : Int)))
      (below r
        (belowI r (textI r (textN (below r (0 : Int) (newH r) (12 : Int))) (belowI r (0 : Int) (12 : Int))) (5 : Int))
        (belowH (textH (textN (below r (0 : Int) (newH r) (12 : Int))) (belowH (newH r) (12 : Int))) (5 : Int))
        (12 : Int)))]))))))))
             (.ask (decide
  (below r (textI r (textN (below r (0 : Int) (newH r) (12 : Int))) (belowI r (0 : Int) (12 : Int)))
      (textH (textN (below r (0 : Int) (newH r) (12 : Int))) (belowH (newH r) (12 : Int))) (5 : Int) =
    (2 : Int)))
              (.must true
               (.must (curOk r (belowI r (textI r (textN (below r (0 : Int) (newH r) (12 : Int))) (belowI r (0 : Int) (12 : Int))) (5 : Int)))
                (.must true
                 (.must true
                  (.ret [C.str
    (curText r (textN (below r (0 : Int) (newH r) (12 : Int))) (belowI r (0 : Int) (12 : Int))
      (belowH (newH r) (12 : Int))),
  C.str
    (curText r
      (textN
        (↑(curText r (textN (below r (0 : Int) (newH r) (12 : Int))) (belowI r (0 : Int) (12 : Int))
                (belowH (newH r) (12 : Int))).length :
          Int))
      (belowI r (textI r (textN (below r (0 : Int) (newH r) (12 : Int))) (belowI r (0 : Int) (12 : Int))) (5 : Int))
      (belowH (textH (textN (below r (0 : Int) (newH r) (12 : Int))) (belowH (newH r) (12 : Int))) (5 : Int)))])))))
              (.must true
               (.must (curOk r (belowI r (textI r (textN (below r (0 : Int) (newH r) (12 : Int))) (belowI r (0 : Int) (12 : Int))) (5 : Int)))
                (.must true
                 (.must true
                  (.must (curOk r
  (belowI r
    (belowI r (textI r (textN (below r (0 : Int) (newH r) (12 : Int))) (belowI r (0 : Int) (12 : Int))) (5 : Int))
    (90 : Int)))
                   (.must true
                    (.must true
                     (.must (decide
      ((curText r (textN (below r (0 : Int) (newH r) (12 : Int))) (belowI r (0 : Int) (12 : Int))
            (belowH (newH r) (12 : Int))).length ≤
        (1048576 : Nat)) &&
    decide
      ((-9223372036854775808 : Int) ≤
        below r
          (belowI r (textI r (textN (below r (0 : Int) (newH r) (12 : Int))) (belowI r (0 : Int) (12 : Int))) (5 : Int))
          (belowH (textH (textN (below r (0 : Int) (newH r) (12 : Int))) (belowH (newH r) (12 : Int))) (5 : Int))
          (90 : Int)) &&
  decide
    (below r
        (belowI r (textI r (textN (below r (0 : Int) (newH r) (12 : Int))) (belowI r (0 : Int) (12 : Int))) (5 : Int))
        (belowH (textH (textN (below r (0 : Int) (newH r) (12 : Int))) (belowH (newH r) (12 : Int))) (5 : Int))
        (90 : Int) ≤
      (9223372036854775807 : Int)))
                      (.must true
                       (.must true
                        (.ret [C.str
    (curText r (textN (below r (0 : Int) (newH r) (12 : Int))) (belowI r (0 : Int) (12 : Int))
      (belowH (newH r) (12 : Int))),
  C.str
    (turnOf
      (curText r (textN (below r (0 : Int) (newH r) (12 : Int))) (belowI r (0 : Int) (12 : Int))
        (belowH (newH r) (12 : Int)))
      (below r
        (belowI r (textI r (textN (below r (0 : Int) (newH r) (12 : Int))) (belowI r (0 : Int) (12 : Int))) (5 : Int))
        (belowH (textH (textN (below r (0 : Int) (newH r) (12 : Int))) (belowH (newH r) (12 : Int))) (5 : Int))
        (90 : Int))
      (IntKind.i64.wrap
        ((1 : Int) +
          IntKind.i64.wrap
            (below r
                (belowI r
                  (belowI r (textI r (textN (below r (0 : Int) (newH r) (12 : Int))) (belowI r (0 : Int) (12 : Int)))
                    (5 : Int))
                  (90 : Int))
                (belowH
                  (belowH (textH (textN (below r (0 : Int) (newH r) (12 : Int))) (belowH (newH r) (12 : Int)))
                    (5 : Int))
                  (90 : Int))
                (100000 : Int) *
              (40000 : Int)))))]))))))))))))))))))))))))) := by kernel_rfl
theorem sDrawBitsChanged_tree (H : List Pt → Nat → St → T (List C)) (r : List (List C)) : vBodyL E_sDrawBitsChanged noInl { params := [pCode], results := [rS, rS], nested := true } Try.f27 H [C.sl r] =
 (.must true
 (.must true
  (.must (curOk r (0 : Int))
   (.must true
    (.must true
     (.ret [C.str (twoA r), C.str (twoB r)])))))) := by kernel_rfl
end Go.Proofs.Ythpamcbipmkimaa.V

namespace Go.Proofs.Ythpamcbipmkimaa.V

theorem belowI_ok (rows : List (List C)) (i n : Int) (h : curOk rows i = true) : curOk rows (belowI rows i n) = true := by
  unfold belowI
  split
  · exact h
  · split
    · exact curI_ok rows i h
    · exact curI_ok _ _ (curI_ok _ _ (curI_ok _ _ (curI_ok rows i h)))
theorem dtI_ok (rows : List (List C)) (n i h : Int) (ho : curOk rows i = true) : curOk rows (dtI rows n i h) = true := textI_ok rows _ _ (belowI_ok rows i n ho)
theorem dtT_len (rows : List (List C)) (n i h : Int) (hn : 0 < n) (hn2 : n ≤ 5000) : (dtT rows n i h).length < n := by
  unfold dtT
  rw [curText_len]
  have := below_range rows i h n hn
  unfold textN
  split <;> omega
theorem dtAt_range (rows : List (List C)) (i h : Int) : -1 ≤ dtAt rows i h ∧ dtAt rows i h ≤ 9223372036854775807 := by
  have b := below_range rows i h 8 (by omega)
  unfold dtAt
  generalize (below rows i h 8).toNat = k at *
  match k with
  | 0 | 1 | 2 | 3 | 4 | 5 | 6 | 7 => decide
  | k + 8 => simp
theorem sDrawTurnBits_E : EnvSound Try.prog E_sDrawTurnBits := mkD_sound (by simp [sBelow_sound, sPickInt_sound, sText_sound])
theorem sDrawTurnBits_sound : Sound Try.prog 29 (⟨[pCode], [rS, rI, rI], true⟩) drawTurnSpec := vBody_sound sDrawTurnBits_E (sumInl_ok drawS_ok) Try.func29 (by kernel_rfl) fun cs outs hk h => by
  unfold drawTurnSpec at h
  split at h
  · simp only [Option.some.injEq, Prod.mk.injEq] at h
    obtain ⟨h1, rfl⟩ := h
    rename_i rows
    rw [vBody_L, sDrawTurnBits_tree]
    have o1 := belowI_ok rows 0 12 h1
    have o2 := textI_ok rows (textN (below rows 0 (newH rows) 12)) _ o1
    have o3 := belowI_ok rows _ 8 o2
    have o4 := belowI_ok rows _ 100000 o3
    have q8 : ((8 : Nat) : Int) = 8 := rfl
    rw [q8]
    have ro1 : rowsOk [K.int .i64] [[C.int .i64 0], [C.int .i64 1], [C.int .i64 7], [C.int .i64 8], [C.int .i64 40], [C.int .i64 95], [C.int .i64 (-1)], [C.int .i64 9223372036854775807]] = true := by decide
    have ro2 : ∀ x : Int, rowsOk [K.int .i64] [[C.int .i64 0], [C.int .i64 1], [C.int .i64 3], [C.int .i64 255], [C.int .i64 4294967295], [C.int .i64 2147483648], [C.int .i64 (-1)], [C.int .i64 4294967296], [C.int .i64 x]] = true := fun x => rfl
    simp only [eval_must', eval_ret', h1, o1, o2, o3, o4, ro1, ro2, if_true, Bool.true_and]
    rfl
  · cases h

theorem turnTo_len' (b : List UInt8) (a m : Int) : (turnOf b a m).length = b.length := turnTo_length b a m 32
theorem twoA_len (rows : List (List C)) : (twoA rows).length < 12 := by
  have := dtT_len rows 12 0 (newH rows) (by omega) (by omega)
  unfold twoA; omega
theorem cutOf_len (b : List UInt8) (n : Int) : (cutOf b n).length ≤ b.length := by unfold cutOf; simp; omega
theorem twoB_len (rows : List (List C)) : (twoB rows).length < 12 := by
  have ha := twoA_len rows
  unfold twoB
  repeat' split
  · exact ha
  · have := cutOf_len (twoA rows) (below rows (twoI' rows) (twoH' rows) 12); omega
  · rw [curText_len]; unfold textN; split <;> omega
  · rw [turnTo_len']; exact ha
theorem sTwo_E : EnvSound Try.prog E_sTwo := mkD_sound (by simp [sCutText_sound, sTurnBits_sound, sBelow_sound, sText_sound])
theorem sTwo_sound : Sound Try.prog 97 (⟨[pCode], [rS, rS], true⟩) twoSpec := vBody_sound sTwo_E (sumInl_ok drawS_ok) Try.func97 (by kernel_rfl) fun cs outs hk h => by
  unfold twoSpec at h
  split at h
  · simp only [Option.some.injEq, Prod.mk.injEq] at h
    obtain ⟨h1, rfl⟩ := h
    rename_i rows
    rw [vBody_L, sTwo_tree]
    have o1 := belowI_ok rows 0 12 h1
    have o2 := textI_ok rows (textN (below rows 0 (newH rows) 12)) _ o1
    have o3 := belowI_ok rows _ 5 o2
    have o4 := belowI_ok rows _ 90 o3
    have ha := twoA_len rows
    have b1 := below_range rows (belowI rows (textI rows (textN (below rows 0 (newH rows) 12)) (belowI rows 0 12)) 5) (belowH (textH (textN (below rows 0 (newH rows) 12)) (belowH (newH rows) 12)) 5) 90 (by omega)
    have b2 := below_range rows (belowI rows (belowI rows (textI rows (textN (below rows 0 (newH rows) 12)) (belowI rows 0 12)) 5) 90) (belowH (belowH (textH (textN (below rows 0 (newH rows) 12)) (belowH (newH rows) 12)) 5) 90) 100000 (by omega)
    have eA : curText rows (textN (below rows 0 (newH rows) 12)) (belowI rows 0 12) (belowH (newH rows) 12) = twoA rows := rfl
    have eS : below rows (textI rows (textN (below rows 0 (newH rows) 12)) (belowI rows 0 12)) (textH (textN (below rows 0 (newH rows) 12)) (belowH (newH rows) 12)) 5 = twoS rows := rfl
    rw [wrap64 (x := below rows (belowI rows (belowI rows (textI rows (textN (below rows 0 (newH rows) 12)) (belowI rows 0 12)) 5) 90) (belowH (belowH (textH (textN (below rows 0 (newH rows) 12)) (belowH (newH rows) 12)) 5) 90) 100000 * 40000) (by omega) (by omega), wrap64 (by omega) (by omega)]
    have l1 : decide ((twoA rows).length ≤ 1048576) = true := decide_eq_true (by omega)
    have l2 : ∀ x : Int, 0 ≤ x → x < 90 → (decide ((-9223372036854775808 : Int) ≤ x)) = true ∧ (decide (x ≤ (9223372036854775807 : Int))) = true := fun x h1 h2 => ⟨decide_eq_true (by omega), decide_eq_true (by omega)⟩
    have l3 := l2 _ b1.1 b1.2
    rw [eA, eS]
    by_cases s0 : twoS rows = 0
    · have eB : twoB rows = twoA rows := by unfold twoB; rw [if_pos s0]
      simp only [eval_must', eval_ask', eval_ret', h1, o1, o2, if_true, decide_eq_true_eq, s0, eB]
    · by_cases s1 : twoS rows = 1
      · have eB : twoB rows = cutOf (twoA rows) (below rows (twoI' rows) (twoH' rows) 12) := by unfold twoB; rw [if_neg s0, if_pos s1]
        have s1t := eq_true s1
        simp only [eval_must', eval_ask', eval_ret', h1, o1, o2, o3, if_true, decide_eq_true_eq, s0, s1t, if_false, eB]
        rfl
      · by_cases s2 : twoS rows = 2
        · have eB : twoB rows = curText rows (textN (twoA rows).length) (twoI' rows) (twoH' rows) := by unfold twoB; rw [if_neg s0, if_neg s1, if_pos s2]
          have s2t := eq_true s2
          simp only [eval_must', eval_ask', eval_ret', h1, o1, o2, o3, if_true, decide_eq_true_eq, s0, s1, s2t, if_false, eB]
          rfl
        · have eB : twoB rows = turnOf (twoA rows) (below rows (twoI' rows) (twoH' rows) 90) (1 + below rows (belowI rows (twoI' rows) 90) (belowH (twoH' rows) 90) 100000 * 40000) := by unfold twoB; rw [if_neg s0, if_neg s1, if_neg s2]
          simp only [eval_must', eval_ask', eval_ret', h1, o1, o2, o3, o4, l1, l3.1, l3.2, Bool.and_self, if_true, decide_eq_true_eq, s0, s1, s2, if_false, eB]
          rfl
  · cases h
theorem sDrawBitsChanged_E : EnvSound Try.prog E_sDrawBitsChanged := mkE_sound (by simp [sTwo_sound])
theorem sDrawBitsChanged_sound : Sound Try.prog 27 (⟨[pCode], [rS, rS], true⟩) twoSpec := vBody_sound sDrawBitsChanged_E noInl_ok Try.func27 (by kernel_rfl) fun cs outs hk h => by
  unfold twoSpec at h
  split at h
  · simp only [Option.some.injEq, Prod.mk.injEq] at h
    obtain ⟨h1, rfl⟩ := h
    rw [vBody_L, sDrawBitsChanged_tree]
    simp [eval_must', eval_ret', h1]
  · cases h

end Go.Proofs.Ythpamcbipmkimaa.V

namespace Go.Proofs.Ythpamcbipmkimaa.V
noncomputable section

def cnt (b c : List UInt8) : Nat → Int
  | 0 => 0
  | k + 1 => cnt b c k + (if dbit b c k then 1 else 0)
def turnAct (a m : Int) (len : Nat) (r : Nat) : Bool := decide (iand .i64 (ishr .i64 m r) 1 = 1 ∧ 0 ≤ a ∧ a + r < 8 * len)
def turnCount (a m : Int) (len : Nat) : Nat → Int
  | 0 => 0
  | r + 1 => turnCount a m len r + (if turnAct a m len r then 1 else 0)

def bigSpec : Spec := fun cs => match cs with
  | [.sl rows] => some (true, [.bool (decide (1048576 < rows.length))])
  | _ => none
def codeLaw : Spec := fun cs => match cs with
  | [.sl rows] => some (rowsOk [.int .u8] rows, [.bool true])
  | _ => none
def H_lFnBits (b c : List UInt8) (n : Int) (t : List UInt8) (a m k i : Int) : St := st0 [(3, wstr b), (4, wstr c), (5, int64 n), (6, wstr t), (7, int64 a), (8, int64 m), (9, int64 k), (10, int64 i)]
def E_lBig : Env := mkE [] []
def E_lFnBits : Env := mkE [(8, [3, 4, 5, 6, 7, 8, 9, 10])] [(31, (sg [pS, pI, pI] [rS]), turnSpec), (30, (sg [pS, pS] [rI]), (ss_spec bitsOf)), (28, (sg [pS, pS] [rI]), (ss_spec bitsOf)), (29, (⟨[pCode], [rS, rI, rI], true⟩), drawTurnSpec), (27, (⟨[pCode], [rS, rS], true⟩), twoSpec), (26, (sg [pCode] [rB]), bigSpec)]

end
end Go.Proofs.Ythpamcbipmkimaa.V

namespace Go.Proofs.Ythpamcbipmkimaa.V
set_option maxRecDepth 100000
theorem lBig_tree (H : List Pt → Nat → St → T (List C)) (r : List (List C)) : vBodyL E_lBig noInl (sg [pCode] [rB]) Try.f26 H [C.sl r] =
 (.must true
 (.ask (decide ((1048576 : Int) < (↑r.length : Int)))
  (.must true
   (.ret [C.bool true]))
  (.must true
   (.ret [C.bool false])))) := by kernel_rfl
theorem lFnBits_tree (H : List Pt → Nat → St → T (List C)) (r : List (List C)) : vBodyL E_lFnBits noInl (sg [pCode] [rB]) Try.f5 H [C.sl r] =
 (.must true
 (.must true
  (.must true
   (.must true
    (.ask (decide ((1048576 : Nat) < r.length))
     (.must true
      (.ret [C.bool true]))
     (.must true
      (.must (curOk r (0 : Int))
       (.must true
        (.must true
         (.must (decide ((twoA r).length ≤ (1048576 : Nat)) && decide ((twoB r).length ≤ (1048576 : Nat)))
          (.must true
           (.must true
            (.must (curOk r (0 : Int))
             (.must true
              (H [Pt.r, Pt.r, Pt.r, Pt.r, Pt.r, Pt.r, Pt.l, Pt.r, Pt.b] (9223372036854775808 : Nat) (H_lFnBits (twoA r) (twoB r) (bitsOf (twoA r) (twoB r)) (drawTurnT r) (drawTurnAt r) (drawTurnBits r) ((0 : Int)) ((0 : Int)))))))))))))))))) := by kernel_rfl
theorem lFnBits_round0 (H : List Pt → Nat → St → T (List C)) (b : List UInt8) (c : List UInt8) (n : Int) (t : List UInt8) (a : Int) (q : Int) (j : Int) (i : Int) (k : Nat) : vRound E_lFnBits noInl (sg [pCode] [rB]) Try.f5 H [Pt.r, Pt.r, Pt.r, Pt.r, Pt.r, Pt.r, Pt.l, Pt.r, Pt.b] k
  (H_lFnBits b c n t a q j i) =
 (.ask (decide (i < (32 : Int)))
 (.must (decide ((0 : Int) ≤ IntKind.u64.wrap i))
  (.ask (decide (iand IntKind.i64 (ishr IntKind.i64 q (IntKind.u64.wrap i)) (1 : Int) = (1 : Int)))
   (.ask (decide ((0 : Int) ≤ a))
    (.ask (decide (a < IntKind.i64.wrap (IntKind.i64.wrap ((8 : Int) * (↑t.length : Int)) - i)))
     (H [Pt.r, Pt.r, Pt.r, Pt.r, Pt.r, Pt.r, Pt.l, Pt.r, Pt.b] k (H_lFnBits (b) (c) (n) (t) (a) (q) (IntKind.i64.wrap (j + (1 : Int))) (IntKind.i64.wrap (i + (1 : Int)))))
     (H [Pt.r, Pt.r, Pt.r, Pt.r, Pt.r, Pt.r, Pt.l, Pt.r, Pt.b] k (H_lFnBits (b) (c) (n) (t) (a) (q) (j) (IntKind.i64.wrap (i + (1 : Int))))))
    (H [Pt.r, Pt.r, Pt.r, Pt.r, Pt.r, Pt.r, Pt.l, Pt.r, Pt.b] k (H_lFnBits (b) (c) (n) (t) (a) (q) (j) (IntKind.i64.wrap (i + (1 : Int))))))
   (H [Pt.r, Pt.r, Pt.r, Pt.r, Pt.r, Pt.r, Pt.l, Pt.r, Pt.b] k (H_lFnBits (b) (c) (n) (t) (a) (q) (j) (IntKind.i64.wrap (i + (1 : Int)))))))
 (.must true
  (.must (decide (b.length ≤ (1048576 : Nat)) && decide (c.length ≤ (1048576 : Nat)))
   (.must true
    (.ask (decide (n = bitsOf b c))
     (.must true
      (.must (decide (c.length ≤ (1048576 : Nat)) && decide (b.length ≤ (1048576 : Nat)))
       (.must true
        (.ask (decide (n = bitsOf c b))
         (.must true
          (.must (decide (t.length ≤ (1048576 : Nat)) && decide ((-9223372036854775808 : Int) ≤ a) &&
  decide (a ≤ (9223372036854775807 : Int)))
           (.must true
            (.must true
             (.must (decide (t.length ≤ (1048576 : Nat)) && decide ((turnOf t a q).length ≤ (1048576 : Nat)))
              (.must true
               (.ask (decide (bitsOf t (turnOf t a q) = j))
                (.must true
                 (.must true
                  (.must true
                   (.ask true
                    (.must true
                     (.ret [C.bool true]))
                    (.must true
                     (.ret [C.bool false]))))))
                (.must true
                 (.ret [C.bool false])))))))))
         (.must true
          (.ret [C.bool false]))))))
     (.must true
      (.ret [C.bool false]))))))) := by kernel_rfl
end Go.Proofs.Ythpamcbipmkimaa.V

namespace Go.Proofs.Ythpamcbipmkimaa.V

theorem count_fin : ∀ x : Fin 256, bitCount 8 ((x.val : Nat) : Int) = (if ((x.val : Nat) : Int) / 2 ^ 0 % 2 = 1 then 1 else 0) + (if ((x.val : Nat) : Int) / 2 ^ 1 % 2 = 1 then 1 else 0) + (if ((x.val : Nat) : Int) / 2 ^ 2 % 2 = 1 then 1 else 0) + (if ((x.val : Nat) : Int) / 2 ^ 3 % 2 = 1 then 1 else 0) + (if ((x.val : Nat) : Int) / 2 ^ 4 % 2 = 1 then 1 else 0) + (if ((x.val : Nat) : Int) / 2 ^ 5 % 2 = 1 then 1 else 0) + (if ((x.val : Nat) : Int) / 2 ^ 6 % 2 = 1 then 1 else 0) + (if ((x.val : Nat) : Int) / 2 ^ 7 % 2 = 1 then 1 else 0) := by decide +kernel
theorem count_of (x : Int) (h1 : 0 ≤ x) (h2 : x ≤ 255) : bitCount 8 x = (if x / 2 ^ 0 % 2 = 1 then 1 else 0) + (if x / 2 ^ 1 % 2 = 1 then 1 else 0) + (if x / 2 ^ 2 % 2 = 1 then 1 else 0) + (if x / 2 ^ 3 % 2 = 1 then 1 else 0) + (if x / 2 ^ 4 % 2 = 1 then 1 else 0) + (if x / 2 ^ 5 % 2 = 1 then 1 else 0) + (if x / 2 ^ 6 % 2 = 1 then 1 else 0) + (if x / 2 ^ 7 % 2 = 1 then 1 else 0) := by
  obtain ⟨n, rfl⟩ := Int.eq_ofNat_of_zero_le h1
  exact count_fin ⟨n, by omega⟩
theorem dbit_at (b c : List UInt8) (i p : Nat) (hp : p < 8) : (if dbit b c (8 * i + p) then (1 : Int) else 0) = if ixor .u8 (b.getD i 0).toNat (c.getD i 0).toNat / 2 ^ p % 2 = 1 then 1 else 0 := by
  have e1 : (8 * i + p) / 8 = i := by omega
  have e2 : (8 * i + p) % 8 = p := by omega
  simp only [dbit, e1, e2, decide_eq_true_eq]
theorem bitsTo_cnt (b c : List UInt8) : ∀ i, bitsTo b c i = cnt b c (8 * i)
  | 0 => rfl
  | i + 1 => by
    have x := ixor8_range ((b.getD i 0).toNat : Int) ((c.getD i 0).toNat : Int)
    have e : 8 * (i + 1) = 8 * i + 7 + 1 := by omega
    rw [bitsTo, bitsTo_cnt b c i, count_of _ x.1 x.2, e]
    simp only [cnt]
    have d := dbit_at b c i
    have d0 := d 0 (by omega); have d1 := d 1 (by omega); have d2 := d 2 (by omega); have d3 := d 3 (by omega)
    have d4 := d 4 (by omega); have d5 := d 5 (by omega); have d6 := d 6 (by omega); have d7 := d 7 (by omega)
    rw [Nat.add_zero] at d0
    rw [d0, d1, d2, d3, d4, d5, d6, d7]
    omega
theorem ixor8_comm (x y : Int) : ixor .u8 x y = ixor .u8 y x := by unfold ixor; rw [BitVec.xor_comm]
theorem bitsOf_comm (b c : List UInt8) : bitsOf b c = bitsOf c b := by
  have : ∀ i, bitsTo b c i = bitsTo c b i := by
    intro i
    induction i with
    | zero => rfl
    | succ i ih => simp only [bitsTo, ih, ixor8_comm]
  unfold bitsOf
  rw [this, Nat.min_comm, Nat.max_comm]
theorem flip_fin : ∀ x : Fin 256, ∀ p q : Fin 8, (decide ((((x.val ^^^ 2 ^ p.val : Nat) : Int)) / 2 ^ q.val % 2 = 1)) = if p = q then !decide (((x.val : Nat) : Int) / 2 ^ q.val % 2 = 1) else decide (((x.val : Nat) : Int) / 2 ^ q.val % 2 = 1) := by decide +kernel
theorem cnt_same (b c d : List UInt8) : ∀ n, (∀ k, k < n → dbit b d k = dbit b c k) → cnt b d n = cnt b c n
  | 0, _ => rfl
  | n + 1, h => by simp only [cnt, cnt_same b c d n (fun k hk => h k (by omega)), h n (by omega)]
theorem cnt_flip (b c d : List UInt8) (k0 : Nat) (h0 : dbit b c k0 = false) (h1 : dbit b d k0 = true) : ∀ n, k0 < n → (∀ k, k < n → k ≠ k0 → dbit b d k = dbit b c k) → cnt b d n = cnt b c n + 1
  | 0, h, _ => by omega
  | n + 1, h, hs => by
    simp only [cnt]
    by_cases hn : k0 = n
    · subst hn
      rw [cnt_same b c d k0 (fun k hk => hs k (by omega) (by omega)), h0, h1]
      simp
    · rw [cnt_flip b c d k0 h0 h1 n (by omega) (fun k hk hne => hs k (by omega) hne), hs n (by omega) (fun h => hn h.symm)]
      omega
theorem dbit_turn (t u : List UInt8) (a m : Int) (i : Nat) (hact : turnAct a m u.length i = true) (k : Nat) :
    dbit t (turnStep a m u i) k = if (a + i).toNat = k then !dbit t u k else dbit t u k := by
  simp only [turnAct, decide_eq_true_eq] at hact
  obtain ⟨h1, h2, h3⟩ := hact
  obtain ⟨a, rfl⟩ := Int.eq_ofNat_of_zero_le h2
  have e0 : ((a : Int) + i).toNat = a + i := by omega
  have e1 : (((a : Int) + i) / 8).toNat = (a + i) / 8 := by omega
  have e2 : ((a : Int) + i) % 8 = (((a + i) % 8 : Nat) : Int) := by omega
  have hj : (a + i) / 8 < u.length := by omega
  have hsh : ishl .u8 1 (((a + i) % 8 : Nat) : Int) = ((2 ^ ((a + i) % 8) : Nat) : Int) := by
    show IntKind.u8.wrap (1 * 2 ^ (min ((((a + i) % 8 : Nat) : Int).toNat) 8)) = _
    have : min ((((a + i) % 8 : Nat) : Int).toNat) 8 = (a + i) % 8 := by omega
    rw [this]
    have : 2 ^ ((a + i) % 8) ≤ 2 ^ 7 := Nat.pow_le_pow_right (by omega) (by omega)
    rw [wrapU8]
    · simp
    · simp; exact Int.pow_nonneg (by omega)
    · have h : ((2 ^ ((a + i) % 8) : Nat) : Int) ≤ 128 := by omega
      simpa using (by omega : ((2 ^ ((a + i) % 8) : Nat) : Int) ≤ 255)
  unfold turnStep
  rw [if_pos ⟨h1, h2, h3⟩, e0, e1, e2, hsh]
  unfold dbit
  have hb := byte_lt u ((a + i) / 8)
  have ht := byte_lt t ((a + i) / 8)
  have hp : 2 ^ ((a + i) % 8) < 256 := by
    have : 2 ^ ((a + i) % 8) ≤ 2 ^ 7 := Nat.pow_le_pow_right (by omega) (by omega)
    omega
  by_cases hk : k / 8 = (a + i) / 8
  · have g : (u.set ((a + i) / 8) (UInt8.ofNat (ixor .u8 ((u.getD ((a + i) / 8) 0).toNat : Int) ((2 ^ ((a + i) % 8) : Nat) : Int)).toNat)).getD (k / 8) 0 = UInt8.ofNat (ixor .u8 ((u.getD ((a + i) / 8) 0).toNat : Int) ((2 ^ ((a + i) % 8) : Nat) : Int)).toNat := by
      rw [hk]; simp [List.getD_eq_getElem?_getD, hj]
    rw [g, hk, ixor8_nat _ _ hb hp, Int.toNat_natCast]
    have hx : (u.getD ((a + i) / 8) 0).toNat ^^^ 2 ^ ((a + i) % 8) < 256 := Nat.xor_lt_two_pow (n := 8) hb hp
    rw [UInt8.toNat_ofNat_of_lt' (by show _ < 256; exact hx), ixor8_nat _ _ ht hx, ← Nat.xor_assoc, ixor8_nat _ _ ht hb]
    have hy : (t.getD ((a + i) / 8) 0).toNat ^^^ (u.getD ((a + i) / 8) 0).toNat < 256 := Nat.xor_lt_two_pow (n := 8) ht hb
    have := flip_fin ⟨_, hy⟩ ⟨(a + i) % 8, by omega⟩ ⟨k % 8, by omega⟩
    simp only [Fin.mk.injEq] at this
    rw [this]
    by_cases hq : (a + i) % 8 = k % 8
    · have : a + i = k := by omega
      rw [if_pos hq, if_pos this]
    · have : ¬ a + i = k := fun h => hq (by rw [h])
      rw [if_neg hq, if_neg this]
  · have g : (u.set ((a + i) / 8) (UInt8.ofNat (ixor .u8 ((u.getD ((a + i) / 8) 0).toNat : Int) ((2 ^ ((a + i) % 8) : Nat) : Int)).toNat)).getD (k / 8) 0 = u.getD (k / 8) 0 := by
      simp [List.getD_eq_getElem?_getD, List.getElem?_set, show ¬ (a + i) / 8 = k / 8 from fun h => hk h.symm]
    have : ¬ a + i = k := fun h => hk (by rw [h])
    rw [g, if_neg this]
theorem turn_clear (t : List UInt8) (a m : Int) (ha : 0 ≤ a) : ∀ i k : Nat, a + i ≤ k → dbit t (turnTo t a m i) k = false
  | 0, k, _ => dbit_same t t k rfl
  | i + 1, k, h => by
    have ih := turn_clear t a m ha i k (by omega)
    rw [turnTo_succ]
    cases hact : turnAct a m (turnTo t a m i).length i with
    | true =>
      rw [dbit_turn t _ a m i hact k, if_neg (by omega)]
      exact ih
    | false =>
      have : turnStep a m (turnTo t a m i) i = turnTo t a m i := by
        unfold turnStep
        rw [if_neg]
        intro h
        have : turnAct a m (turnTo t a m i).length i = true := by unfold turnAct; exact decide_eq_true h
        rw [hact] at this; cases this
      rw [this]; exact ih
theorem turn_cnt (t : List UInt8) (a m : Int) : ∀ i : Nat, cnt t (turnTo t a m i) (8 * t.length) = turnCount a m t.length i
  | 0 => by
    have : ∀ n, cnt t t n = 0 := by
      intro n
      induction n with
      | zero => rfl
      | succ n ih => simp only [cnt, ih, dbit_same t t n rfl]; simp
    exact this _
  | i + 1 => by
    have ih := turn_cnt t a m i
    have hl := turnTo_length t a m i
    rw [turnTo_succ]
    simp only [turnCount]
    rw [← ih]
    cases hact : turnAct a m t.length i with
    | true =>
      have hact' : turnAct a m (turnTo t a m i).length i = true := by rw [hl]; exact hact
      have hh := hact
      simp only [turnAct, decide_eq_true_eq] at hh
      have h0 := turn_clear t a m hh.2.1 i (a + i).toNat (by omega)
      rw [cnt_flip t (turnTo t a m i) (turnStep a m (turnTo t a m i) i) (a + i).toNat h0 (by rw [dbit_turn t _ a m i hact', if_pos rfl, h0]; rfl) _ (by omega) (fun k _ hk => by rw [dbit_turn t _ a m i hact', if_neg (fun h => hk h.symm)])]
      simp
    | false =>
      have : turnStep a m (turnTo t a m i) i = turnTo t a m i := by
        unfold turnStep
        rw [if_neg]
        intro h
        rw [hl] at h
        have : turnAct a m t.length i = true := by unfold turnAct; exact decide_eq_true h
        rw [hact] at this; cases this
      rw [this]; simp
theorem turn_bits (t : List UInt8) (a m : Int) : bitsOf t (turnOf t a m) = turnCount a m t.length 32 := by
  have hl : (turnOf t a m).length = t.length := turnTo_length t a m 32
  unfold bitsOf
  rw [hl, Nat.min_self, Nat.max_self, Nat.sub_self, bitsTo_cnt]
  have := turn_cnt t a m 32
  simpa [turnOf, turnTo] using this

theorem lBig_E : EnvSound Try.prog E_lBig := mkE_sound (by simp [])
theorem lBig_sound : Sound Try.prog 26 (sg [pCode] [rB]) bigSpec := vBody_sound lBig_E noInl_ok Try.func26 (by kernel_rfl) fun cs outs hk h => by
  unfold bigSpec at h
  split at h
  · simp only [Option.some.injEq, Prod.mk.injEq, true_and] at h
    rename_i rows
    rw [← h, vBody_L, lBig_tree]
    by_cases hb : 1048576 < rows.length
    · have : (1048576 : Int) < rows.length := by omega
      simp [eval_must', eval_ask', eval_ret', hb, this]
    · have : ¬ (1048576 : Int) < rows.length := by omega
      simp [eval_must', eval_ask', eval_ret', hb, this]
  · cases h
theorem bits_a : bitsOf [97] [] = 8 := by decide +kernel
theorem turnCount_range (a m : Int) (len : Nat) : ∀ i : Nat, 0 ≤ turnCount a m len i ∧ turnCount a m len i ≤ i
  | 0 => by simp [turnCount]
  | i + 1 => by simp only [turnCount]; have := turnCount_range a m len i; split <;> omega
theorem lFnBits_loop (b c t : List UInt8) (a m : Int) (hb : b.length ≤ 1048576) (hc : c.length ≤ 1048576) (ht : t.length ≤ 1048576) (ha1 : -9223372036854775808 ≤ a) (ha2 : a ≤ 9223372036854775807) : ∀ (n i : Nat), i ≤ 32 → 32 < i + n →
    (vLoop E_lFnBits noInl (sg [pCode] [rB]) Try.f5 [.r, .r, .r, .r, .r, .r, .l, .r, .b] n (H_lFnBits b c (bitsOf b c) t a m (turnCount a m t.length i) i)).eval = some [.bool true] := by
  intro n
  induction n with
  | zero => intro i h1 h2; omega
  | succ n ih =>
    intro i h1 h2
    rw [vLoop_L _ _ _ _ _ _ _ (by kernel_rfl), lFnBits_round0]
    by_cases hi : i < 32
    · have e := ih (i + 1) (by omega) (by omega)
      simp only [turnCount] at e
      have hr := turnCount_range a m t.length i
      have w1 : IntKind.i64.wrap ((i : Int) + 1) = ((i + 1 : Nat) : Int) := by rw [wrap64] <;> omega
      have w2 : IntKind.u64.wrap (i : Int) = i := by rw [wrapU64] <;> omega
      have w3 : IntKind.i64.wrap (8 * (t.length : Int)) = 8 * (t.length : Int) := by rw [wrap64] <;> omega
      have w4 : IntKind.i64.wrap (8 * (t.length : Int) - i) = 8 * (t.length : Int) - i := by rw [wrap64] <;> omega
      have w5 : IntKind.i64.wrap (turnCount a m t.length i + 1) = turnCount a m t.length i + 1 := by rw [wrap64] <;> omega
      have hi' : (i : Int) < 32 := by omega
      have hz : (0 : Int) ≤ i := by omega
      simp only [eval_must', eval_ask', decide_eq_true_eq, if_true, w1, w2, w3, w4, w5, hi', hz]
      by_cases p1 : iand .i64 (ishr .i64 m i) 1 = 1
      · by_cases p2 : 0 ≤ a
        · by_cases p3 : a < 8 * (t.length : Int) - i
          · have ht : turnAct a m t.length i = true := decide_eq_true ⟨p1, p2, by omega⟩
            rw [ht] at e
            simp only [p1, p2, p3, if_true] at e ⊢
            exact e
          · have ht : turnAct a m t.length i = false := decide_eq_false (fun h => p3 (by omega))
            rw [ht] at e
            simp only [p1, p2, p3, if_true, if_false, Bool.false_eq_true, Int.add_zero] at e ⊢
            exact e
        · have ht : turnAct a m t.length i = false := decide_eq_false (fun h => p2 h.2.1)
          rw [ht] at e
          simp only [p1, p2, if_true, if_false, Bool.false_eq_true, Int.add_zero] at e ⊢
          exact e
      · have ht : turnAct a m t.length i = false := decide_eq_false (fun h => p1 h.1)
        rw [ht] at e
        simp only [p1, if_false, Bool.false_eq_true, Int.add_zero] at e ⊢
        exact e
    · have : i = 32 := by omega
      subst this
      have hlt : ¬ (((32 : Nat) : Int) < 32) := by omega
      have tb := turn_bits t a m
      have tl : (turnOf t a m).length = t.length := turnTo_length t a m 32
      have cm := bitsOf_comm b c
      simp only [eval_must', eval_ask', eval_ret', decide_eq_true_eq, Bool.and_eq_true, hlt, if_false, hb, hc, ht, ha1, ha2, and_self, if_true, ← cm, tb, tl]
theorem dtAtRange (rows : List (List C)) : -9223372036854775808 ≤ drawTurnAt rows ∧ drawTurnAt rows ≤ 9223372036854775807 := by
  have := dtAt_range rows (dtI rows 12 0 (newH rows)) (dtH rows 12 0 (newH rows))
  unfold drawTurnAt; omega
theorem lFnBits_E : EnvSound Try.prog E_lFnBits := mkE_sound (by simp [sTurnBits_sound, sBitsChanged_sound, iBitsChanged_sound, sDrawTurnBits_sound, sDrawBitsChanged_sound, lBig_sound])
theorem lFnBits_sound : Sound Try.prog 5 (sg [pCode] [rB]) codeLaw := vBody_sound lFnBits_E noInl_ok Try.func5 (by kernel_rfl) fun cs outs hk h => by
  unfold codeLaw at h
  split at h
  · simp only [Option.some.injEq, Prod.mk.injEq] at h
    obtain ⟨h1, rfl⟩ := h
    rename_i rows
    rw [vBody_L, lFnBits_tree]
    by_cases hb : 1048576 < rows.length
    · simp [eval_must', eval_ask', eval_ret', hb]
    · have hok : curOk rows 0 = true := (curOk_iff rows 0).2 ⟨h1, by omega, by omega, by omega⟩
      have la := twoA_len rows
      have lb := twoB_len rows
      have lt : (drawTurnT rows).length < 12 := by have := dtT_len rows 12 0 (newH rows) (by omega) (by omega); unfold drawTurnT; omega
      have ra := dtAtRange rows
      have lp := lFnBits_loop (twoA rows) (twoB rows) (drawTurnT rows) (drawTurnAt rows) (drawTurnBits rows) (by omega) (by omega) (by omega) ra.1 ra.2 9223372036854775808 0 (by omega) (by omega)
      have l1 : (twoA rows).length ≤ 1048576 := by omega
      have l2 : (twoB rows).length ≤ 1048576 := by omega
      simp only [eval_must', eval_ask', decide_eq_true_eq, Bool.and_eq_true, hb, if_false, if_true, hok, l1, l2, and_self]
      exact lp
  · cases h

end Go.Proofs.Ythpamcbipmkimaa.V

namespace Go.Proofs.Ythpamcbipmkimaa.V
noncomputable section

def drawCutT (rows : List (List C)) : List UInt8 := dtT rows 20 0 (newH rows)
def drawCutN (rows : List (List C)) : Int := ([0, 1, 5, ((drawCutT rows).length : Int), -1, 9223372036854775807] : List Int).getD (below rows (dtI rows 20 0 (newH rows)) (dtH rows 20 0 (newH rows)) 6).toNat 0
def drawCutSpec : Spec := fun cs => match cs with
  | [.sl rows] => some (curOk rows 0, [.str (drawCutT rows), .int .i64 (drawCutN rows)])
  | _ => none
def E_sDrawCutText : Env := mkD [] [(101, (⟨[pCur, pI], [rI], true⟩), belowSpec), (102, (⟨[pCur, pSl 3], [rI], true⟩), pickSpec), (100, (⟨[pCur, pI], [rS], true⟩), textSpec)]
def E_sDrawFirstChange : Env := mkE [] [(97, (⟨[pCode], [rS, rS], true⟩), twoSpec)]


def E_lFnTurned : Env := mkE [] [(56, (sg [pS, pI] [rS]), cutSpec), (55, (sg [pS, pI] [rS]), cutSpec), (31, (sg [pS, pI, pI] [rS]), turnSpec), (48, (sg [pS, pI, pI] [rS]), turnSpec), (53, (sg [pS, pS] [rI]), (ss_spec endOf)), (51, (sg [pS, pS] [rI]), (ss_spec endOf)), (52, (sg [pS, pS] [rI]), (ss_spec firstOf)), (50, (sg [pS, pS] [rI]), (ss_spec firstOf)), (19, (sg [pS, pS] [rB]), burstSpec), (20, (sg [pS, pS] [rB]), burstSpec), (29, (⟨[pCode], [rS, rI, rI], true⟩), drawTurnSpec), (26, (sg [pCode] [rB]), bigSpec), (54, (⟨[pCode], [rS, rI], true⟩), drawCutSpec), (49, (⟨[pCode], [rS, rS], true⟩), twoSpec)]

end
end Go.Proofs.Ythpamcbipmkimaa.V

namespace Go.Proofs.Ythpamcbipmkimaa.V
set_option maxRecDepth 100000
theorem sDrawCutText_tree (H : List Pt → Nat → St → T (List C)) (r : List (List C)) : vBodyL E_sDrawCutText (sumInl drawS) { params := [pCode], results := [rS, rI], nested := true } Try.f54 H [C.sl r] =
 (.must true
 (.must (curOk r (0 : Int))
  (.must true
   (.must (curOk r (0 : Int))
    (.must true
     (.must true
      (.must (curOk r (belowI r (0 : Int) (20 : Int)))
       (.must true
        (.must true
         (.must (curOk r (textI r (textN (below r (0 : Int) (newH r) (20 : Int))) (belowI r (0 : Int) (20 : Int))) &&
  (rowsOk [K.int IntKind.i64]
      [[C.int IntKind.i64 (0 : Int)], [C.int IntKind.i64 (1 : Int)], [C.int IntKind.i64 (5 : Int)],
        [C.int IntKind.i64
            (↑(curText r (textN (below r (0 : Int) (newH r) (20 : Int))) (belowI r (0 : Int) (20 : Int))
                    (belowH (newH r) (20 : Int))).length :
              Int)],
        [C.int IntKind.i64 (-1 : Int)], [C.int IntKind.i64 (9223372036854775807 : Int)]] &&
    (decide ((0 : Nat) < (((Nat.add (3 : Nat) (0 : Nat)).succ.add (0 : Nat)).succ.add (0 : Nat)).succ) &&
      decide ((((Nat.add (3 : Nat) (0 : Nat)).succ.add (0 : Nat)).succ.add (0 : Nat)).succ ≤ (1048576 : Nat)))))
          (.must true
           (.must true
            (.ret [C.str
    (curText r (textN (below r (0 : Int) (newH r) (20 : Int))) (belowI r (0 : Int) (20 : Int))
      (belowH (newH r) (20 : Int))),
  C.int IntKind.i64
    ((ints
          [[C.int IntKind.i64 (0 : Int)], [C.int IntKind.i64 (1 : Int)], [C.int IntKind.i64 (5 : Int)],
            [C.int IntKind.i64
                (↑(curText r (textN (below r (0 : Int) (newH r) (20 : Int))) (belowI r (0 : Int) (20 : Int))
                        (belowH (newH r) (20 : Int))).length :
                  Int)],
            [C.int IntKind.i64 (-1 : Int)], [C.int IntKind.i64 (9223372036854775807 : Int)]]).getD
      (below r (textI r (textN (below r (0 : Int) (newH r) (20 : Int))) (belowI r (0 : Int) (20 : Int)))
          (textH (textN (below r (0 : Int) (newH r) (20 : Int))) (belowH (newH r) (20 : Int)))
          (↑(((Nat.add (3 : Nat) (0 : Nat)).succ.add (0 : Nat)).succ.add (0 : Nat)).succ : Int)).toNat
      (0 : Int))]))))))))))))) := by kernel_rfl
theorem sDrawFirstChange_tree (H : List Pt → Nat → St → T (List C)) (r : List (List C)) : vBodyL E_sDrawFirstChange noInl { params := [pCode], results := [rS, rS], nested := true } Try.f49 H [C.sl r] =
 (.must true
 (.must true
  (.must (curOk r (0 : Int))
   (.must true
    (.must true
     (.ret [C.str (twoA r), C.str (twoB r)])))))) := by kernel_rfl
theorem lFnTurned_tree (H : List Pt → Nat → St → T (List C)) (r : List (List C)) : (vBodyL E_lFnTurned noInl (sg [pCode] [rB]) Try.f9 H [C.sl r]).eval =
 ((.ask (decide ((1048576 : Nat) < r.length))
 (.ret [C.bool true])
 (.must (curOk r (0 : Int))
  (.must (decide ((drawTurnT r).length ≤ (1048576 : Nat)) && decide ((-9223372036854775808 : Int) ≤ drawTurnAt r) &&
  decide (drawTurnAt r ≤ (9223372036854775807 : Int)))
   (.must (decide ((drawTurnT r).length ≤ (1048576 : Nat)) && decide ((-9223372036854775808 : Int) ≤ drawTurnAt r) &&
  decide (drawTurnAt r ≤ (9223372036854775807 : Int)))
    (.ask (!turnOf (drawTurnT r) (drawTurnAt r) (drawTurnBits r) == turnOf (drawTurnT r) (drawTurnAt r) (drawTurnBits r))
     (.ret [C.bool false])
     (.must (decide ((turnOf (drawTurnT r) (drawTurnAt r) (drawTurnBits r)).length ≤ (1048576 : Nat)) &&
    decide ((-9223372036854775808 : Int) ≤ drawTurnAt r) &&
  decide (drawTurnAt r ≤ (9223372036854775807 : Int)))
      (.ask (!turnOf (turnOf (drawTurnT r) (drawTurnAt r) (drawTurnBits r)) (drawTurnAt r) (drawTurnBits r) == drawTurnT r)
       (.ret [C.bool false])
       (.must (curOk r (0 : Int))
        (.must (decide ((twoA r).length ≤ (1048576 : Nat)) && decide ((twoB r).length ≤ (1048576 : Nat)))
         (.must (decide ((twoA r).length ≤ (1048576 : Nat)) && decide ((twoB r).length ≤ (1048576 : Nat)))
          (.must (decide ((twoA r).length ≤ (1048576 : Nat)) && decide ((twoB r).length ≤ (1048576 : Nat)))
           (.ask (firstOf (twoA r) (twoB r) != firstOf (twoA r) (twoB r))
            (.ret [C.bool false])
            (.must (decide ((twoA r).length ≤ (1048576 : Nat)) && decide ((twoB r).length ≤ (1048576 : Nat)))
             (.ask (endOf (twoA r) (twoB r) != endOf (twoA r) (twoB r))
              (.ret [C.bool false])
              (.must (decide ((twoA r).length ≤ (1048576 : Nat)) && decide ((twoB r).length ≤ (1048576 : Nat)))
               (.ask (isBurst (twoA r) (twoB r))
                (.must (decide ((twoA r).length ≤ (1048576 : Nat)) && decide ((twoB r).length ≤ (1048576 : Nat)))
                 (.ask (isBurst (twoA r) (twoB r))
                  (.must (curOk r (0 : Int))
                   (.ask (turnOf (drawTurnT r) (drawTurnAt r) (drawTurnBits r) == drawTurnT r)
                    (.ask (decide ((0 : Int) ≤ firstOf (twoA r) (twoB r)))
                     (.ask (!twoA r == twoB r)
                      (.ask (!twoA r == twoB r)
                       (.ask (cutOf (drawCutT r) (drawCutN r) == cutOf (drawCutT r) (drawCutN r))
                        (.ask (decide ((↑(cutOf (drawCutT r) (drawCutN r)).length : Int) ≤ (↑(drawCutT r).length : Int)))
                         (.ret [C.bool true])
                         (.ret [C.bool false]))
                        (.ret [C.bool false]))
                       (.ask (decide (endOf (twoA r) (twoB r) = (0 : Int)))
                        (.ask (cutOf (drawCutT r) (drawCutN r) == cutOf (drawCutT r) (drawCutN r))
                         (.ask (decide ((↑(cutOf (drawCutT r) (drawCutN r)).length : Int) ≤ (↑(drawCutT r).length : Int)))
                          (.ret [C.bool true])
                          (.ret [C.bool false]))
                         (.ret [C.bool false]))
                        (.ret [C.bool false])))
                      (.ret [C.bool false]))
                     (.ask (!twoA r == twoB r)
                      (.ret [C.bool false])
                      (.ask (!twoA r == twoB r)
                       (.ask (cutOf (drawCutT r) (drawCutN r) == cutOf (drawCutT r) (drawCutN r))
                        (.ask (decide ((↑(cutOf (drawCutT r) (drawCutN r)).length : Int) ≤ (↑(drawCutT r).length : Int)))
                         (.ret [C.bool true])
                         (.ret [C.bool false]))
                        (.ret [C.bool false]))
                       (.ask (decide (endOf (twoA r) (twoB r) = (0 : Int)))
                        (.ask (cutOf (drawCutT r) (drawCutN r) == cutOf (drawCutT r) (drawCutN r))
                         (.ask (decide ((↑(cutOf (drawCutT r) (drawCutN r)).length : Int) ≤ (↑(drawCutT r).length : Int)))
                          (.ret [C.bool true])
                          (.ret [C.bool false]))
                         (.ret [C.bool false]))
                        (.ret [C.bool false])))))
                    (.must (decide ((drawTurnT r).length ≤ (1048576 : Nat)) &&
  decide ((turnOf (drawTurnT r) (drawTurnAt r) (drawTurnBits r)).length ≤ (1048576 : Nat)))
                     (.ask (isBurst (drawTurnT r) (turnOf (drawTurnT r) (drawTurnAt r) (drawTurnBits r)))
                      (.ask (decide ((0 : Int) ≤ firstOf (twoA r) (twoB r)))
                       (.ask (!twoA r == twoB r)
                        (.ask (!twoA r == twoB r)
                         (.ask (cutOf (drawCutT r) (drawCutN r) == cutOf (drawCutT r) (drawCutN r))
                          (.ask (decide ((↑(cutOf (drawCutT r) (drawCutN r)).length : Int) ≤ (↑(drawCutT r).length : Int)))
                           (.ret [C.bool true])
                           (.ret [C.bool false]))
                          (.ret [C.bool false]))
                         (.ask (decide (endOf (twoA r) (twoB r) = (0 : Int)))
                          (.ask (cutOf (drawCutT r) (drawCutN r) == cutOf (drawCutT r) (drawCutN r))
                           (.ask (decide ((↑(cutOf (drawCutT r) (drawCutN r)).length : Int) ≤ (↑(drawCutT r).length : Int)))
                            (.ret [C.bool true])
                            (.ret [C.bool false]))
                           (.ret [C.bool false]))
                          (.ret [C.bool false])))
                        (.ret [C.bool false]))
                       (.ask (!twoA r == twoB r)
                        (.ret [C.bool false])
                        (.ask (!twoA r == twoB r)
                         (.ask (cutOf (drawCutT r) (drawCutN r) == cutOf (drawCutT r) (drawCutN r))
                          (.ask (decide ((↑(cutOf (drawCutT r) (drawCutN r)).length : Int) ≤ (↑(drawCutT r).length : Int)))
                           (.ret [C.bool true])
                           (.ret [C.bool false]))
                          (.ret [C.bool false]))
                         (.ask (decide (endOf (twoA r) (twoB r) = (0 : Int)))
                          (.ask (cutOf (drawCutT r) (drawCutN r) == cutOf (drawCutT r) (drawCutN r))
                           (.ask (decide ((↑(cutOf (drawCutT r) (drawCutN r)).length : Int) ≤ (↑(drawCutT r).length : Int)))
                            (.ret [C.bool true])
                            (.ret [C.bool false]))
                           (.ret [C.bool false]))
                          (.ret [C.bool false])))))
                      (.ret [C.bool false])))))
                  (.ret [C.bool false])))
                (.must (decide ((twoA r).length ≤ (1048576 : Nat)) && decide ((twoB r).length ≤ (1048576 : Nat)))
                 (.ask (isBurst (twoA r) (twoB r))
                  (.ret [C.bool false])
                  (.must (curOk r (0 : Int))
                   (.ask (turnOf (drawTurnT r) (drawTurnAt r) (drawTurnBits r) == drawTurnT r)
                    (.ask (decide ((0 : Int) ≤ firstOf (twoA r) (twoB r)))
                     (.ask (!twoA r == twoB r)
                      (.ask (!twoA r == twoB r)
                       (.ask (cutOf (drawCutT r) (drawCutN r) == cutOf (drawCutT r) (drawCutN r))
                        (.ask (decide ((↑(cutOf (drawCutT r) (drawCutN r)).length : Int) ≤ (↑(drawCutT r).length : Int)))
                         (.ret [C.bool true])
                         (.ret [C.bool false]))
                        (.ret [C.bool false]))
                       (.ask (decide (endOf (twoA r) (twoB r) = (0 : Int)))
                        (.ask (cutOf (drawCutT r) (drawCutN r) == cutOf (drawCutT r) (drawCutN r))
                         (.ask (decide ((↑(cutOf (drawCutT r) (drawCutN r)).length : Int) ≤ (↑(drawCutT r).length : Int)))
                          (.ret [C.bool true])
                          (.ret [C.bool false]))
                         (.ret [C.bool false]))
                        (.ret [C.bool false])))
                      (.ret [C.bool false]))
                     (.ask (!twoA r == twoB r)
                      (.ret [C.bool false])
                      (.ask (!twoA r == twoB r)
                       (.ask (cutOf (drawCutT r) (drawCutN r) == cutOf (drawCutT r) (drawCutN r))
                        (.ask (decide ((↑(cutOf (drawCutT r) (drawCutN r)).length : Int) ≤ (↑(drawCutT r).length : Int)))
                         (.ret [C.bool true])
                         (.ret [C.bool false]))
                        (.ret [C.bool false]))
                       (.ask (decide (endOf (twoA r) (twoB r) = (0 : Int)))
                        (.ask (cutOf (drawCutT r) (drawCutN r) == cutOf (drawCutT r) (drawCutN r))
                         (.ask (decide ((↑(cutOf (drawCutT r) (drawCutN r)).length : Int) ≤ (↑(drawCutT r).length : Int)))
                          (.ret [C.bool true])
                          (.ret [C.bool false]))
                         (.ret [C.bool false]))
                        (.ret [C.bool false])))))
                    (.must (decide ((drawTurnT r).length ≤ (1048576 : Nat)) &&
  decide ((turnOf (drawTurnT r) (drawTurnAt r) (drawTurnBits r)).length ≤ (1048576 : Nat)))
                     (.ask (isBurst (drawTurnT r) (turnOf (drawTurnT r) (drawTurnAt r) (drawTurnBits r)))
                      (.ask (decide ((0 : Int) ≤ firstOf (twoA r) (twoB r)))
                       (.ask (!twoA r == twoB r)
                        (.ask (!twoA r == twoB r)
                         (.ask (cutOf (drawCutT r) (drawCutN r) == cutOf (drawCutT r) (drawCutN r))
                          (.ask (decide ((↑(cutOf (drawCutT r) (drawCutN r)).length : Int) ≤ (↑(drawCutT r).length : Int)))
                           (.ret [C.bool true])
                           (.ret [C.bool false]))
                          (.ret [C.bool false]))
                         (.ask (decide (endOf (twoA r) (twoB r) = (0 : Int)))
                          (.ask (cutOf (drawCutT r) (drawCutN r) == cutOf (drawCutT r) (drawCutN r))
                           (.ask (decide ((↑(cutOf (drawCutT r) (drawCutN r)).length : Int) ≤ (↑(drawCutT r).length : Int)))
                            (.ret [C.bool true])
                            (.ret [C.bool false]))
                           (.ret [C.bool false]))
                          (.ret [C.bool false])))
                        (.ret [C.bool false]))
                       (.ask (!twoA r == twoB r)
                        (.ret [C.bool false])
                        (.ask (!twoA r == twoB r)
                         (.ask (cutOf (drawCutT r) (drawCutN r) == cutOf (drawCutT r) (drawCutN r))
                          (.ask (decide ((↑(cutOf (drawCutT r) (drawCutN r)).length : Int) ≤ (↑(drawCutT r).length : Int)))
                           (.ret [C.bool true])
                           (.ret [C.bool false]))
                          (.ret [C.bool false]))
                         (.ask (decide (endOf (twoA r) (twoB r) = (0 : Int)))
                          (.ask (cutOf (drawCutT r) (drawCutN r) == cutOf (drawCutT r) (drawCutN r))
                           (.ask (decide ((↑(cutOf (drawCutT r) (drawCutN r)).length : Int) ≤ (↑(drawCutT r).length : Int)))
                            (.ret [C.bool true])
                            (.ret [C.bool false]))
                           (.ret [C.bool false]))
                          (.ret [C.bool false])))))
                      (.ret [C.bool false]))))))))))))))))))))))) : T (List C)).eval := evalEq (by kernel_rfl)
end Go.Proofs.Ythpamcbipmkimaa.V

namespace Go.Proofs.Ythpamcbipmkimaa.V

theorem sDrawFirstChange_E : EnvSound Try.prog E_sDrawFirstChange := mkE_sound (by simp [sTwo_sound])
theorem sDrawFirstChange_sound : Sound Try.prog 49 (⟨[pCode], [rS, rS], true⟩) twoSpec := vBody_sound sDrawFirstChange_E noInl_ok Try.func49 (by kernel_rfl) fun cs outs hk h => by
  unfold twoSpec at h
  split at h
  · simp only [Option.some.injEq, Prod.mk.injEq] at h
    obtain ⟨h1, rfl⟩ := h
    rw [vBody_L, sDrawFirstChange_tree]
    simp [eval_must', eval_ret', h1]
  · cases h
theorem sDrawCutText_E : EnvSound Try.prog E_sDrawCutText := mkD_sound (by simp [sBelow_sound, sPickInt_sound, sText_sound])
theorem sDrawCutText_sound : Sound Try.prog 54 (⟨[pCode], [rS, rI], true⟩) drawCutSpec := vBody_sound sDrawCutText_E (sumInl_ok drawS_ok) Try.func54 (by kernel_rfl) fun cs outs hk h => by
  unfold drawCutSpec at h
  split at h
  · simp only [Option.some.injEq, Prod.mk.injEq] at h
    obtain ⟨h1, rfl⟩ := h
    rename_i rows
    rw [vBody_L, sDrawCutText_tree]
    have o1 := belowI_ok rows 0 20 h1
    have o2 := textI_ok rows (textN (below rows 0 (newH rows) 20)) _ o1
    have q6 : ((6 : Nat) : Int) = 6 := rfl
    have ro : ∀ x : Int, rowsOk [K.int .i64] [[C.int .i64 0], [C.int .i64 1], [C.int .i64 5], [C.int .i64 x], [C.int .i64 (-1)], [C.int .i64 9223372036854775807]] = true := fun x => rfl
    rw [q6]
    simp only [eval_must', eval_ret', h1, o1, o2, ro, if_true, Bool.true_and]
    rfl
  · cases h

theorem turn_dbit (t : List UInt8) (a m : Int) (ha : 0 ≤ a) : ∀ (i k : Nat), dbit t (turnTo t a m i) k = decide (a ≤ k ∧ (k : Int) < a + i ∧ turnAct a m t.length (k - a).toNat = true)
  | 0, k => by
    have h : dbit t (turnTo t a m 0) k = false := dbit_same t t k rfl
    rw [h, eq_comm, decide_eq_false_iff_not]
    intro h; omega
  | i + 1, k => by
    have ih := turn_dbit t a m ha i k
    have hl := turnTo_length t a m i
    rw [turnTo_succ]
    cases hact : turnAct a m t.length i with
    | true =>
      have hact' : turnAct a m (turnTo t a m i).length i = true := by rw [hl]; exact hact
      rw [dbit_turn t _ a m i hact' k, ih]
      by_cases hk : (a + i).toNat = k
      · have e : (k - a).toNat = i := by omega
        rw [if_pos hk, e, hact]
        have h1 : ¬ ((k : Int) < a + i) := by omega
        have h2 : (k : Int) < a + ((i + 1 : Nat) : Int) := by omega
        have h3 : a ≤ (k : Int) := by omega
        have h2' : (k : Int) < a + ((i : Int) + 1) := by omega
        simp [h1, h2', h3]
      · rw [if_neg hk, decide_eq_decide]
        constructor
        · rintro ⟨p, q, r⟩; exact ⟨p, by omega, r⟩
        · rintro ⟨p, q, r⟩; exact ⟨p, by omega, r⟩
    | false =>
      have hs : turnStep a m (turnTo t a m i) i = turnTo t a m i := by
        unfold turnStep
        rw [if_neg]
        intro h
        rw [hl] at h
        have : turnAct a m t.length i = true := by unfold turnAct; exact decide_eq_true h
        rw [hact] at this; cases this
      rw [hs, ih, decide_eq_decide]
      constructor
      · rintro ⟨p, q, r⟩; exact ⟨p, by omega, r⟩
      · rintro ⟨p, q, r⟩
        refine ⟨p, ?_, r⟩
        by_cases he : (k : Int) = a + i
        · have e : (k - a).toNat = i := by omega
          rw [e, hact] at r; cases r
        · omega
theorem bit_test (x q : Nat) : decide ((x : Int) / 2 ^ q % 2 = 1) = x.testBit q := by
  rw [Nat.testBit_eq_decide_div_mod_eq, decide_eq_decide]
  have e : (x : Int) / 2 ^ q % 2 = ((x / 2 ^ q % 2 : Nat) : Int) := by simp
  rw [e]
  omega
theorem xor_fin (x y q : Nat) : decide (((x ^^^ y : Nat) : Int) / 2 ^ q % 2 = 1) = (decide ((x : Int) / 2 ^ q % 2 = 1) ^^ decide ((y : Int) / 2 ^ q % 2 = 1)) := by
  rw [bit_test, bit_test, bit_test, Nat.testBit_xor]
theorem zero_fin : ∀ x : Fin 256, (∀ q : Fin 8, decide (((x.val : Nat) : Int) / 2 ^ q.val % 2 = 1) = false) → x.val = 0 := by decide +kernel
theorem dbit_xor (b u w : List UInt8) (k : Nat) : dbit b w k = (dbit b u k ^^ dbit u w k) := by
  have hb := byte_lt b (k / 8)
  have hu := byte_lt u (k / 8)
  have hw := byte_lt w (k / 8)
  unfold dbit
  rw [ixor8_nat _ _ hb hw, ixor8_nat _ _ hb hu, ixor8_nat _ _ hu hw]
  have h1 : (b.getD (k / 8) 0).toNat ^^^ (u.getD (k / 8) 0).toNat < 256 := Nat.xor_lt_two_pow (n := 8) hb hu
  have h2 : (u.getD (k / 8) 0).toNat ^^^ (w.getD (k / 8) 0).toNat < 256 := Nat.xor_lt_two_pow (n := 8) hu hw
  have e : (b.getD (k / 8) 0).toNat ^^^ (w.getD (k / 8) 0).toNat = ((b.getD (k / 8) 0).toNat ^^^ (u.getD (k / 8) 0).toNat) ^^^ ((u.getD (k / 8) 0).toNat ^^^ (w.getD (k / 8) 0).toNat) := by
    rw [Nat.xor_assoc, ← Nat.xor_assoc (u.getD (k / 8) 0).toNat, Nat.xor_self, Nat.zero_xor]
  rw [e]
  exact xor_fin _ _ _
theorem dbit_eq (b c : List UInt8) (hl : b.length = c.length) (h : ∀ k, dbit b c k = false) : b = c := by
  apply List.ext_getElem hl
  intro i h1 h2
  have hb := byte_lt b i
  have hc := byte_lt c i
  have hx : (b.getD i 0).toNat ^^^ (c.getD i 0).toNat < 256 := Nat.xor_lt_two_pow (n := 8) hb hc
  have hz := zero_fin ⟨_, hx⟩ (fun q => by
    have hq := q.isLt
    have := h (8 * i + q.val)
    unfold dbit at this
    rw [show (8 * i + q.val) / 8 = i by omega, show (8 * i + q.val) % 8 = q.val by omega, ixor8_nat _ _ hb hc] at this
    exact this)
  simp only [] at hz
  have := (ixor8_zero (b.getD i 0) (c.getD i 0)).1 (by rw [ixor8_nat _ _ hb hc, hz]; rfl)
  simpa [List.getD_eq_getElem?_getD, h1, h2] using this
theorem turn_twice (b : List UInt8) (a m : Int) : turnOf (turnOf b a m) a m = b := by
  by_cases ha : 0 ≤ a
  · have l1 : (turnOf b a m).length = b.length := turnTo_length b a m 32
    have l2 : (turnOf (turnOf b a m) a m).length = (turnOf b a m).length := turnTo_length _ a m 32
    refine (dbit_eq b _ (by rw [l2, l1]) fun k => ?_).symm
    have d1 : dbit b (turnOf b a m) k = _ := turn_dbit b a m ha 32 k
    have d2 : dbit (turnOf b a m) (turnOf (turnOf b a m) a m) k = _ := turn_dbit (turnOf b a m) a m ha 32 k
    rw [dbit_xor b (turnOf b a m), d1, d2, l1]
    simp
  · rw [turn_neg b a m (by omega), turn_neg b a m (by omega)]
theorem firstBit_pos (b c : List UInt8) : ∀ n, (firstBit b c n < 0 ∧ ∀ k, k < n → dbit b c k = false) ∨ ∃ k : Nat, k < n ∧ firstBit b c n = k ∧ dbit b c k = true
  | 0 => .inl ⟨by simp [firstBit], fun k hk => by omega⟩
  | n + 1 => by
    simp only [firstBit]
    rcases firstBit_pos b c n with ⟨h1, h2⟩ | ⟨k, h1, h2, h3⟩
    · cases hd : dbit b c n with
      | true => right; refine ⟨n, by omega, ?_, hd⟩; simp [h1]
      | false =>
        left
        refine ⟨by simp [h1], fun k hk => ?_⟩
        by_cases hkn : k = n
        · rw [hkn]; exact hd
        · exact h2 k (by omega)
    · right
      refine ⟨k, by omega, ?_, h3⟩
      rw [if_neg (fun h => by omega), h2]
theorem lastBit_pos (b c : List UInt8) : ∀ n, (∀ k, k < n → dbit b c k = false) ∨ ∃ k : Nat, k < n ∧ lastBit b c n = k ∧ dbit b c k = true
  | 0 => .inl fun k hk => by omega
  | n + 1 => by
    simp only [lastBit]
    cases hd : dbit b c n with
    | true => right; exact ⟨n, by omega, by simp, hd⟩
    | false =>
      rcases lastBit_pos b c n with h | ⟨k, h1, h2, h3⟩
      · left
        intro k hk
        by_cases hkn : k = n
        · rw [hkn]; exact hd
        · exact h k (by omega)
      · right; exact ⟨k, by omega, by simp [h2], h3⟩
theorem dbit_out (b c : List UInt8) (hl : b.length = c.length) (k : Nat) (h : 8 * b.length ≤ k) : dbit b c k = false := by
  apply dbit_same
  have h1 : b.length ≤ k / 8 := by omega
  have h2 : c.length ≤ k / 8 := by omega
  simp [List.getD_eq_getElem?_getD, h1, h2]
theorem turn_burst (b : List UInt8) (a m : Int) : turnOf b a m = b ∨ isBurst b (turnOf b a m) = true := by
  by_cases ha : 0 ≤ a
  · have l1 : (turnOf b a m).length = b.length := turnTo_length b a m 32
    by_cases he : turnOf b a m = b
    · exact .inl he
    · right
      have hD : ∀ k, dbit b (turnOf b a m) k = true → a ≤ (k : Int) ∧ (k : Int) < a + 32 := fun k hk => by
        have d1 : dbit b (turnOf b a m) k = _ := turn_dbit b a m ha 32 k
        rw [d1, decide_eq_true_eq] at hk
        exact ⟨hk.1, hk.2.1⟩
      have hne : ¬ ∀ k, k < 8 * b.length → dbit b (turnOf b a m) k = false := fun h => he (dbit_eq b _ l1.symm fun k => by
        by_cases hk : k < 8 * b.length
        · exact h k hk
        · exact dbit_out b _ l1.symm k (by omega)).symm
      unfold isBurst
      rw [decide_eq_true_eq]
      refine ⟨l1.symm, fun h => he h.symm, ?_⟩
      rcases firstBit_pos b (turnOf b a m) (8 * b.length) with ⟨h1, h2⟩ | ⟨k, h1, h2, h3⟩
      · exact absurd h2 hne
      · rcases lastBit_pos b (turnOf b a m) (8 * b.length) with h4 | ⟨j, h4, h5, h6⟩
        · exact absurd h4 hne
        · have := hD k h3
          have := hD j h6
          rw [h2, h5]; omega
  · exact .inl (turn_neg b a m (by omega))
theorem endOf_same (b : List UInt8) : endOf b b = 0 := by
  unfold endOf
  rw [if_pos rfl]
  have : ∀ n, lastDiff b b n = 0 := by
    intro n
    induction n with
    | zero => rfl
    | succ n ih => simp only [lastDiff, if_true, ih]
  rw [this]; rfl

theorem lFnTurned_E : EnvSound Try.prog E_lFnTurned := mkE_sound (by simp [sCutText_sound, iCutText_sound, sTurnBits_sound, iTurnBits_sound, sChangeEnd_sound, iChangeEnd_sound, sFirstChange_sound, iFirstChange_sound, sIsBurst_sound, iIsBurst_sound, sDrawTurnBits_sound, lBig_sound, sDrawCutText_sound, sDrawFirstChange_sound])
theorem lFnTurned_sound : Sound Try.prog 9 (sg [pCode] [rB]) codeLaw := vBody_sound lFnTurned_E noInl_ok Try.func9 (by kernel_rfl) fun cs outs hk h => by
  unfold codeLaw at h
  split at h
  · simp only [Option.some.injEq, Prod.mk.injEq] at h
    obtain ⟨h1, rfl⟩ := h
    rename_i rows
    rw [vBody_L, lFnTurned_tree]
    by_cases hb : 1048576 < rows.length
    · simp [eval_must', eval_ask', eval_ret', hb]
    · have hok : curOk rows 0 = true := (curOk_iff rows 0).2 ⟨h1, by omega, by omega, by omega⟩
      have la := twoA_len rows
      have lb := twoB_len rows
      have lt : (drawTurnT rows).length < 12 := by have := dtT_len rows 12 0 (newH rows) (by omega) (by omega); unfold drawTurnT; omega
      have ra := dtAtRange rows
      have l1 : (twoA rows).length ≤ 1048576 := by omega
      have l2 : (twoB rows).length ≤ 1048576 := by omega
      have l3 : (drawTurnT rows).length ≤ 1048576 := by omega
      have l4 : (turnOf (drawTurnT rows) (drawTurnAt rows) (drawTurnBits rows)).length ≤ 1048576 := by
        have : (turnOf (drawTurnT rows) (drawTurnAt rows) (drawTurnBits rows)).length = (drawTurnT rows).length := by unfold turnOf; first | exact turnTo_length _ _ _ _ | (split <;> first | rfl | exact turnTo_length _ _ _ _)
        omega
      have tt := turn_twice (drawTurnT rows) (drawTurnAt rows) (drawTurnBits rows)
      have tb := turn_burst (drawTurnT rows) (drawTurnAt rows) (drawTurnBits rows)
      have cl : ((cutOf (drawCutT rows) (drawCutN rows)).length : Int) ≤ ((drawCutT rows).length : Int) := by have := cutOf_len (drawCutT rows) (drawCutN rows); omega
      simp only [eval_must', eval_ask', eval_ret', decide_eq_true_eq, hb, if_false, hok, l1, l2, l3, l4, ra.1, ra.2, tt, cl, decide_true, Bool.and_self, if_true, beq_self_eq_true, bne_self_eq_false, Bool.not_true, Bool.false_eq_true, ite_self]
      by_cases he : twoA rows = twoB rows
      · have es : endOf (twoA rows) (twoB rows) = 0 := by rw [he]; exact endOf_same _
        have fo : ¬ (0 : Int) ≤ firstOf (twoA rows) (twoB rows) := by unfold firstOf; rw [if_pos he]; omega
        rcases tb with ht | ht <;> by_cases h9 : turnOf (drawTurnT rows) (drawTurnAt rows) (drawTurnBits rows) = drawTurnT rows <;> cases isBurst (twoA rows) (twoB rows) <;> simp_all
      · have fo : (0 : Int) ≤ firstOf (twoA rows) (twoB rows) := by unfold firstOf; rw [if_neg he]; first | omega | exact Int.natCast_nonneg _
        rcases tb with ht | ht <;> by_cases h9 : turnOf (drawTurnT rows) (drawTurnAt rows) (drawTurnBits rows) = drawTurnT rows <;> cases isBurst (twoA rows) (twoB rows) <;> simp_all
  · cases h

end Go.Proofs.Ythpamcbipmkimaa.V
