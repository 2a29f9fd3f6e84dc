/- Functions of the given program and of its reference: what each returns, as an equation over data; by the interpreter. -/
import Derived.Test.YthpamcbipmkimaaVG
import Derived.Test.YthpamcbipmkimaaProg
import Derived.KernelRfl
set_option linter.unusedVariables false
set_option linter.unusedSimpArgs false
set_option linter.unusedSectionVars false
set_option linter.deprecated false
namespace Go.Proofs.Ythpamcbipmkimaa.V
noncomputable section
def tyTab : List (TypeId × TI) := [(2, ⟨false, [.int .i64], [], 8, false⟩),
  (3, ⟨false, [.int .i64], [], 8, false⟩),
  (4, ⟨false, [.bool], [], 1, false⟩),
  (5, ⟨false, [.int .u8], [], 1, false⟩),
  (6, ⟨false, [.int .u8], [], 1, false⟩),
  (7, ⟨true, [.int .i64, .int .i64, .bool, .int .u8], [(0, 2), (1, 3), (2, 4), (3, 6)], 24, false⟩),
  (8, ⟨true, [.int .i64, .int .i64, .bool, .int .u8], [(0, 2), (1, 3), (2, 4), (3, 6)], 24, false⟩),
  (9, ⟨false, [.str], [], 16, false⟩),
  (10, ⟨false, [.str], [], 16, false⟩),
  (11, ⟨false, [.str], [], 16, false⟩),
  (12, ⟨false, [.int .u64], [], 8, false⟩),
  (13, ⟨true, [.str, .int .u64], [(0, 9), (1, 12)], 24, false⟩),
  (14, ⟨true, [.str, .int .u64], [(0, 9), (1, 12)], 24, false⟩),
  (21, ⟨false, [.int .i32], [], 4, false⟩),
  (23, ⟨false, [.slice 3], [], 24, false⟩),
  (24, ⟨true, [.int .i64, .str, .int .i64, .slice 3], [(0, 3), (1, 9), (2, 3), (3, 23)], 56, false⟩),
  (25, ⟨true, [.int .i64, .str, .int .i64, .slice 3], [(0, 3), (1, 9), (2, 3), (3, 23)], 56, false⟩),
  (28, ⟨true, [.int .i64, .str, .int .i64, .slice 3], [(0, 3), (1, 9), (2, 3), (3, 23)], 56, false⟩),
  (32, ⟨false, [.slice 5], [], 24, false⟩),
  (39, ⟨false, [.int .u64], [], 8, false⟩),
  (41, ⟨false, [.slice 9], [], 24, false⟩),
  (44, ⟨false, [.slice 41], [], 24, false⟩),
  (68, ⟨true, [.int .i64, .int .i64, .int .i64, .int .i64], [(0, 3), (1, 3), (2, 3), (3, 3)], 32, false⟩),
  (69, ⟨true, [.int .i64, .int .i64, .int .i64, .int .i64], [(0, 3), (1, 3), (2, 3), (3, 3)], 32, true⟩),
  (76, ⟨true, [.int .i64, .int .i64, .int .i64, .int .i64], [(0, 3), (1, 3), (2, 3), (3, 3)], 32, false⟩),
  (77, ⟨true, [.int .i64, .int .i64, .int .i64, .int .i64], [(0, 3), (1, 3), (2, 3), (3, 3)], 32, true⟩),
  (78, ⟨true, [.int .i64, .int .i64, .int .i64, .int .i64], [(0, 3), (1, 3), (2, 3), (3, 3)], 32, true⟩),
  (79, ⟨false, [.slice 157], [], 24, false⟩),
  (80, ⟨false, [.slice 160], [], 24, false⟩),
  (81, ⟨true, [.slice 157, .slice 160, .slice 160, .slice 9, .int .i64, .int .i64], [(0, 79), (1, 80), (2, 80), (3, 41), (4, 3), (5, 3)], 112, false⟩),
  (82, ⟨true, [.slice 157, .slice 160, .slice 160, .slice 9, .int .i64, .int .i64], [(0, 79), (1, 80), (2, 80), (3, 41), (4, 3), (5, 3)], 112, false⟩),
  (83, ⟨true, [.int .i64, .int .i64, .int .i64, .int .i64, .int .i64, .slice 3, .int .i64, .bool, .int .i64], [(0, 3), (1, 3), (2, 3), (3, 3), (4, 3), (5, 23), (6, 3), (7, 4), (8, 3)], 88, false⟩),
  (84, ⟨true, [.int .i64, .int .i64, .int .i64, .int .i64, .int .i64, .slice 3, .int .i64, .bool, .int .i64], [(0, 3), (1, 3), (2, 3), (3, 3), (4, 3), (5, 23), (6, 3), (7, 4), (8, 3)], 88, false⟩),
  (85, ⟨true, [.int .i64, .int .i64, .int .i64, .int .i64, .slice 157, .slice 160, .slice 160, .slice 9, .int .i64, .int .i64, .int .i64, .int .i64, .int .i64, .int .i64, .int .i64, .slice 3, .int .i64, .bool, .int .i64, .slice 9, .int .i64, .int .i64], [(0, 78), (4, 82), (10, 84), (19, 41), (20, 3), (21, 3)], 272, false⟩),
  (86, ⟨true, [.int .i64, .int .i64, .int .i64, .int .i64, .slice 157, .slice 160, .slice 160, .slice 9, .int .i64, .int .i64, .int .i64, .int .i64, .int .i64, .int .i64, .int .i64, .slice 3, .int .i64, .bool, .int .i64, .slice 9, .int .i64, .int .i64], [(0, 78), (4, 82), (10, 84), (19, 41), (20, 3), (21, 3)], 272, false⟩),
  (133, ⟨true, [.bool, .int .i64, .int .i64, .int .i64, .int .i64, .slice 9, .slice 3, .int .i64, .bool], [(0, 4), (1, 69), (5, 41), (6, 23), (7, 3), (8, 4)], 104, false⟩),
  (134, ⟨true, [.bool, .int .i64, .int .i64, .int .i64, .int .i64, .slice 9, .slice 3, .int .i64, .bool], [(0, 4), (1, 69), (5, 41), (6, 23), (7, 3), (8, 4)], 104, false⟩),
  (139, ⟨true, [.slice 5, .int .i64, .int .i64], [(0, 32), (1, 3), (2, 3)], 40, false⟩),
  (140, ⟨true, [.slice 5, .int .i64, .int .i64], [(0, 32), (1, 3), (2, 3)], 40, false⟩),
  (150, ⟨false, [.slice 162], [], 24, false⟩),
  (153, ⟨false, [.int .u32], [], 4, false⟩),
  (156, ⟨true, [.int .i64, .str, .int .i64], [(0, 3), (1, 9), (2, 3)], 32, false⟩),
  (157, ⟨true, [.int .i64, .str, .int .i64], [(0, 3), (1, 9), (2, 3)], 32, true⟩),
  (159, ⟨true, [.str, .int .i64], [(0, 9), (1, 3)], 24, false⟩),
  (160, ⟨true, [.str, .int .i64], [(0, 9), (1, 3)], 24, true⟩),
  (161, ⟨true, [.int .i64, .int .i64], [(0, 3), (1, 3)], 16, false⟩),
  (162, ⟨true, [.int .i64, .int .i64], [(0, 3), (1, 3)], 16, true⟩),
  (170, ⟨false, [.int .u8], [], 1, false⟩),
  (171, ⟨false, [.int .u8], [], 1, false⟩),
  (174, ⟨false, [.int .i32], [], 4, false⟩),
  (175, ⟨false, [.int .i32], [], 4, false⟩)]
def arrTab : List (TypeId × Nat × TypeId) := []
def glTab : List (Nat × String) := []
abbrev Laws := List (FuncId × Sig × Spec)
def mkE (lv : List (Nat × List Nat)) (gs : Laws) : Env := { Ty := tyOf tyTab, Γ := fun g => gs.lookup g, inl := fun _ => none, lv := fun h => (lv.lookup h).getD [], ren := true, fuel := 9223372036854775808, nt := 0, Arr := fun t => arrTab.lookup t, gl := glOf glTab }
abbrev pI : PTy := .val false [.int .i64]
abbrev pU8 : PTy := .val false [.int .u8]
abbrev pU32 : PTy := .val false [.int .u32]
abbrev pS : PTy := .val false [.str]
abbrev pB : PTy := .val false [.bool]
abbrev rI : RTy := ⟨false, [(.int .i64, false)]⟩
abbrev rU8 : RTy := ⟨false, [(.int .u8, false)]⟩
abbrev rU32 : RTy := ⟨false, [(.int .u32, false)]⟩
abbrev rB : RTy := ⟨false, [(.bool, false)]⟩
abbrev rS : RTy := ⟨false, [(.str, false)]⟩
abbrev sg (ps : List PTy) (rs : List RTy) : Sig := ⟨ps, rs, false⟩
abbrev int64 (n : Int) : W := .l (.i .i64 n)
abbrev wstr (s : List UInt8) : W := .l (.s s)
abbrev st0 (slots : List (Nat × W)) : St := { slots, heap := [], next := 0, pins := [] }
abbrev st1 (slots : List (Nat × W)) (sz : Nat) (rows : List (List C)) : St := { slots, heap := [(0, .arr sz rows)], next := 1, pins := [] }
theorem tyTab_ok : (tyTab.all fun p => tyB Try.prog p.1 p.2) = true := by kernel_rfl
theorem arrTab_ok : arrTabB Try.prog tyTab arrTab = true := by kernel_rfl
theorem glTab_ok : glB Try.prog glTab = true := by kernel_rfl
theorem mkE_sound {lv : List (Nat × List Nat)} {gs : Laws} (h : ∀ p, p ∈ gs → Sound Try.prog p.1 p.2.1 p.2.2) : EnvSound Try.prog (mkE lv gs) :=
  ⟨⟨(tys_ok tyTab_ok).1, fun g fn h => (by cases h), fun t m e te h1 h2 => arrs_ok arrTab_ok t m e te h1 h2, gls_ok glTab_ok⟩, fun g sig spec hl => h (g, sig, spec) (lookup_mem hl), fun g fn h => (by cases h), by kernel_rfl⟩
def E0 : Env := mkE [] []
theorem E0_sound : EnvSound Try.prog E0 := mkE_sound (by simp)
end
end Go.Proofs.Ythpamcbipmkimaa.V

namespace Go.Proofs.Ythpamcbipmkimaa.V
noncomputable section

/-- the kinds of a row's leaves -/
def rowsOk (ks : List K) (rows : List (List C)) : Bool := rows.all fun r => kindsOk r ks
abbrev eInt (n : Int) : List C := [.int .i64 n]
def rowInt (r : List C) : Int := (r.getD 0 (.fn 0 [])).toInt
def ints (rows : List (List C)) : List Int := rows.map rowInt
abbrev eStr (s : List UInt8) : List C := [.str s]
def rowStr (r : List C) : List UInt8 := (r.getD 0 (.fn 0 [])).toStr
def strs (rows : List (List C)) : List (List UInt8) := rows.map rowStr
abbrev pSl (t : TypeId) : PTy := .val false [.slice t]
abbrev rSl (t : TypeId) : RTy := ⟨false, [(.slice t, true)]⟩

end
end Go.Proofs.Ythpamcbipmkimaa.V

namespace Go.Proofs.Ythpamcbipmkimaa.V
set_option maxRecDepth 100000

end Go.Proofs.Ythpamcbipmkimaa.V

namespace Go.Proofs.Ythpamcbipmkimaa.V

theorem row_int {r : List C} (h : kindsOk r [.int .i64] = true) : r = eInt (rowInt r) := by
  cases r with
  | nil => simp [kindsOk] at h
  | cons c r =>
    cases r with
    | cons d r => simp [kindsOk] at h
    | nil =>
      cases c with
      | int k n => simp [kindsOk, C.is] at h; subst h; rfl
      | _ => simp [kindsOk, C.is] at h
theorem row_str {r : List C} (h : kindsOk r [.str] = true) : r = eStr (rowStr r) := by
  cases r with
  | nil => simp [kindsOk] at h
  | cons c r =>
    cases r with
    | cons d r => simp [kindsOk] at h
    | nil =>
      cases c with
      | str s => rfl
      | _ => simp [kindsOk, C.is] at h
theorem rows_ints {rows : List (List C)} (h : rowsOk [.int .i64] rows = true) : rows = (ints rows).map eInt := by
  simp only [rowsOk, List.all_eq_true] at h
  simp only [ints, List.map_map]
  rw [List.map_congr_left (g := id)]
  · simp
  · intro r hr; exact (row_int (h r hr)).symm
theorem rows_strs {rows : List (List C)} (h : rowsOk [.str] rows = true) : rows = (strs rows).map eStr := by
  simp only [rowsOk, List.all_eq_true] at h
  simp only [strs, List.map_map]
  rw [List.map_congr_left (g := id)]
  · simp
  · intro r hr; exact (row_str (h r hr)).symm
@[simp] theorem ints_map (l : List Int) : ints (l.map eInt) = l := by simp [ints, rowInt, Function.comp_def, C.toInt]
@[simp] theorem strs_map (l : List (List UInt8)) : strs (l.map eStr) = l := by simp [strs, rowStr, Function.comp_def, C.toStr]
@[simp] theorem rowsOk_ints (l : List Int) : rowsOk [.int .i64] (l.map eInt) = true := by simp [rowsOk, kindsOk, C.is]
@[simp] theorem rowsOk_strs (l : List (List UInt8)) : rowsOk [.str] (l.map eStr) = true := by simp [rowsOk, kindsOk, C.is]
theorem flat_ints (l : List Int) : ((l.map eInt).all fun r => r.all C.flat) = true := by simp [C.flat]
theorem flat_strs (l : List (List UInt8)) : ((l.map eStr).all fun r => r.all C.flat) = true := by simp [C.flat]
theorem map_getD {A : Type} (e : A → List C) (l : List A) (d : A) (i : Nat) (h : i < l.length) : (l.map e).getD i [] = e (l.getD i d) := by
  simp [List.getD_eq_getElem?_getD, h]
theorem copy_set {A : Type} (l : List A) (z : A) (d : A) (i : Nat) (h : i < l.length) : (l.take i ++ List.replicate (l.length - i) z).set i (l.getD i d) = l.take (i + 1) ++ List.replicate (l.length - (i + 1)) z := by
  have hlen : (l.take i).length = i := by simp; omega
  rw [List.set_append_right _ _ (by omega), hlen, Nat.sub_self]
  obtain ⟨m, hm⟩ : ∃ m, l.length - i = m + 1 := ⟨l.length - i - 1, by omega⟩
  have hm2 : l.length - (i + 1) = m := by omega
  rw [hm, hm2, List.replicate_succ, List.set_cons_zero, List.take_succ_eq_append_getElem h, List.append_assoc]
  simp [List.getD_eq_getElem?_getD, h]
/- what is known of data that fit -/
theorem fit_i64 {E : Env} {x : C} (h : Fit E (.int .i64) x) : ∃ n, x = .int .i64 n ∧ -9223372036854775808 ≤ n ∧ n ≤ 9223372036854775807 := by
  cases h with
  | int a b => exact ⟨_, rfl, a, b⟩
theorem fit_bool {E : Env} {x : C} (h : Fit E .bool x) : ∃ t, x = .bool t := by
  cases h with
  | bool => exact ⟨_, rfl⟩
theorem fit_str {E : Env} {x : C} (h : Fit E .str x) : ∃ s, x = .str s ∧ s.length ≤ 140737488351232 := by
  cases h with
  | str a => exact ⟨_, rfl, a⟩
theorem fit_sl {E : Env} {e : TypeId} {x : C} (h : Fit E (.slice e) x) : ∃ rows, x = .sl rows ∧ ∀ te, E.Ty e = some te → 1 ≤ te.bytes → rows.length ≤ 140737488351232 ∧ rowsOk te.leaves rows = true := by
  cases h with
  | @sl _ te rows h1 h2 h3 h4 =>
    refine ⟨rows, rfl, fun te' ht hb => ?_⟩
    rw [h1] at ht
    obtain rfl := Option.some.inj ht
    refine ⟨Nat.le_trans (Nat.le_mul_of_pos_right _ hb) h2, ?_⟩
    simp only [rowsOk, List.all_eq_true]
    intro r hr
    exact FitAll.kinds (E := E) ⟨h3 r hr, fun j kd y hj hy => h4 r hr j kd y hj hy⟩
theorem byte_lt (l : List UInt8) (j : Nat) : (l.getD j 0).toNat < 256 := (l.getD j 0).toNat_lt
theorem drop_cons {A : Type} (l : List A) (i : Nat) (d : A) (hi : i < l.length) : l.drop i = l.getD i d :: l.drop (i + 1) := by
  rw [List.drop_eq_getElem_cons hi]; simp [List.getD_eq_getElem?_getD, hi]

end Go.Proofs.Ythpamcbipmkimaa.V

namespace Go.Proofs.Ythpamcbipmkimaa.V
noncomputable section

def inB (n lo hi : Int) : Bool := decide (lo ≤ n) && decide (n ≤ hi)
def inSpec : Spec := fun cs => match cs with
  | [.int .i64 n, .int .i64 lo, .int .i64 hi] => some (true, [.bool (inB n lo hi)])
  | _ => none
def E_sIn : Env := mkE [] []
def E_iIn : Env := mkE [] []

def isVersionSpec : Spec := fun cs => match cs with
  | [.int .i64 n] => some (true, [.bool (inB n 1 2)])
  | _ => none
def E_iIsVersion : Env := mkE [] []

def newOk (v s r : Int) : Bool := inB v 1 2 && inB s 1 20 && inB r 1 50
def sel (b : Bool) (x : Int) : Int := if b then x else 0
def writerNewSpec : Spec := fun cs => match cs with
  | [.int .i64 v, .int .i64 s, .int .i64 r] => some (true, [.int .i64 (sel (newOk v s r) v), .int .i64 (sel (newOk v s r) s), .int .i64 (sel (newOk v s r) r), .int .i64 0, .int .i64 0, .sl [], .int .i64 0, .bool false, .int .i64 0, .bool (newOk v s r)])
  | _ => none
def rWriter : RTy := ⟨true, [(.int .i64, false), (.int .i64, false), (.int .i64, false), (.int .i64, false), (.int .i64, false), (.slice 23, true), (.int .i64, false), (.bool, false), (.int .i64, false)]⟩
def E_sWriterNew : Env := mkE [] [(93, (sg [pI, pI, pI] [rB]), inSpec)]
def E_iWriterNew : Env := mkE [] [(95, (sg [pI, pI, pI] [rB]), inSpec), (113, (sg [pI] [rB]), isVersionSpec)]

def settingOk (room v s r : Int) : Bool := newOk v s r && inB room 0 20000
def settingSpec : Spec := fun cs => match cs with
  | [.int .i64 room, .int .i64 v, .int .i64 s, .int .i64 r] => some (true, [.bool (settingOk room v s r)])
  | _ => none
def pSetting : PTy := .val true [.int .i64, .int .i64, .int .i64, .int .i64]
def E_sSettingOk : Env := mkE [] [(93, (sg [pI, pI, pI] [rB]), inSpec), (129, (sg [pI, pI, pI] [rWriter, rB]), writerNewSpec)]
def E_iSettingOk : Env := mkE [] [(95, (sg [pI, pI, pI] [rB]), inSpec), (132, (sg [pI, pI, pI] [rWriter, rB]), writerNewSpec)]

def toSettingSpec : Spec := fun cs => match cs with
  | [.int .i64 a, .int .i64 v, .int .i64 s, .int .i64 r] => some (true, [.int .i64 a, .int .i64 v, .int .i64 s, .int .i64 r])
  | _ => none
def E_toSetting : Env := mkE [] []

end
end Go.Proofs.Ythpamcbipmkimaa.V

namespace Go.Proofs.Ythpamcbipmkimaa.V
set_option maxRecDepth 100000
theorem sIn_tree (H : List Pt → Nat → St → T (List C)) (n : Int) (a : Int) (b : Int) : vBodyL E_sIn noInl (sg [pI, pI, pI] [rB]) Try.f93 H [C.int IntKind.i64 n, C.int IntKind.i64 a, C.int IntKind.i64 b] =
 (.must true
 (.ask (decide (a ≤ n))
  (.ask (decide (n ≤ b))
   (.must true
    (.ret [C.bool true]))
   (.must true
    (.ret [C.bool false])))
  (.must true
   (.ret [C.bool false])))) := by kernel_rfl
theorem iIn_tree (H : List Pt → Nat → St → T (List C)) (n : Int) (a : Int) (b : Int) : vBodyL E_iIn noInl (sg [pI, pI, pI] [rB]) Try.f95 H [C.int IntKind.i64 n, C.int IntKind.i64 a, C.int IntKind.i64 b] =
 (.must true
 (.ask (decide (a ≤ n))
  (.ask (decide (n ≤ b))
   (.must true
    (.ret [C.bool true]))
   (.must true
    (.ret [C.bool false])))
  (.must true
   (.ret [C.bool false])))) := by kernel_rfl
theorem iIsVersion_tree (H : List Pt → Nat → St → T (List C)) (n : Int) : vBodyL E_iIsVersion noInl (sg [pI] [rB]) Try.f113 H [C.int IntKind.i64 n] =
 (.must true
 (.ask (decide (n = (1 : Int)))
  (.must true
   (.ret [C.bool true]))
  (.ask (decide (n = (2 : Int)))
   (.must true
    (.ret [C.bool true]))
   (.must true
    (.ret [C.bool false]))))) := by kernel_rfl
theorem sWriterNew_tree (H : List Pt → Nat → St → T (List C)) (n : Int) (a : Int) (b : Int) : vBodyL E_sWriterNew noInl (sg [pI, pI, pI] [rWriter, rB]) Try.f129 H
  [C.int IntKind.i64 n, C.int IntKind.i64 a, C.int IntKind.i64 b] =
 (.must true
 (.must true
  (.must true
   (.must true
    (.ask (inB n (1 : Int) (2 : Int))
     (.must true
      (.must true
       (.must true
        (.ask (inB a (1 : Int) (20 : Int))
         (.must true
          (.must true
           (.must true
            (.ask (inB b (1 : Int) (50 : Int))
             (.must true
              (.ret [C.int IntKind.i64 n, C.int IntKind.i64 a, C.int IntKind.i64 b, C.int IntKind.i64 (0 : Int),
  C.int IntKind.i64 (0 : Int), C.sl [], C.int IntKind.i64 (0 : Int), C.bool false, C.int IntKind.i64 (0 : Int),
  C.bool true]))
             (.must true
              (.ret [C.int IntKind.i64 (0 : Int), C.int IntKind.i64 (0 : Int), C.int IntKind.i64 (0 : Int), C.int IntKind.i64 (0 : Int),
  C.int IntKind.i64 (0 : Int), C.sl [], C.int IntKind.i64 (0 : Int), C.bool false, C.int IntKind.i64 (0 : Int),
  C.bool false]))))))
         (.must true
          (.ret [C.int IntKind.i64 (0 : Int), C.int IntKind.i64 (0 : Int), C.int IntKind.i64 (0 : Int), C.int IntKind.i64 (0 : Int),
  C.int IntKind.i64 (0 : Int), C.sl [], C.int IntKind.i64 (0 : Int), C.bool false, C.int IntKind.i64 (0 : Int),
  C.bool false]))))))
     (.must true
      (.ret [C.int IntKind.i64 (0 : Int), C.int IntKind.i64 (0 : Int), C.int IntKind.i64 (0 : Int), C.int IntKind.i64 (0 : Int),
  C.int IntKind.i64 (0 : Int), C.sl [], C.int IntKind.i64 (0 : Int), C.bool false, C.int IntKind.i64 (0 : Int),
  C.bool false]))))))) := by kernel_rfl
theorem iWriterNew_tree (H : List Pt → Nat → St → T (List C)) (n : Int) (a : Int) (b : Int) : vBodyL E_iWriterNew noInl (sg [pI, pI, pI] [rWriter, rB]) Try.f132 H
  [C.int IntKind.i64 n, C.int IntKind.i64 a, C.int IntKind.i64 b] =
 (.must true
 (.must true
  (.must true
   (.must true
    (.ask (inB n (1 : Int) (2 : Int))
     (.must true
      (.must true
       (.must true
        (.ask (inB a (1 : Int) (20 : Int))
         (.must true
          (.must true
           (.must true
            (.ask (inB b (1 : Int) (50 : Int))
             (.must true
              (.ret [C.int IntKind.i64 n, C.int IntKind.i64 a, C.int IntKind.i64 b, C.int IntKind.i64 (0 : Int),
  C.int IntKind.i64 (0 : Int), C.sl [], C.int IntKind.i64 (0 : Int), C.bool false, C.int IntKind.i64 (0 : Int),
  C.bool true]))
             (.must true
              (.ret [C.int IntKind.i64 (0 : Int), C.int IntKind.i64 (0 : Int), C.int IntKind.i64 (0 : Int), C.int IntKind.i64 (0 : Int),
  C.int IntKind.i64 (0 : Int), C.sl [], C.int IntKind.i64 (0 : Int), C.bool false, C.int IntKind.i64 (0 : Int),
  C.bool false]))))))
         (.must true
          (.ret [C.int IntKind.i64 (0 : Int), C.int IntKind.i64 (0 : Int), C.int IntKind.i64 (0 : Int), C.int IntKind.i64 (0 : Int),
  C.int IntKind.i64 (0 : Int), C.sl [], C.int IntKind.i64 (0 : Int), C.bool false, C.int IntKind.i64 (0 : Int),
  C.bool false]))))))
     (.must true
      (.ret [C.int IntKind.i64 (0 : Int), C.int IntKind.i64 (0 : Int), C.int IntKind.i64 (0 : Int), C.int IntKind.i64 (0 : Int),
  C.int IntKind.i64 (0 : Int), C.sl [], C.int IntKind.i64 (0 : Int), C.bool false, C.int IntKind.i64 (0 : Int),
  C.bool false]))))))) := by kernel_rfl
theorem sSettingOk_tree (H : List Pt → Nat → St → T (List C)) (a : Int) (v : Int) (s : Int) (r : Int) : vBodyL E_sSettingOk noInl (sg [pSetting] [rB]) Try.f128 H
  [C.int IntKind.i64 a, C.int IntKind.i64 v, C.int IntKind.i64 s, C.int IntKind.i64 r] =
 (.must true
 (.must true
  (.must true
   (.must true
    (.ask (newOk v s r)
     (.must true
      (.must true
       (.must true
        (.ask (inB a (0 : Int) (20000 : Int))
         (.must true
          (.ret [C.bool true]))
         (.must true
          (.ret [C.bool false]))))))
     (.must true
      (.ret [C.bool false]))))))) := by kernel_rfl
theorem iSettingOk_tree (H : List Pt → Nat → St → T (List C)) (a : Int) (v : Int) (s : Int) (r : Int) : vBodyL E_iSettingOk noInl (sg [pSetting] [rB]) Try.f131 H
  [C.int IntKind.i64 a, C.int IntKind.i64 v, C.int IntKind.i64 s, C.int IntKind.i64 r] =
 (.must true
 (.must true
  (.must true
   (.must true
    (.ask (newOk v s r)
     (.must true
      (.must true
       (.must true
        (.ask (inB a (0 : Int) (20000 : Int))
         (.must true
          (.ret [C.bool true]))
         (.must true
          (.ret [C.bool false]))))))
     (.must true
      (.ret [C.bool false]))))))) := by kernel_rfl
theorem toSetting_tree (H : List Pt → Nat → St → T (List C)) (a : Int) (v : Int) (s : Int) (r : Int) : vBodyL E_toSetting noInl
  (sg [pSetting]
    [{ agg := true,
        ls :=
          [(K.int IntKind.i64, false), (K.int IntKind.i64, false), (K.int IntKind.i64, false),
            (K.int IntKind.i64, false)] }])
  Try.f73 H [C.int IntKind.i64 a, C.int IntKind.i64 v, C.int IntKind.i64 s, C.int IntKind.i64 r] =
 (.must true
 (.must true
  (.ret [C.int IntKind.i64 a, C.int IntKind.i64 v, C.int IntKind.i64 s, C.int IntKind.i64 r]))) := by kernel_rfl
end Go.Proofs.Ythpamcbipmkimaa.V

namespace Go.Proofs.Ythpamcbipmkimaa.V

theorem sIn_E : EnvSound Try.prog E_sIn := mkE_sound (by simp [])
theorem sIn_sound : Sound Try.prog 93 (sg [pI, pI, pI] [rB]) inSpec := vBody_sound sIn_E noInl_ok Try.func93 (by kernel_rfl) fun cs outs hk h => by
  unfold inSpec at h
  split at h
  · simp only [Option.some.injEq, Prod.mk.injEq, true_and] at h
    rw [← h, vBody_L, sIn_tree]
    simp only [eval_must', eval_ask', eval_ret', decide_eq_true_eq, if_true, inB]
    repeat' split
    all_goals first | rfl | (simp_all; done) | (simp_all; omega)
  · cases h
theorem iIn_E : EnvSound Try.prog E_iIn := mkE_sound (by simp [])
theorem iIn_sound : Sound Try.prog 95 (sg [pI, pI, pI] [rB]) inSpec := vBody_sound iIn_E noInl_ok Try.func95 (by kernel_rfl) fun cs outs hk h => by
  unfold inSpec at h
  split at h
  · simp only [Option.some.injEq, Prod.mk.injEq, true_and] at h
    rw [← h, vBody_L, iIn_tree]
    simp only [eval_must', eval_ask', eval_ret', decide_eq_true_eq, if_true, inB]
    repeat' split
    all_goals first | rfl | (simp_all; done) | (simp_all; omega)
  · cases h

theorem iIsVersion_E : EnvSound Try.prog E_iIsVersion := mkE_sound (by simp [])
theorem iIsVersion_sound : Sound Try.prog 113 (sg [pI] [rB]) isVersionSpec := vBody_sound iIsVersion_E noInl_ok Try.func113 (by kernel_rfl) fun cs outs hk h => by
  unfold isVersionSpec at h
  split at h
  · simp only [Option.some.injEq, Prod.mk.injEq, true_and] at h
    rw [← h, vBody_L, iIsVersion_tree]
    simp only [eval_must', eval_ask', eval_ret', decide_eq_true_eq, if_true, inB]
    repeat' split
    all_goals first | rfl | (simp_all; done) | (simp; omega)
  · cases h

theorem sWriterNew_E : EnvSound Try.prog E_sWriterNew := mkE_sound (by simp [sIn_sound])
theorem sWriterNew_sound : Sound Try.prog 129 (sg [pI, pI, pI] [rWriter, rB]) writerNewSpec := vBody_sound sWriterNew_E noInl_ok Try.func129 (by kernel_rfl) fun cs outs hk h => by
  unfold writerNewSpec at h
  split at h
  · simp only [Option.some.injEq, Prod.mk.injEq, true_and] at h
    rw [← h, vBody_L, sWriterNew_tree]
    simp only [eval_must', eval_ask', eval_ret', if_true, newOk, sel]
    repeat' split
    all_goals first | rfl | simp_all
  · cases h
theorem iWriterNew_E : EnvSound Try.prog E_iWriterNew := mkE_sound (by simp [iIn_sound, iIsVersion_sound])
theorem iWriterNew_sound : Sound Try.prog 132 (sg [pI, pI, pI] [rWriter, rB]) writerNewSpec := vBody_sound iWriterNew_E noInl_ok Try.func132 (by kernel_rfl) fun cs outs hk h => by
  unfold writerNewSpec at h
  split at h
  · simp only [Option.some.injEq, Prod.mk.injEq, true_and] at h
    rw [← h, vBody_L, iWriterNew_tree]
    simp only [eval_must', eval_ask', eval_ret', if_true, newOk, sel]
    repeat' split
    all_goals first | rfl | simp_all
  · cases h

theorem sSettingOk_E : EnvSound Try.prog E_sSettingOk := mkE_sound (by simp [sIn_sound, sWriterNew_sound])
theorem sSettingOk_sound : Sound Try.prog 128 (sg [pSetting] [rB]) settingSpec := vBody_sound sSettingOk_E noInl_ok Try.func128 (by kernel_rfl) fun cs outs hk h => by
  unfold settingSpec at h
  split at h
  · simp only [Option.some.injEq, Prod.mk.injEq, true_and] at h
    rw [← h, vBody_L, sSettingOk_tree]
    simp only [eval_must', eval_ask', eval_ret', if_true, settingOk]
    repeat' split
    all_goals first | rfl | simp_all
  · cases h
theorem iSettingOk_E : EnvSound Try.prog E_iSettingOk := mkE_sound (by simp [iIn_sound, iWriterNew_sound])
theorem iSettingOk_sound : Sound Try.prog 131 (sg [pSetting] [rB]) settingSpec := vBody_sound iSettingOk_E noInl_ok Try.func131 (by kernel_rfl) fun cs outs hk h => by
  unfold settingSpec at h
  split at h
  · simp only [Option.some.injEq, Prod.mk.injEq, true_and] at h
    rw [← h, vBody_L, iSettingOk_tree]
    simp only [eval_must', eval_ask', eval_ret', if_true, settingOk]
    repeat' split
    all_goals first | rfl | simp_all
  · cases h

theorem toSetting_E : EnvSound Try.prog E_toSetting := mkE_sound (by simp [])
theorem toSetting_sound : Sound Try.prog 73 (sg [pSetting] [⟨true, [(.int .i64, false), (.int .i64, false), (.int .i64, false), (.int .i64, false)]⟩]) toSettingSpec := vBody_sound toSetting_E noInl_ok Try.func73 (by kernel_rfl) fun cs outs hk h => by
  unfold toSettingSpec at h
  split at h
  · simp only [Option.some.injEq, Prod.mk.injEq, true_and] at h
    rw [← h, vBody_L, toSetting_tree]
    simp only [eval_must', eval_ask', eval_ret', if_true]
  · cases h

end Go.Proofs.Ythpamcbipmkimaa.V

namespace Go.Proofs.Ythpamcbipmkimaa.V
noncomputable section

structure Nd where
  id : Int
  text : List UInt8
  sure : Int
  deriving DecidableEq
structure En where
  name : List UInt8
  id : Int
  deriving DecidableEq
abbrev eNd (x : Nd) : List C := [.int .i64 x.id, .str x.text, .int .i64 x.sure]
abbrev eEn (x : En) : List C := [.str x.name, .int .i64 x.id]
abbrev kNd : List K := [.int .i64, .str, .int .i64]
abbrev kEn : List K := [.str, .int .i64]
def rowNd (r : List C) : Nd := ⟨(r.getD 0 (.fn 0 [])).toInt, (r.getD 1 (.fn 0 [])).toStr, (r.getD 2 (.fn 0 [])).toInt⟩
def rowEn (r : List C) : En := ⟨(r.getD 0 (.fn 0 [])).toStr, (r.getD 1 (.fn 0 [])).toInt⟩
def nds (rows : List (List C)) : List Nd := rows.map rowNd
def ens (rows : List (List C)) : List En := rows.map rowEn
/-- no text in the rows is longer than memory -/
def textsOk (rows : List (List C)) : Bool := rows.all fun r => r.all fun c => match c with | .str s => decide (s.length ≤ 281474976710656) | _ => true
def szOne (n : Nat) (left : Int) : Int := if left - n < 0 then -1 else left - n
/-- what is left of a size -/
def szEach : List Nat → Int → Int
  | [], left => left
  | n :: r, left => if left - n < 0 then -1 else szEach r (left - n)
def szList (ns : List Nat) (left : Int) : Int := if left - ns.length < 0 then -1 else szEach ns (left - ns.length)

def szStrSpec : Spec := fun cs => match cs with
  | [.sl rows, .int .i64 left] => some (decide (0 ≤ left) && decide (left ≤ 1048576) && (decide (rows.length ≤ 281474976710656) && (rowsOk [.str] rows && textsOk rows)), [.int .i64 (szList ((strs rows).map List.length) left)])
  | _ => none
def H_szStringS (r : List (List C)) (left : Int) (i : Int) : St := st0 [(0, .l (.sl r)), (1, int64 left), (5, int64 i)]
def E_szStringS : Env := mkE [(5, [0, 1, 5])] []

def toStrSpec : Spec := fun cs => match cs with
  | [.sl rows] => some (decide (rows.length ≤ 1048576) && rowsOk [.str] rows, [.sl rows])
  | _ => none
def H_toStringS (r : List (List C)) (n : Nat) (out : List (List C)) (i : Int) : St := st1 [(0, .l (.sl r)), (3, .l (.ref 0 0 n)), (4, int64 i)] 1 out
def E_toStringS : Env := mkE [(3, [0, 3, 4])] []

def eqStrSpec : Spec := fun cs => match cs with
  | [.sl x, .sl y] => some (decide (x.length ≤ 1073741824) && (rowsOk [.str] x && rowsOk [.str] y), [.bool (decide (strs x = strs y))])
  | _ => none
def H_eqStringS (x y : List (List C)) (i : Int) : St := st0 [(0, .l (.sl x)), (1, .l (.sl y)), (5, int64 i)]
def E_eqStringS : Env := mkE [(4, [0, 1, 5])] []

end
end Go.Proofs.Ythpamcbipmkimaa.V

namespace Go.Proofs.Ythpamcbipmkimaa.V
set_option maxRecDepth 100000
theorem szStringS_tree (H : List Pt → Nat → St → T (List C)) (r : List (List C)) (n : Int) : (vBodyL E_szStringS noInl (sg [pSl (9 : TypeId), pI] [rI]) Try.f38 H [C.sl r, C.int IntKind.i64 n]).eval =
 ((.ask (decide (IntKind.i64.wrap (n - (↑r.length : Int)) < (0 : Int)))
 (.ret [C.int IntKind.i64 (-1 : Int)])
 (H [Pt.r, Pt.r, Pt.r, Pt.l, Pt.r, Pt.b] (9223372036854775808 : Nat) (H_szStringS (r) (IntKind.i64.wrap (n - (↑r.length : Int))) ((0 : Int))))) : T (List C)).eval := evalEq (by kernel_rfl)
theorem szStringS_round0 (H : List Pt → Nat → St → T (List C)) (r : List (List C)) (n : Int) (i : Int) (k : Nat) : (vRound E_szStringS noInl (sg [pSl (9 : TypeId), pI] [rI]) Try.f38 H [Pt.r, Pt.r, Pt.r, Pt.l, Pt.r, Pt.b] k
  (H_szStringS r n i)).eval =
 ((.ask (decide (i < (↑r.length : Int)))
 (.must (decide ((0 : Int) ≤ i) && decide (i < (↑r.length : Int)) && decide ((r.getD i.toNat []).length = (1 : Nat)))
  (.must (decide ((0 : Nat) < (r.getD i.toNat []).length) &&
    C.is K.str ((r.getD i.toNat []).getD (0 : Nat) (C.fn (0 : FuncId) [])) &&
  true)
   (.ask (decide
  (IntKind.i64.wrap (n - (↑((r.getD i.toNat []).getD (0 : Nat) (C.fn (0 : FuncId) [])).toStr.length : Int)) < (0 : Int)))
    (.ret [C.int IntKind.i64 (-1 : Int)])
    (H [Pt.r, Pt.r, Pt.r, Pt.l, Pt.r, Pt.b] k (H_szStringS (r) (IntKind.i64.wrap (n - (↑((r.getD i.toNat []).getD (0 : Nat) (C.fn (0 : FuncId) [])).toStr.length : Int))) (IntKind.i64.wrap (i + (1 : Int))))))))
 (.ret [C.int IntKind.i64 n])) : T (List C)).eval := evalEq (by kernel_rfl)
theorem toStringS_tree (H : List Pt → Nat → St → T (List C)) (r : List (List C)) : (vBodyL E_toStringS noInl (sg [pSl (9 : TypeId)] [rSl (9 : TypeId)]) Try.f40 H [C.sl r]).eval =
 ((.must (decide ((0 : Int) ≤ (↑r.length : Int)) && decide ((↑r.length : Int) ≤ (↑r.length : Int)) &&
  decide ((↑(16 : Nat) : Int) * (↑r.length : Int) ≤ (281474976710656 : Int)))
 (H [Pt.r, Pt.r, Pt.l, Pt.r, Pt.b] (9223372036854775808 : Nat) (H_toStringS (r) ((↑r.length : Int).toNat) (List.replicate (↑r.length : Int).toNat [C.str []]) ((0 : Int))))) : T (List C)).eval := evalEq (by kernel_rfl)
theorem toStringS_round0 (H : List Pt → Nat → St → T (List C)) (r : List (List C)) (n : Nat) (o : List (List C)) (i : Int) (k : Nat) : (vRound E_toStringS noInl (sg [pSl (9 : TypeId)] [rSl (9 : TypeId)]) Try.f40 H [Pt.r, Pt.r, Pt.l, Pt.r, Pt.b] k
  (H_toStringS r n o i)).eval =
 ((.ask (decide (i < (↑r.length : Int)))
 (.must (decide ((0 : Int) ≤ i) && decide (i < (↑r.length : Int)) && decide ((r.getD i.toNat []).length = (1 : Nat)))
  (.must (decide ((0 : Nat) < (r.getD i.toNat []).length) &&
    C.is K.str ((r.getD i.toNat []).getD (0 : Nat) (C.fn (0 : FuncId) [])) &&
  true)
   (.must (decide ((0 : Int) ≤ i) && decide (i < (↑n : Int)))
    (.must (decide ((0 : Nat) + i.toNat < o.length))
     (H [Pt.r, Pt.r, Pt.l, Pt.r, Pt.b] k (H_toStringS (r) (n) (o.set ((0 : Nat) + i.toNat)
  (C.str ((r.getD i.toNat []).getD (0 : Nat) (C.fn (0 : FuncId) [])).toStr ::
    List.drop ((0 : Nat) + (1 : Nat)) (o.getD ((0 : Nat) + i.toNat) []))) (IntKind.i64.wrap (i + (1 : Int)))))))))
 (.must (decide (n = o.length) && (false || o.all fun r => r.all C.flat) && true && true && true)
  (.ret [C.sl o]))) : T (List C)).eval := evalEq (by kernel_rfl)
theorem eqStringS_tree (H : List Pt → Nat → St → T (List C)) (x : List (List C)) (y : List (List C)) : (vBodyL E_eqStringS noInl (sg [pSl (9 : TypeId), pSl (9 : TypeId)] [rB]) Try.f42 H [C.sl x, C.sl y]).eval =
 ((.ask ((↑x.length : Int) != (↑y.length : Int))
 (.ret [C.bool false])
 (H [Pt.r, Pt.r, Pt.l, Pt.r, Pt.b] (9223372036854775808 : Nat) (H_eqStringS (x) (y) ((0 : Int))))) : T (List C)).eval := evalEq (by kernel_rfl)
theorem eqStringS_round0 (H : List Pt → Nat → St → T (List C)) (x : List (List C)) (y : List (List C)) (i : Int) (k : Nat) : (vRound E_eqStringS noInl (sg [pSl (9 : TypeId), pSl (9 : TypeId)] [rB]) Try.f42 H [Pt.r, Pt.r, Pt.l, Pt.r, Pt.b] k
  (H_eqStringS x y i)).eval =
 ((.ask (decide (i < (↑x.length : Int)))
 (.must (decide ((0 : Int) ≤ i) && decide (i < (↑x.length : Int)) && decide ((x.getD i.toNat []).length = (1 : Nat)))
  (.must (decide ((0 : Nat) < (x.getD i.toNat []).length) &&
    C.is K.str ((x.getD i.toNat []).getD (0 : Nat) (C.fn (0 : FuncId) [])) &&
  true)
   (.must (decide ((0 : Int) ≤ i) && decide (i < (↑y.length : Int)) && decide ((y.getD i.toNat []).length = (1 : Nat)))
    (.must (decide ((0 : Nat) < (y.getD i.toNat []).length) &&
    C.is K.str ((y.getD i.toNat []).getD (0 : Nat) (C.fn (0 : FuncId) [])) &&
  true)
     (.ask (!((x.getD i.toNat []).getD (0 : Nat) (C.fn (0 : FuncId) [])).toStr ==
    ((y.getD i.toNat []).getD (0 : Nat) (C.fn (0 : FuncId) [])).toStr)
      (.ret [C.bool false])
      (H [Pt.r, Pt.r, Pt.l, Pt.r, Pt.b] k (H_eqStringS (x) (y) (IntKind.i64.wrap (i + (1 : Int))))))))))
 (.ret [C.bool true])) : T (List C)).eval := evalEq (by kernel_rfl)
end Go.Proofs.Ythpamcbipmkimaa.V

namespace Go.Proofs.Ythpamcbipmkimaa.V

theorem is_int {k : IntKind} {c : C} (h : c.is (.int k) = true) : c = .int k c.toInt := by
  cases c <;> simp [C.is] at h
  subst h; rfl
theorem is_str {c : C} (h : c.is .str = true) : c = .str c.toStr := by
  cases c <;> simp [C.is] at h
  rfl
theorem row_nd {r : List C} (h : kindsOk r kNd = true) : r = eNd (rowNd r) := by
  match r, h with
  | [a, b, c], h =>
    simp only [kindsOk, Bool.and_eq_true, and_true] at h
    obtain ⟨h1, h2, h3⟩ := h
    have e1 := is_int h1
    have e2 := is_str h2
    have e3 := is_int h3
    show [a, b, c] = [.int .i64 a.toInt, .str b.toStr, .int .i64 c.toInt]
    rw [← e1, ← e2, ← e3]
  | [], h => simp [kindsOk] at h
  | [_], h => simp [kindsOk] at h
  | [_, _], h => simp [kindsOk] at h
  | _ :: _ :: _ :: _ :: _, h => simp [kindsOk] at h
theorem row_en {r : List C} (h : kindsOk r kEn = true) : r = eEn (rowEn r) := by
  match r, h with
  | [a, b], h =>
    simp only [kindsOk, Bool.and_eq_true, and_true] at h
    obtain ⟨h1, h2⟩ := h
    have e1 := is_str h1
    have e2 := is_int h2
    show [a, b] = [.str a.toStr, .int .i64 b.toInt]
    rw [← e1, ← e2]
  | [], h => simp [kindsOk] at h
  | [_], h => simp [kindsOk] at h
  | _ :: _ :: _ :: _, h => simp [kindsOk] at h
theorem rows_nds {rows : List (List C)} (h : rowsOk kNd rows = true) : rows = (nds rows).map eNd := by
  simp only [rowsOk, List.all_eq_true] at h
  simp only [nds, List.map_map]
  rw [List.map_congr_left (g := id)]
  · simp
  · intro r hr; exact (row_nd (h r hr)).symm
theorem rows_ens {rows : List (List C)} (h : rowsOk kEn rows = true) : rows = (ens rows).map eEn := by
  simp only [rowsOk, List.all_eq_true] at h
  simp only [ens, List.map_map]
  rw [List.map_congr_left (g := id)]
  · simp
  · intro r hr; exact (row_en (h r hr)).symm
@[simp] theorem nds_map (l : List Nd) : nds (l.map eNd) = l := by simp [nds, rowNd, Function.comp_def, C.toInt, C.toStr]
@[simp] theorem ens_map (l : List En) : ens (l.map eEn) = l := by simp [ens, rowEn, Function.comp_def, C.toInt, C.toStr]
@[simp] theorem rowsOk_nds (l : List Nd) : rowsOk kNd (l.map eNd) = true := by simp [rowsOk, kindsOk, C.is]
@[simp] theorem rowsOk_ens (l : List En) : rowsOk kEn (l.map eEn) = true := by simp [rowsOk, kindsOk, C.is]
theorem flat_nds (l : List Nd) : ((l.map eNd).all fun r => r.all C.flat) = true := by simp [C.flat]
theorem flat_ens (l : List En) : ((l.map eEn).all fun r => r.all C.flat) = true := by simp [C.flat]
theorem texts_strs (l : List (List UInt8)) : textsOk (l.map eStr) = true ↔ ∀ x ∈ l, x.length ≤ 281474976710656 := by simp [textsOk]
theorem texts_nds (l : List Nd) : textsOk (l.map eNd) = true ↔ ∀ x ∈ l, x.text.length ≤ 281474976710656 := by simp [textsOk]
theorem texts_ens (l : List En) : textsOk (l.map eEn) = true ↔ ∀ x ∈ l, x.name.length ≤ 281474976710656 := by simp [textsOk]
theorem fit_texts {E : Env} {e : TypeId} {x : C} (h : Fit E (.slice e) x) : ∃ rows, x = .sl rows ∧ textsOk rows = true := by
  cases h with
  | @sl _ te rows h1 h2 h3 h4 =>
    refine ⟨rows, rfl, ?_⟩
    simp only [textsOk, List.all_eq_true]
    intro r hr c hc
    split
    · rename_i s
      obtain ⟨j, hj⟩ := List.getElem?_of_mem hc
      have hjl := (List.getElem?_eq_some_iff.1 hj).1
      have hlen := h3 r hr
      obtain ⟨s', hs, hl⟩ : ∃ s', C.str s = .str s' ∧ s'.length ≤ 140737488351232 := by
        have hk : te.leaves[j]? = some (te.leaves[j]'(by omega)) := List.getElem?_eq_getElem (by omega)
        have hf := h4 r hr j _ _ hk hj
        generalize te.leaves[j]'(by omega) = kd at hf
        cases hf with
        | str a => exact ⟨_, rfl, a⟩
      obtain rfl := C.str.inj hs
      simp only [decide_eq_true_eq]
      omega
    · rfl
theorem szEach_neg (ns : List Nat) (left : Int) (h : left < 0) (h0 : ns = [] → left = -1) : szEach ns left = -1 := by
  cases ns with
  | nil => exact h0 rfl
  | cons n r => simp only [szEach]; rw [if_pos (by omega)]
theorem szList_le (ns : List Nat) (left : Int) : szEach ns left ≤ left ∨ szEach ns left = -1 := by
  induction ns generalizing left with
  | nil => exact .inl (Int.le_refl _)
  | cons n r ih =>
    simp only [szEach]
    split
    · exact .inr rfl
    · rcases ih (left - n) with h | h
      · exact .inl (by omega)
      · exact .inr h
theorem szEach_sum (ns : List Nat) (left : Int) (h0 : 0 ≤ left) (h : 0 ≤ szEach ns left) : szEach ns left + (ns.sum : Int) = left := by
  induction ns generalizing left with
  | nil => simp [szEach]
  | cons n r ih =>
    simp only [szEach] at h ⊢
    split at h
    · omega
    · rename_i hn
      rw [if_neg hn]
      have := ih (left - n) (by omega) h
      simp only [List.sum_cons, Int.natCast_add]
      omega
theorem szList_sum (ns : List Nat) (left : Int) (h : 0 ≤ szList ns left) : szList ns left + (ns.length : Int) + (ns.sum : Int) = left := by
  unfold szList at h ⊢
  split at h
  · omega
  · rename_i hn
    rw [if_neg hn]
    have := szEach_sum ns _ (by omega) h
    omega
theorem take_eq_step {A : Type} {x y : List A} {i : Nat} (d : A) (hx : i < x.length) (hy : i < y.length) (h : x.take i = y.take i) (hd : x.getD i d = y.getD i d) : x.take (i + 1) = y.take (i + 1) := by
  rw [List.take_add_one, List.take_add_one, h]
  simp [List.getD_eq_getElem?_getD, hx, hy] at hd
  simp [hx, hy, hd]

theorem szStringS_loop (l : List (List UInt8)) (hl : l.length ≤ 281474976710656) (ht : ∀ x ∈ l, x.length ≤ 281474976710656) : ∀ (n i : Nat) (left : Int), i ≤ l.length → l.length < i + n → 0 ≤ left → left ≤ 1048576 →
    (vLoop E_szStringS noInl (sg [pSl 9, pI] [rI]) Try.f38 [.r, .r, .r, .l, .r, .b] n (H_szStringS (l.map eStr) left i)).eval = some [.int .i64 (szEach ((l.drop i).map List.length) left)] := by
  intro n
  induction n with
  | zero => intro i left h1 h2; omega
  | succ n ih =>
    intro i left h1 h2 h3 h4
    rw [vLoop_L _ _ _ _ _ _ _ (by kernel_rfl), szStringS_round0]
    by_cases hi : i < l.length
    · have g := map_getD eStr l [] i hi
      have hd : l.drop i = l.getD i [] :: l.drop (i + 1) := by rw [List.drop_eq_getElem_cons hi]; simp [List.getD_eq_getElem?_getD, hi]
      have hm : l.getD i [] ∈ l := by rw [List.getD_eq_getElem?_getD, List.getElem?_eq_getElem hi]; exact List.getElem_mem hi
      have hx := ht _ hm
      have w1 : IntKind.i64.wrap (left - ((l.getD i []).length : Int)) = left - ((l.getD i []).length : Int) := by rw [wrap64] <;> omega
      have w : IntKind.i64.wrap ((i : Int) + 1) = ((i + 1 : Nat) : Int) := by rw [wrap64] <;> omega
      have hz : (0 : Int) ≤ i := by omega
      have hi' : (i : Int) < l.length := by omega
      rw [hd, List.map_cons]
      simp only [eval_must', eval_ask', eval_ret', if_true, decide_eq_true_eq, Bool.and_eq_true, w, hz, hi', Int.toNat_natCast, List.length_map, g, and_self, List.getD_cons_zero, C.toStr, C.is, List.length_cons, List.length_nil, Nat.zero_add, Nat.zero_lt_succ, w1, szEach]
      by_cases hn : left - ((l.getD i []).length : Int) < 0
      · simp only [hn, if_true]
      · simp only [hn, if_false]
        exact ih (i + 1) _ (by omega) (by omega) (by omega) (by omega)
    · have e : i = l.length := by omega
      subst e
      have hi' : ¬ ((l.length : Int) < (l.length : Int)) := by omega
      simp only [eval_ask', eval_ret', decide_eq_true_eq, List.length_map, hi', if_false, List.drop_length, List.map_nil, szEach]
theorem szStringS_E : EnvSound Try.prog E_szStringS := mkE_sound (by simp [])
theorem szStringS_sound : Sound Try.prog 38 (sg [pSl 9, pI] [rI]) szStrSpec := vBody_sound szStringS_E noInl_ok Try.func38 (by kernel_rfl) fun cs outs hk h => by
  unfold szStrSpec at h
  split at h
  · simp only [Option.some.injEq, Prod.mk.injEq, Bool.and_eq_true, decide_eq_true_eq] at h
    obtain ⟨⟨⟨h1, h2⟩, h3, h4, h5⟩, rfl⟩ := h
    rename_i rows left
    have hr := rows_strs h4
    generalize strs rows = l at hr ⊢
    subst hr
    rw [List.length_map] at h3
    rw [vBody_L, szStringS_tree]
    have w : IntKind.i64.wrap (left - (l.length : Int)) = left - l.length := by rw [wrap64] <;> omega
    simp only [eval_ask', eval_ret', decide_eq_true_eq, List.length_map, w, szList]
    split
    · rfl
    · exact szStringS_loop l h3 ((texts_strs l).1 h5) _ 0 _ (by omega) (by omega) (by omega) (by omega)
  · cases h

theorem toStringS_loop (l : List (List UInt8)) (hl : l.length ≤ 1048576) : ∀ (n i : Nat), i ≤ l.length → l.length < i + n →
    (vLoop E_toStringS noInl (sg [pSl 9] [rSl 9]) Try.f40 [.r, .r, .l, .r, .b] n (H_toStringS (l.map eStr) l.length ((l.take i ++ List.replicate (l.length - i) []).map eStr) i)).eval = some [.sl (l.map eStr)] := by
  intro n
  induction n with
  | zero => intro i h1 h2; omega
  | succ n ih =>
    intro i h1 h2
    rw [vLoop_L _ _ _ _ _ _ _ (by kernel_rfl), toStringS_round0]
    by_cases hi : i < l.length
    · have e := ih (i + 1) (by omega) (by omega)
      rw [← copy_set l [] [] i hi, List.map_set] at e
      have w : IntKind.i64.wrap ((i : Int) + 1) = ((i + 1 : Nat) : Int) := by rw [wrap64] <;> omega
      have hz : (0 : Int) ≤ i := by omega
      have hi' : (i : Int) < l.length := by omega
      have g := map_getD eStr l [] i hi
      have hlen : (l.take i ++ List.replicate (l.length - i) ([] : List UInt8)).length = l.length := by simp; omega
      have g2 := map_getD eStr (l.take i ++ List.replicate (l.length - i) []) [] i (by omega)
      simp only [eval_must', eval_ask', eval_ret', if_true, decide_eq_true_eq, Bool.and_eq_true, w, hz, hi', Int.toNat_natCast, List.length_map, Nat.zero_add, g, g2, hlen, hi, and_self, List.getD_cons_zero, C.toStr, C.is, List.length_cons, List.length_nil, Nat.zero_lt_succ, List.drop_succ_cons, List.drop_nil]
      exact e
    · have : i = l.length := by omega
      subst this
      have f := flat_strs l
      simp [eval_must', eval_ask', eval_ret', C.flat]
theorem toStringS_E : EnvSound Try.prog E_toStringS := mkE_sound (by simp [])
theorem toStringS_sound : Sound Try.prog 40 (sg [pSl 9] [rSl 9]) toStrSpec := vBody_sound toStringS_E noInl_ok Try.func40 (by kernel_rfl) fun cs outs hk h => by
  unfold toStrSpec at h
  split at h
  · simp only [Option.some.injEq, Prod.mk.injEq, Bool.and_eq_true, decide_eq_true_eq] at h
    obtain ⟨⟨h1, h2⟩, rfl⟩ := h
    rename_i rows
    have hr := rows_strs h2
    generalize strs rows = l at hr
    subst hr
    rw [List.length_map] at h1
    rw [vBody_L, toStringS_tree]
    have c2 : (0 : Int) ≤ l.length := by omega
    have := toStringS_loop l h1 9223372036854775808 0 (by omega) (by omega)
    simp only [List.take_zero, List.nil_append, Nat.sub_zero, List.map_replicate] at this
    simp only [eval_must', if_true, decide_eq_true_eq, Bool.and_eq_true, List.length_map, Int.toNat_natCast, c2, Int.le_refl, and_self, true_and]
    rw [if_pos (by omega)]
    exact this
  · cases h

theorem eqStringS_loop (x y : List (List UInt8)) (hx : x.length ≤ 1073741824) (hl : x.length = y.length) : ∀ (n i : Nat), i ≤ x.length → x.length < i + n → x.take i = y.take i →
    (vLoop E_eqStringS noInl (sg [pSl 9, pSl 9] [rB]) Try.f42 [.r, .r, .l, .r, .b] n (H_eqStringS (x.map eStr) (y.map eStr) i)).eval = some [.bool (decide (x = y))] := by
  intro n
  induction n with
  | zero => intro i h1 h2; omega
  | succ n ih =>
    intro i h1 h2 h3
    rw [vLoop_L _ _ _ _ _ _ _ (by kernel_rfl), eqStringS_round0]
    by_cases hi : i < x.length
    · have hi2 : i < y.length := by omega
      have w : IntKind.i64.wrap ((i : Int) + 1) = ((i + 1 : Nat) : Int) := by rw [wrap64] <;> omega
      have hz : (0 : Int) ≤ i := by omega
      have g := map_getD eStr x [] i hi
      have g2 := map_getD eStr y [] i hi2
      simp only [eval_must', eval_ask', eval_ret', if_true, decide_eq_true_eq, Bool.and_eq_true, w, hz, Int.toNat_natCast, Int.ofNat_lt, List.length_map, g, g2, hi, hi2, and_self, List.getD_cons_zero, C.toStr, C.is, List.length_cons, List.length_nil, Nat.zero_add, Nat.zero_lt_succ, Bool.not_eq_true', beq_eq_false_iff_ne, ne_eq]
      by_cases hxy : x.getD i [] = y.getD i []
      · have e := ih (i + 1) (by omega) (by omega) (take_eq_step [] hi hi2 h3 hxy)
        simp only [hxy, not_true_eq_false, if_false]
        exact e
      · have : x ≠ y := fun h => hxy (by rw [h])
        simp only [hxy, not_false_eq_true, if_true, this, decide_false]
    · have e1 : i = x.length := by omega
      have : x = y := by
        rw [e1, List.take_length, hl, List.take_length] at h3
        exact h3
      have e2 : decide (x = y) = true := by simp [this]
      simp only [eval_must', eval_ask', eval_ret', decide_eq_true_eq, List.length_map, Int.ofNat_lt, hi, if_false, if_true, e2]
theorem eqStringS_E : EnvSound Try.prog E_eqStringS := mkE_sound (by simp [])
theorem eqStringS_sound : Sound Try.prog 42 (sg [pSl 9, pSl 9] [rB]) eqStrSpec := vBody_sound eqStringS_E noInl_ok Try.func42 (by kernel_rfl) fun cs outs hk h => by
  unfold eqStrSpec at h
  split at h
  · simp only [Option.some.injEq, Prod.mk.injEq, Bool.and_eq_true, decide_eq_true_eq] at h
    obtain ⟨⟨h1, h2, h3⟩, rfl⟩ := h
    rename_i x y
    have hx := rows_strs h2
    have hy := rows_strs h3
    generalize strs x = l at hx ⊢
    generalize strs y = m at hy ⊢
    subst hx; subst hy
    rw [List.length_map] at h1
    rw [vBody_L, eqStringS_tree]
    simp only [eval_must', eval_ask', eval_ret', if_true, bne_iff_ne, ne_eq, List.length_map, Int.ofNat_inj]
    by_cases hl : l.length = m.length
    · simp only [hl, not_true_eq_false, if_false]
      exact eqStringS_loop l m h1 hl _ 0 (by omega) (by omega) rfl
    · have : l ≠ m := fun h => hl (by rw [h])
      simp [hl, this]
  · cases h

end Go.Proofs.Ythpamcbipmkimaa.V

namespace Go.Proofs.Ythpamcbipmkimaa.V
noncomputable section

def pNode : PTy := .val true kNd
def rNode : RTy := ⟨true, [(.int .i64, false), (.str, false), (.int .i64, false)]⟩

def eqNd (i1 : Int) (t1 : List UInt8) (s1 i2 : Int) (t2 : List UInt8) (s2 : Int) : Bool := decide ((⟨i1, t1, s1⟩ : Nd) = ⟨i2, t2, s2⟩)
def eqNodeSpec : Spec := fun cs => match cs with
  | [.int .i64 i1, .str t1, .int .i64 s1, .int .i64 i2, .str t2, .int .i64 s2] => some (true, [.bool (eqNd i1 t1 s1 i2 t2 s2)])
  | _ => none
def eqNodeSSpec : Spec := fun cs => match cs with
  | [.sl x, .sl y] => some (decide (x.length ≤ 1048576) && (rowsOk kNd x && rowsOk kNd y), [.bool (decide (nds x = nds y))])
  | _ => none
def H_eqNodeS (x y : List (List C)) (i : Int) : St := st0 [(0, .l (.sl x)), (1, .l (.sl y)), (5, int64 i)]
def E_eqNode : Env := mkE [] []
def E_eqNodeS : Env := mkE [(4, [0, 1, 5])] [(176, (sg [pNode, pNode] [rB]), eqNodeSpec)]

def pEntry : PTy := .val true kEn
def rEntry : RTy := ⟨true, [(.str, false), (.int .i64, false)]⟩

def eqEn (t1 : List UInt8) (i1 : Int) (t2 : List UInt8) (i2 : Int) : Bool := decide ((⟨t1, i1⟩ : En) = ⟨t2, i2⟩)
def eqEntrySpec : Spec := fun cs => match cs with
  | [.str t1, .int .i64 i1, .str t2, .int .i64 i2] => some (true, [.bool (eqEn t1 i1 t2 i2)])
  | _ => none
def eqEntrySSpec : Spec := fun cs => match cs with
  | [.sl x, .sl y] => some (decide (x.length ≤ 1048576) && (rowsOk kEn x && rowsOk kEn y), [.bool (decide (ens x = ens y))])
  | _ => none
def H_eqEntryS (x y : List (List C)) (i : Int) : St := st0 [(0, .l (.sl x)), (1, .l (.sl y)), (5, int64 i)]
def E_eqEntry : Env := mkE [] []
def E_eqEntryS : Env := mkE [(4, [0, 1, 5])] [(177, (sg [pEntry, pEntry] [rB]), eqEntrySpec)]

end
end Go.Proofs.Ythpamcbipmkimaa.V

namespace Go.Proofs.Ythpamcbipmkimaa.V
set_option maxRecDepth 100000
theorem eqNode_tree (H : List Pt → Nat → St → T (List C)) (i1 : Int) (t1 : List UInt8) (s1 : Int) (i2 : Int) (t2 : List UInt8) (s2 : Int) : (vBodyL E_eqNode noInl (sg [pNode, pNode] [rB]) Try.f176 H
  [C.int IntKind.i64 i1, C.str t1, C.int IntKind.i64 s1, C.int IntKind.i64 i2, C.str t2, C.int IntKind.i64 s2]).eval =
 ((.ask (i1 != i2)
 (.ret [C.bool false])
 (.ask (!t1 == t2)
  (.ret [C.bool false])
  (.ask (s1 != s2)
   (.ret [C.bool false])
   (.ret [C.bool true])))) : T (List C)).eval := evalEq (by kernel_rfl)
theorem eqNodeS_tree (H : List Pt → Nat → St → T (List C)) (x : List (List C)) (y : List (List C)) : (vBodyL E_eqNodeS noInl (sg [pSl (157 : TypeId), pSl (157 : TypeId)] [rB]) Try.f157 H [C.sl x, C.sl y]).eval =
 ((.ask ((↑x.length : Int) != (↑y.length : Int))
 (.ret [C.bool false])
 (H [Pt.r, Pt.r, Pt.l, Pt.r, Pt.b] (9223372036854775808 : Nat) (H_eqNodeS (x) (y) ((0 : Int))))) : T (List C)).eval := evalEq (by kernel_rfl)
theorem eqNodeS_round0 (H : List Pt → Nat → St → T (List C)) (x : List (List C)) (y : List (List C)) (i : Int) (k : Nat) : (vRound E_eqNodeS noInl (sg [pSl (157 : TypeId), pSl (157 : TypeId)] [rB]) Try.f157 H [Pt.r, Pt.r, Pt.l, Pt.r, Pt.b] k
  (H_eqNodeS x y i)).eval =
 ((.ask (decide (i < (↑x.length : Int)))
 (.must (decide ((0 : Int) ≤ i) && decide (i < (↑x.length : Int)) && decide ((x.getD i.toNat []).length = (3 : Nat)))
  (.must (decide ((0 : Nat) < (x.getD i.toNat []).length) &&
    C.is (K.int IntKind.i64) ((x.getD i.toNat []).getD (0 : Nat) (C.fn (0 : FuncId) [])) &&
  (decide ((0 : Nat) + (1 : Nat) < (x.getD i.toNat []).length) &&
      C.is K.str ((x.getD i.toNat []).getD ((0 : Nat) + (1 : Nat)) (C.fn (0 : FuncId) [])) &&
    (decide ((0 : Nat) + (1 : Nat) + (1 : Nat) < (x.getD i.toNat []).length) &&
        C.is (K.int IntKind.i64)
          ((x.getD i.toNat []).getD ((0 : Nat) + (1 : Nat) + (1 : Nat)) (C.fn (0 : FuncId) [])) &&
      true)))
   (.must (decide ((0 : Int) ≤ i) && decide (i < (↑y.length : Int)) && decide ((y.getD i.toNat []).length = (3 : Nat)))
    (.must (decide ((0 : Nat) < (y.getD i.toNat []).length) &&
    C.is (K.int IntKind.i64) ((y.getD i.toNat []).getD (0 : Nat) (C.fn (0 : FuncId) [])) &&
  (decide ((0 : Nat) + (1 : Nat) < (y.getD i.toNat []).length) &&
      C.is K.str ((y.getD i.toNat []).getD ((0 : Nat) + (1 : Nat)) (C.fn (0 : FuncId) [])) &&
    (decide ((0 : Nat) + (1 : Nat) + (1 : Nat) < (y.getD i.toNat []).length) &&
        C.is (K.int IntKind.i64)
          ((y.getD i.toNat []).getD ((0 : Nat) + (1 : Nat) + (1 : Nat)) (C.fn (0 : FuncId) [])) &&
      true)))
     (.ask (eqNd ((x.getD i.toNat []).getD (0 : Nat) (C.fn (0 : FuncId) [])).toInt
  ((x.getD i.toNat []).getD ((0 : Nat) + (1 : Nat)) (C.fn (0 : FuncId) [])).toStr
  ((x.getD i.toNat []).getD ((0 : Nat) + (1 : Nat) + (1 : Nat)) (C.fn (0 : FuncId) [])).toInt
  ((y.getD i.toNat []).getD (0 : Nat) (C.fn (0 : FuncId) [])).toInt
  ((y.getD i.toNat []).getD ((0 : Nat) + (1 : Nat)) (C.fn (0 : FuncId) [])).toStr
  ((y.getD i.toNat []).getD ((0 : Nat) + (1 : Nat) + (1 : Nat)) (C.fn (0 : FuncId) [])).toInt)
      (H [Pt.r, Pt.r, Pt.l, Pt.r, Pt.b] k (H_eqNodeS (x) (y) (IntKind.i64.wrap (i + (1 : Int)))))
      (.ret [C.bool false]))))))
 (.ret [C.bool true])) : T (List C)).eval := evalEq (by kernel_rfl)
theorem eqEntry_tree (H : List Pt → Nat → St → T (List C)) (t1 : List UInt8) (i1 : Int) (t2 : List UInt8) (i2 : Int) : (vBodyL E_eqEntry noInl (sg [pEntry, pEntry] [rB]) Try.f177 H
  [C.str t1, C.int IntKind.i64 i1, C.str t2, C.int IntKind.i64 i2]).eval =
 ((.ask (!t1 == t2)
 (.ret [C.bool false])
 (.ask (i1 != i2)
  (.ret [C.bool false])
  (.ret [C.bool true]))) : T (List C)).eval := evalEq (by kernel_rfl)
theorem eqEntryS_tree (H : List Pt → Nat → St → T (List C)) (x : List (List C)) (y : List (List C)) : (vBodyL E_eqEntryS noInl (sg [pSl (160 : TypeId), pSl (160 : TypeId)] [rB]) Try.f158 H [C.sl x, C.sl y]).eval =
 ((.ask ((↑x.length : Int) != (↑y.length : Int))
 (.ret [C.bool false])
 (H [Pt.r, Pt.r, Pt.l, Pt.r, Pt.b] (9223372036854775808 : Nat) (H_eqEntryS (x) (y) ((0 : Int))))) : T (List C)).eval := evalEq (by kernel_rfl)
theorem eqEntryS_round0 (H : List Pt → Nat → St → T (List C)) (x : List (List C)) (y : List (List C)) (i : Int) (k : Nat) : (vRound E_eqEntryS noInl (sg [pSl (160 : TypeId), pSl (160 : TypeId)] [rB]) Try.f158 H [Pt.r, Pt.r, Pt.l, Pt.r, Pt.b] k
  (H_eqEntryS x y i)).eval =
 ((.ask (decide (i < (↑x.length : Int)))
 (.must (decide ((0 : Int) ≤ i) && decide (i < (↑x.length : Int)) && decide ((x.getD i.toNat []).length = (2 : Nat)))
  (.must (decide ((0 : Nat) < (x.getD i.toNat []).length) &&
    C.is K.str ((x.getD i.toNat []).getD (0 : Nat) (C.fn (0 : FuncId) [])) &&
  (decide ((0 : Nat) + (1 : Nat) < (x.getD i.toNat []).length) &&
      C.is (K.int IntKind.i64) ((x.getD i.toNat []).getD ((0 : Nat) + (1 : Nat)) (C.fn (0 : FuncId) [])) &&
    true))
   (.must (decide ((0 : Int) ≤ i) && decide (i < (↑y.length : Int)) && decide ((y.getD i.toNat []).length = (2 : Nat)))
    (.must (decide ((0 : Nat) < (y.getD i.toNat []).length) &&
    C.is K.str ((y.getD i.toNat []).getD (0 : Nat) (C.fn (0 : FuncId) [])) &&
  (decide ((0 : Nat) + (1 : Nat) < (y.getD i.toNat []).length) &&
      C.is (K.int IntKind.i64) ((y.getD i.toNat []).getD ((0 : Nat) + (1 : Nat)) (C.fn (0 : FuncId) [])) &&
    true))
     (.ask (eqEn ((x.getD i.toNat []).getD (0 : Nat) (C.fn (0 : FuncId) [])).toStr
  ((x.getD i.toNat []).getD ((0 : Nat) + (1 : Nat)) (C.fn (0 : FuncId) [])).toInt
  ((y.getD i.toNat []).getD (0 : Nat) (C.fn (0 : FuncId) [])).toStr
  ((y.getD i.toNat []).getD ((0 : Nat) + (1 : Nat)) (C.fn (0 : FuncId) [])).toInt)
      (H [Pt.r, Pt.r, Pt.l, Pt.r, Pt.b] k (H_eqEntryS (x) (y) (IntKind.i64.wrap (i + (1 : Int)))))
      (.ret [C.bool false]))))))
 (.ret [C.bool true])) : T (List C)).eval := evalEq (by kernel_rfl)
end Go.Proofs.Ythpamcbipmkimaa.V

namespace Go.Proofs.Ythpamcbipmkimaa.V

theorem eqNode_E : EnvSound Try.prog E_eqNode := mkE_sound (by simp [])
theorem eqNode_sound : Sound Try.prog 176 (sg [pNode, pNode] [rB]) eqNodeSpec := vBody_sound eqNode_E noInl_ok Try.func176 (by kernel_rfl) fun cs outs hk h => by
  unfold eqNodeSpec at h
  split at h
  · simp only [Option.some.injEq, Prod.mk.injEq, true_and] at h
    subst h
    rw [vBody_L, eqNode_tree]
    simp only [eval_ask', eval_must', eval_ret', bne_iff_ne, ne_eq, Bool.not_eq_true', beq_eq_false_iff_ne, eqNd, Nd.mk.injEq]
    repeat' split
    all_goals first | rfl | (simp_all; done)
  · cases h
theorem eqNodeS_loop (x y : List Nd) (hx : x.length ≤ 1048576) (hl : x.length = y.length) : ∀ (n i : Nat), i ≤ x.length → x.length < i + n → x.take i = y.take i →
    (vLoop E_eqNodeS noInl (sg [pSl 157, pSl 157] [rB]) Try.f157 [.r, .r, .l, .r, .b] n (H_eqNodeS (x.map eNd) (y.map eNd) i)).eval = some [.bool (decide (x = y))] := by
  intro n
  induction n with
  | zero => intro i h1 h2; omega
  | succ n ih =>
    intro i h1 h2 h3
    rw [vLoop_L _ _ _ _ _ _ _ (by kernel_rfl), eqNodeS_round0]
    by_cases hi : i < x.length
    · have hi2 : i < y.length := by omega
      have w : IntKind.i64.wrap ((i : Int) + 1) = ((i + 1 : Nat) : Int) := by rw [wrap64] <;> omega
      have hz : (0 : Int) ≤ i := by omega
      have g := map_getD eNd x ⟨0, [], 0⟩ i hi
      have g2 := map_getD eNd y ⟨0, [], 0⟩ i hi2
      simp only [eval_must', eval_ask', eval_ret', if_true, decide_eq_true_eq, Bool.and_eq_true, w, hz, Int.toNat_natCast, Int.ofNat_lt, List.length_map, g, g2, hi, hi2, and_self, List.getD_cons_zero, List.getD_cons_succ, C.toStr, C.toInt, C.is, List.length_cons, List.length_nil, Nat.zero_add, Nat.reduceAdd, Nat.reduceLT, decide_true, beq_self_eq_true]
      by_cases hxy : x.getD i ⟨0, [], 0⟩ = y.getD i ⟨0, [], 0⟩
      · have e := ih (i + 1) (by omega) (by omega) (take_eq_step ⟨0, [], 0⟩ hi hi2 h3 hxy)
        have he : eqNd (x.getD i ⟨0, [], 0⟩).id (x.getD i ⟨0, [], 0⟩).text (x.getD i ⟨0, [], 0⟩).sure (y.getD i ⟨0, [], 0⟩).id (y.getD i ⟨0, [], 0⟩).text (y.getD i ⟨0, [], 0⟩).sure = true := decide_eq_true hxy
        simp only [he, if_true]
        exact e
      · have : x ≠ y := fun h => hxy (by rw [h])
        have hne : eqNd (x.getD i ⟨0, [], 0⟩).id (x.getD i ⟨0, [], 0⟩).text (x.getD i ⟨0, [], 0⟩).sure (y.getD i ⟨0, [], 0⟩).id (y.getD i ⟨0, [], 0⟩).text (y.getD i ⟨0, [], 0⟩).sure = false := decide_eq_false hxy
        simp only [hne, decide_false, Bool.false_eq_true, if_false, this]
    · have e1 : i = x.length := by omega
      have : x = y := by
        rw [e1, List.take_length, hl, List.take_length] at h3
        exact h3
      have e2 : decide (x = y) = true := by simp [this]
      simp only [eval_must', eval_ask', eval_ret', decide_eq_true_eq, List.length_map, Int.ofNat_lt, hi, if_false, if_true, e2]
theorem eqNodeS_E : EnvSound Try.prog E_eqNodeS := mkE_sound (by simp [eqNode_sound])
theorem eqNodeS_sound : Sound Try.prog 157 (sg [pSl 157, pSl 157] [rB]) eqNodeSSpec := vBody_sound eqNodeS_E noInl_ok Try.func157 (by kernel_rfl) fun cs outs hk h => by
  unfold eqNodeSSpec at h
  split at h
  · simp only [Option.some.injEq, Prod.mk.injEq, Bool.and_eq_true, decide_eq_true_eq] at h
    obtain ⟨⟨h1, h2, h3⟩, rfl⟩ := h
    rename_i x y
    have hx := rows_nds h2
    have hy := rows_nds h3
    generalize nds x = l at hx ⊢
    generalize nds y = m at hy ⊢
    subst hx; subst hy
    rw [List.length_map] at h1
    rw [vBody_L, eqNodeS_tree]
    simp only [eval_must', eval_ask', eval_ret', if_true, bne_iff_ne, ne_eq, List.length_map, Int.ofNat_inj]
    by_cases hl : l.length = m.length
    · simp only [hl, not_true_eq_false, if_false]
      exact eqNodeS_loop l m h1 hl _ 0 (by omega) (by omega) rfl
    · have : l ≠ m := fun h => hl (by rw [h])
      simp [hl, this]
  · cases h

theorem eqEntry_E : EnvSound Try.prog E_eqEntry := mkE_sound (by simp [])
theorem eqEntry_sound : Sound Try.prog 177 (sg [pEntry, pEntry] [rB]) eqEntrySpec := vBody_sound eqEntry_E noInl_ok Try.func177 (by kernel_rfl) fun cs outs hk h => by
  unfold eqEntrySpec at h
  split at h
  · simp only [Option.some.injEq, Prod.mk.injEq, true_and] at h
    subst h
    rw [vBody_L, eqEntry_tree]
    simp only [eval_ask', eval_must', eval_ret', bne_iff_ne, ne_eq, Bool.not_eq_true', beq_eq_false_iff_ne, eqEn, En.mk.injEq]
    repeat' split
    all_goals first | rfl | (simp_all; done)
  · cases h
theorem eqEntryS_loop (x y : List En) (hx : x.length ≤ 1048576) (hl : x.length = y.length) : ∀ (n i : Nat), i ≤ x.length → x.length < i + n → x.take i = y.take i →
    (vLoop E_eqEntryS noInl (sg [pSl 160, pSl 160] [rB]) Try.f158 [.r, .r, .l, .r, .b] n (H_eqEntryS (x.map eEn) (y.map eEn) i)).eval = some [.bool (decide (x = y))] := by
  intro n
  induction n with
  | zero => intro i h1 h2; omega
  | succ n ih =>
    intro i h1 h2 h3
    rw [vLoop_L _ _ _ _ _ _ _ (by kernel_rfl), eqEntryS_round0]
    by_cases hi : i < x.length
    · have hi2 : i < y.length := by omega
      have w : IntKind.i64.wrap ((i : Int) + 1) = ((i + 1 : Nat) : Int) := by rw [wrap64] <;> omega
      have hz : (0 : Int) ≤ i := by omega
      have g := map_getD eEn x ⟨[], 0⟩ i hi
      have g2 := map_getD eEn y ⟨[], 0⟩ i hi2
      simp only [eval_must', eval_ask', eval_ret', if_true, decide_eq_true_eq, Bool.and_eq_true, w, hz, Int.toNat_natCast, Int.ofNat_lt, List.length_map, g, g2, hi, hi2, and_self, List.getD_cons_zero, List.getD_cons_succ, C.toStr, C.toInt, C.is, List.length_cons, List.length_nil, Nat.zero_add, Nat.reduceAdd, Nat.reduceLT, decide_true, beq_self_eq_true]
      by_cases hxy : x.getD i ⟨[], 0⟩ = y.getD i ⟨[], 0⟩
      · have e := ih (i + 1) (by omega) (by omega) (take_eq_step ⟨[], 0⟩ hi hi2 h3 hxy)
        have he : eqEn (x.getD i ⟨[], 0⟩).name (x.getD i ⟨[], 0⟩).id (y.getD i ⟨[], 0⟩).name (y.getD i ⟨[], 0⟩).id = true := decide_eq_true hxy
        simp only [he, if_true]
        exact e
      · have : x ≠ y := fun h => hxy (by rw [h])
        have hne : eqEn (x.getD i ⟨[], 0⟩).name (x.getD i ⟨[], 0⟩).id (y.getD i ⟨[], 0⟩).name (y.getD i ⟨[], 0⟩).id = false := decide_eq_false hxy
        simp only [hne, decide_false, Bool.false_eq_true, if_false, this]
    · have e1 : i = x.length := by omega
      have : x = y := by
        rw [e1, List.take_length, hl, List.take_length] at h3
        exact h3
      have e2 : decide (x = y) = true := by simp [this]
      simp only [eval_must', eval_ask', eval_ret', decide_eq_true_eq, List.length_map, Int.ofNat_lt, hi, if_false, if_true, e2]
theorem eqEntryS_E : EnvSound Try.prog E_eqEntryS := mkE_sound (by simp [eqEntry_sound])
theorem eqEntryS_sound : Sound Try.prog 158 (sg [pSl 160, pSl 160] [rB]) eqEntrySSpec := vBody_sound eqEntryS_E noInl_ok Try.func158 (by kernel_rfl) fun cs outs hk h => by
  unfold eqEntrySSpec at h
  split at h
  · simp only [Option.some.injEq, Prod.mk.injEq, Bool.and_eq_true, decide_eq_true_eq] at h
    obtain ⟨⟨h1, h2, h3⟩, rfl⟩ := h
    rename_i x y
    have hx := rows_ens h2
    have hy := rows_ens h3
    generalize ens x = l at hx ⊢
    generalize ens y = m at hy ⊢
    subst hx; subst hy
    rw [List.length_map] at h1
    rw [vBody_L, eqEntryS_tree]
    simp only [eval_must', eval_ask', eval_ret', if_true, bne_iff_ne, ne_eq, List.length_map, Int.ofNat_inj]
    by_cases hl : l.length = m.length
    · simp only [hl, not_true_eq_false, if_false]
      exact eqEntryS_loop l m h1 hl _ 0 (by omega) (by omega) rfl
    · have : l ≠ m := fun h => hl (by rw [h])
      simp [hl, this]
  · cases h

end Go.Proofs.Ythpamcbipmkimaa.V

namespace Go.Proofs.Ythpamcbipmkimaa.V
noncomputable section

def pDisk : PTy := .val true [.slice 157, .slice 160, .slice 160, .slice 9, .int .i64, .int .i64]
def rDisk : RTy := ⟨true, [(.slice 157, true), (.slice 160, true), (.slice 160, true), (.slice 9, true), (.int .i64, false), (.int .i64, false)]⟩
/-- rows that are a disk's -/
def diskRows (ns es os ss : List (List C)) : Bool := rowsOk kNd ns && rowsOk kEn es && rowsOk kEn os && rowsOk [.str] ss
def diskTexts (ns es os ss : List (List C)) : Bool := textsOk ns && textsOk es && textsOk os && textsOk ss
def diskLens (n : Nat) (ns es os ss : List (List C)) : Bool := decide (ns.length ≤ n) && decide (es.length ≤ n) && decide (os.length ≤ n) && decide (ss.length ≤ n)
def szThen (l : List Nat) (left : Int) : Int := if left < 0 then -1 else szList l left
def szDisk (ns : List Nd) (es os : List En) (ss : List (List UInt8)) (left : Int) : Int :=
  szThen (ss.map List.length) (szThen (os.map fun x => x.name.length) (szThen (es.map fun x => x.name.length) (szList (ns.map fun x => x.text.length) left)))

def eqDk (ns1 es1 os1 ss1 : List (List C)) (r1 x1 : Int) (ns2 es2 os2 ss2 : List (List C)) (r2 x2 : Int) : Bool :=
  decide (nds ns1 = nds ns2) && decide (ens es1 = ens es2) && decide (ens os1 = ens os2) && decide (strs ss1 = strs ss2) && decide (r1 = r2) && decide (x1 = x2)
def eqDiskSpec : Spec := fun cs => match cs with
  | [.sl ns1, .sl es1, .sl os1, .sl ss1, .int .i64 r1, .int .i64 x1, .sl ns2, .sl es2, .sl os2, .sl ss2, .int .i64 r2, .int .i64 x2] =>
    some (diskLens 1048576 ns1 es1 os1 ss1 && diskRows ns1 es1 os1 ss1 && diskRows ns2 es2 os2 ss2, [.bool (eqDk ns1 es1 os1 ss1 r1 x1 ns2 es2 os2 ss2 r2 x2)])
  | _ => none
def E_eqDisk : Env := mkE [] [(42, (sg [pSl 9, pSl 9] [rB]), eqStrSpec), (157, (sg [pSl 157, pSl 157] [rB]), eqNodeSSpec), (158, (sg [pSl 160, pSl 160] [rB]), eqEntrySSpec)]

end
end Go.Proofs.Ythpamcbipmkimaa.V

namespace Go.Proofs.Ythpamcbipmkimaa.V
set_option maxRecDepth 100000
theorem eqDisk_tree (H : List Pt → Nat → St → T (List C)) (ns1 : List (List C)) (es1 : List (List C)) (os1 : List (List C)) (ss1 : List (List C)) (r1 : Int) (x1 : Int) (ns2 : List (List C)) (es2 : List (List C)) (os2 : List (List C)) (ss2 : List (List C)) (r2 : Int) (x2 : Int) : (vBodyL E_eqDisk noInl (sg [pDisk, pDisk] [rB]) Try.f135 H
  [C.sl ns1, C.sl es1, C.sl os1, C.sl ss1, C.int IntKind.i64 r1, C.int IntKind.i64 x1, C.sl ns2, C.sl es2, C.sl os2,
    C.sl ss2, C.int IntKind.i64 r2, C.int IntKind.i64 x2]).eval =
 ((.must (decide (ns1.length ≤ (1048576 : Nat)) &&
  (rowsOk [K.int IntKind.i64, K.str, K.int IntKind.i64] ns1 && rowsOk [K.int IntKind.i64, K.str, K.int IntKind.i64] ns2))
 (.ask (decide (nds ns1 = nds ns2))
  (.must (decide (es1.length ≤ (1048576 : Nat)) &&
  (rowsOk [K.str, K.int IntKind.i64] es1 && rowsOk [K.str, K.int IntKind.i64] es2))
   (.ask (decide (ens es1 = ens es2))
    (.must (decide (os1.length ≤ (1048576 : Nat)) &&
  (rowsOk [K.str, K.int IntKind.i64] os1 && rowsOk [K.str, K.int IntKind.i64] os2))
     (.ask (decide (ens os1 = ens os2))
      (.must (decide (ss1.length ≤ (1073741824 : Nat)) && (rowsOk [K.str] ss1 && rowsOk [K.str] ss2))
       (.ask (decide (strs ss1 = strs ss2))
        (.ask (r1 != r2)
         (.ret [C.bool false])
         (.ask (x1 != x2)
          (.ret [C.bool false])
          (.ret [C.bool true])))
        (.ret [C.bool false])))
      (.ret [C.bool false])))
    (.ret [C.bool false])))
  (.ret [C.bool false]))) : T (List C)).eval := evalEq (by kernel_rfl)
end Go.Proofs.Ythpamcbipmkimaa.V

namespace Go.Proofs.Ythpamcbipmkimaa.V

theorem szEach_rng (l : List Nat) (left : Int) (h : 0 ≤ left) : szEach l left = -1 ∨ (0 ≤ szEach l left ∧ szEach l left ≤ left) := by
  induction l generalizing left with
  | nil => exact .inr ⟨h, Int.le_refl _⟩
  | cons n r ih =>
    simp only [szEach]
    split
    · exact .inl rfl
    · rcases ih (left - n) (by omega) with h | h
      · exact .inl h
      · exact .inr (by omega)
theorem szList_rng (l : List Nat) (left : Int) : szList l left = -1 ∨ (0 ≤ szList l left ∧ szList l left ≤ left) := by
  unfold szList
  split
  · exact .inl rfl
  · rcases szEach_rng l (left - l.length) (by omega) with h | h
    · exact .inl h
    · exact .inr (by omega)
theorem diskRows_iff {ns es os ss : List (List C)} : diskRows ns es os ss = true ↔ rowsOk kNd ns = true ∧ rowsOk kEn es = true ∧ rowsOk kEn os = true ∧ rowsOk [.str] ss = true := by simp [diskRows, and_assoc]
theorem diskTexts_iff {ns es os ss : List (List C)} : diskTexts ns es os ss = true ↔ textsOk ns = true ∧ textsOk es = true ∧ textsOk os = true ∧ textsOk ss = true := by simp [diskTexts, and_assoc]
theorem diskLens_iff {n : Nat} {ns es os ss : List (List C)} : diskLens n ns es os ss = true ↔ ns.length ≤ n ∧ es.length ≤ n ∧ os.length ≤ n ∧ ss.length ≤ n := by simp [diskLens, and_assoc]
theorem rows_lens {ks : List K} {rows : List (List C)} (h : rowsOk ks rows = true) : (rows.all fun row => decide (row.length = ks.length)) = true := by
  have key : ∀ (ks : List K) (r : List C), kindsOk r ks = true → r.length = ks.length := by
    intro ks
    induction ks with
    | nil => intro r h; cases r <;> simp [kindsOk] at h; rfl
    | cons k ks ih =>
      intro r h
      cases r with
      | nil => simp [kindsOk] at h
      | cons c r => simp only [kindsOk, Bool.and_eq_true] at h; simp [ih r h.2]
  simp only [rowsOk, List.all_eq_true, decide_eq_true_eq] at h ⊢
  exact fun r hr => key ks r (h r hr)
theorem flat_of_nd {rows : List (List C)} (h : rowsOk kNd rows = true) : (rows.all fun r => r.all C.flat) = true := by rw [rows_nds h]; exact flat_nds _
theorem flat_of_en {rows : List (List C)} (h : rowsOk kEn rows = true) : (rows.all fun r => r.all C.flat) = true := by rw [rows_ens h]; exact flat_ens _
theorem flat_of_str {rows : List (List C)} (h : rowsOk [.str] rows = true) : (rows.all fun r => r.all C.flat) = true := by rw [rows_strs h]; exact flat_strs _

theorem eqDisk_E : EnvSound Try.prog E_eqDisk := mkE_sound (by simp [eqStringS_sound, eqNodeS_sound, eqEntryS_sound])
theorem eqDisk_sound : Sound Try.prog 135 (sg [pDisk, pDisk] [rB]) eqDiskSpec := vBody_sound eqDisk_E noInl_ok Try.func135 (by kernel_rfl) fun cs outs hk h => by
  unfold eqDiskSpec at h
  split at h
  · simp only [Option.some.injEq, Prod.mk.injEq, Bool.and_eq_true, decide_eq_true_eq] at h
    obtain ⟨⟨⟨h3, h4⟩, h5⟩, rfl⟩ := h
    rename_i ns es os ss r x ns2 es2 os2 ss2 r2 x2
    rw [diskLens_iff] at h3
    rw [diskRows_iff] at h4 h5
    obtain ⟨l1, l2, l3, l4⟩ := h3
    obtain ⟨k1, k2, k3, k4⟩ := h4
    obtain ⟨q1, q2, q3, q4⟩ := h5
    rw [vBody_L, eqDisk_tree]
    simp only [kNd] at k1 q1
    simp only [kEn] at k2 k3 q2 q3
    have l5 : ss.length ≤ 1073741824 := by omega
    simp only [eval_must', eval_ask', eval_ret', l1, l2, l3, l4, l5, k1, k2, k3, k4, q1, q2, q3, q4, decide_true, Bool.and_self, if_true, eqDk, bne_iff_ne, ne_eq, decide_eq_true_eq]
    repeat' split
    all_goals first | rfl | (simp_all; done)
  · cases h

end Go.Proofs.Ythpamcbipmkimaa.V

namespace Go.Proofs.Ythpamcbipmkimaa.V
noncomputable section

def digN : Nat → Nat → List UInt8 → List UInt8
  | 0, _, out => out
  | f + 1, k, out => if k = 0 then out else digN f (k / 10) (UInt8.ofNat (48 + k % 10) :: out)
def markT (k : Int) : List UInt8 := if k ≤ 0 then [109, 48] else 109 :: digN 20 k.toNat []
def markTextSpec : Spec := fun cs => match cs with
  | [.int .i64 k] => some (decide (k ≤ 4611686018427387904), [.str (markT k)])
  | _ => none
def H_lMarkText (k : Int) (out : List UInt8) : St := st0 [(0, int64 k), (3, wstr out)]
def E_lMarkText : Env := mkE [(4, [0, 3])] []

/-- rows that are marked, from a number on, so many to a row -/
def mk (f : Int → List C) (s k : Int) (n : Nat) : List (List C) := (List.range n).map fun (i : Nat) => f (k + s * (i : Int))
def mkS (k : Int) : List C := eStr (markT k)
def markSSpec : Spec := fun cs => match cs with
  | [.sl rows, .int .i64 k] => some (rowsOk [.str] rows && (decide (rows.length ≤ 1073741824) && (decide (0 ≤ k) && decide (k ≤ 1099511627776))), [.int .i64 (k + rows.length), .sl (mk mkS 1 k rows.length)])
  | _ => none
def heldS : List (List UInt8) → Int → Int
  | [], k => k
  | x :: r, k => if x = markT k then heldS r (k + 1) else -1
def heldSSpec : Spec := fun cs => match cs with
  | [.sl rows, .int .i64 k] => some (rowsOk [.str] rows && (decide (rows.length ≤ 1073741824) && (decide (0 ≤ k) && decide (k ≤ 1099511627776))), [.int .i64 (heldS (strs rows) k)])
  | _ => none
def H_lMarkS (n : Nat) (r : List (List C)) (k i : Int) : St := { slots := [(0, .l (.ref 0 0 n)), (1, int64 k), (5, int64 i)], heap := [(0, .arr 1 r)], next := 1, pins := [0] }
def H_lHeldS (r : List (List C)) (k i : Int) : St := st0 [(0, .l (.sl r)), (1, int64 k), (5, int64 i)]
def pWS : PTy := .wr false [(.slice 9, true)]
def E_lMarkS : Env := mkE [(2, [0, 1, 5])] [(106, (sg [pI] [rS]), markTextSpec)]
def E_lHeldS : Env := mkE [(2, [0, 1, 5])] [(106, (sg [pI] [rS]), markTextSpec)]

def mkN (k : Int) : List C := [.int .i64 k, .str (markT (k + 1)), .int .i64 (k + 2)]
def mkE' (k : Int) : List C := [.str (markT k), .int .i64 (k + 1)]
def markNSpec : Spec := fun cs => match cs with
  | [.sl rows, .int .i64 k] => some (rowsOk kNd rows && (decide (rows.length ≤ 1048576) && (decide (0 ≤ k) && decide (k ≤ 1099511627776))), [.int .i64 (k + 3 * rows.length), .sl (mk mkN 3 k rows.length)])
  | _ => none
def markESpec : Spec := fun cs => match cs with
  | [.sl rows, .int .i64 k] => some (rowsOk kEn rows && (decide (rows.length ≤ 1048576) && (decide (0 ≤ k) && decide (k ≤ 1099511627776))), [.int .i64 (k + 2 * rows.length), .sl (mk mkE' 2 k rows.length)])
  | _ => none
def pWN : PTy := .wr false [(.slice 157, true)]
def pWE : PTy := .wr false [(.slice 160, true)]
def pWDisk : PTy := .wr true [(.slice 157, true), (.slice 160, true), (.slice 160, true), (.slice 9, true), (.int .i64, false), (.int .i64, false)]
def diskK (k : Int) (a b c d : Nat) : Int := k + 3 * a + 2 * b + 2 * c + d
def markDSpec : Spec := fun cs => match cs with
  | [.sl ns, .sl es, .sl os, .sl ss, .int .i64 _, .int .i64 _, .int .i64 k] => some (diskRows ns es os ss && (diskLens 1048576 ns es os ss && (decide (0 ≤ k) && decide (k ≤ 1073741824))), [.int .i64 (diskK k ns.length es.length os.length ss.length),
      .sl (mk mkN 3 k ns.length), .sl (mk mkE' 2 (k + 3 * ns.length) es.length), .sl (mk mkE' 2 (k + 3 * ns.length + 2 * es.length) os.length), .sl (mk mkS 1 (k + 3 * ns.length + 2 * es.length + 2 * os.length) ss.length)])
  | _ => none
def H_lMarkN (n : Nat) (r : List (List C)) (k i : Int) : St := { slots := [(0, .l (.ref 0 0 n)), (1, int64 k), (5, int64 i)], heap := [(0, .arr 3 r)], next := 1, pins := [0] }
def H_lMarkE (n : Nat) (r : List (List C)) (k i : Int) : St := { slots := [(0, .l (.ref 0 0 n)), (1, int64 k), (5, int64 i)], heap := [(0, .arr 2 r)], next := 1, pins := [0] }
def E_lMarkN : Env := mkE [(2, [0, 1, 5])] [(106, (sg [pI] [rS]), markTextSpec)]
def E_lMarkE : Env := mkE [(2, [0, 1, 5])] [(106, (sg [pI] [rS]), markTextSpec)]
def E_lMarkD : Env := mkE [] [(43, (sg [pWS, pI] [rI]), markSSpec), (159, (sg [pWN, pI] [rI]), markNSpec), (160, (sg [pWE, pI] [rI]), markESpec)]

def cloneSSpec : Spec := fun cs => match cs with
  | [.sl rows] => some (rowsOk [.str] rows && decide (rows.length ≤ 1099511627776), [.sl rows])
  | _ => none
def E_cloneS : Env := mkE [] []

end
end Go.Proofs.Ythpamcbipmkimaa.V

namespace Go.Proofs.Ythpamcbipmkimaa.V
set_option maxRecDepth 100000
theorem lMarkText_tree (H : List Pt → Nat → St → T (List C)) (k : Int) : (vBodyL E_lMarkText noInl (sg [pI] [rS]) Try.f106 H [C.int IntKind.i64 k]).eval =
 ((.ask (decide (k ≤ (0 : Int)))
 (.ret [C.str [(109 : UInt8), (48 : UInt8)]])
 (H [Pt.r, Pt.r, Pt.r, Pt.l, Pt.b] (9223372036854775808 : Nat) (H_lMarkText (k) ([])))) : T (List C)).eval := evalEq (by kernel_rfl)
theorem lMarkText_round0 (H : List Pt → Nat → St → T (List C)) (kk : Int) (o : List UInt8) (k : Nat) : (vRound E_lMarkText noInl (sg [pI] [rS]) Try.f106 H [Pt.r, Pt.r, Pt.r, Pt.l, Pt.b] k (H_lMarkText kk o)).eval =
 ((.ask (decide ((0 : Int) < kk))
 (.must (decide
  ((strOfRows [[C.int IntKind.u8 (IntKind.u8.wrap (IntKind.i64.wrap ((48 : Int) + kk.tmod (10 : Int))))]]).length +
      o.length ≤
    (9223372036854775807 : Nat)))
  (H [Pt.r, Pt.r, Pt.r, Pt.l, Pt.b] k (H_lMarkText (IntKind.i64.wrap (kk.tdiv (10 : Int))) (strOfRows [[C.int IntKind.u8 (IntKind.u8.wrap (IntKind.i64.wrap ((48 : Int) + kk.tmod (10 : Int))))]] ++ o))))
 (.must (decide ((1 : Nat) + o.length ≤ (9223372036854775807 : Nat)))
  (.ret [C.str ([(109 : UInt8)] ++ o)]))) : T (List C)).eval := evalEq (by kernel_rfl)
theorem lMarkS_tree (H : List Pt → Nat → St → T (List C)) (r : List (List C)) (k : Int) : (vBodyL E_lMarkS noInl (sg [pWS, pI] [rI]) Try.f43 H [C.sl r, C.int IntKind.i64 k]).eval =
 ((.must ((true && r.all fun row => decide (row.length = (1 : Nat))) && true &&
  (decide ((0 : Nat) < (1 : Nat)) && true && true && true))
 (H [Pt.r, Pt.l, Pt.r, Pt.b] (9223372036854775808 : Nat) (H_lMarkS (r.length) (r) (k) ((0 : Int))))) : T (List C)).eval := evalEq (by kernel_rfl)
theorem lHeldS_tree (H : List Pt → Nat → St → T (List C)) (r : List (List C)) (k : Int) : (vBodyL E_lHeldS noInl (sg [pSl (9 : TypeId), pI] [rI]) Try.f107 H [C.sl r, C.int IntKind.i64 k]).eval =
 ((H [Pt.r, Pt.l, Pt.r, Pt.b] (9223372036854775808 : Nat) (H_lHeldS (r) (k) ((0 : Int)))) : T (List C)).eval := evalEq (by kernel_rfl)
theorem lMarkS_round0 (H : List Pt → Nat → St → T (List C)) (n : Nat) (r : List (List C)) (kk : Int) (i : Int) (k : Nat) : (vRound E_lMarkS noInl (sg [pWS, pI] [rI]) Try.f43 H [Pt.r, Pt.l, Pt.r, Pt.b] k (H_lMarkS n r kk i)).eval =
 ((.ask (decide (i < (↑n : Int)))
 (.must (decide (kk ≤ (4611686018427387904 : Int)))
  (.must (decide ((0 : Int) ≤ i) && decide (i < (↑n : Int)))
   (.must (decide ((0 : Nat) + i.toNat < r.length))
    (H [Pt.r, Pt.l, Pt.r, Pt.b] k (H_lMarkS (n) (r.set ((0 : Nat) + i.toNat) (C.str (markT kk) :: List.drop ((0 : Nat) + (1 : Nat)) (r.getD ((0 : Nat) + i.toNat) []))) (IntKind.i64.wrap (kk + (1 : Int))) (IntKind.i64.wrap (i + (1 : Int))))))))
 (.must (true && (false || true) && true && true && ((false || r.all fun r => r.all C.flat) && true && true))
  (.ret [C.int IntKind.i64 kk, C.sl r]))) : T (List C)).eval := evalEq (by kernel_rfl)
theorem lHeldS_round0 (H : List Pt → Nat → St → T (List C)) (r : List (List C)) (kk : Int) (i : Int) (k : Nat) : (vRound E_lHeldS noInl (sg [pSl (9 : TypeId), pI] [rI]) Try.f107 H [Pt.r, Pt.l, Pt.r, Pt.b] k (H_lHeldS r kk i)).eval =
 ((.ask (decide (i < (↑r.length : Int)))
 (.must (decide ((0 : Int) ≤ i) && decide (i < (↑r.length : Int)) && decide ((r.getD i.toNat []).length = (1 : Nat)))
  (.must (decide ((0 : Nat) < (r.getD i.toNat []).length) &&
    C.is K.str ((r.getD i.toNat []).getD (0 : Nat) (C.fn (0 : FuncId) [])) &&
  true)
   (.must (decide (kk ≤ (4611686018427387904 : Int)))
    (.ask (!((r.getD i.toNat []).getD (0 : Nat) (C.fn (0 : FuncId) [])).toStr == markT kk)
     (.ret [C.int IntKind.i64 (-1 : Int)])
     (H [Pt.r, Pt.l, Pt.r, Pt.b] k (H_lHeldS (r) (IntKind.i64.wrap (kk + (1 : Int))) (IntKind.i64.wrap (i + (1 : Int)))))))))
 (.ret [C.int IntKind.i64 kk])) : T (List C)).eval := evalEq (by kernel_rfl)
theorem lMarkN_tree (H : List Pt → Nat → St → T (List C)) (r : List (List C)) (k : Int) : (vBodyL E_lMarkN noInl (sg [pWN, pI] [rI]) Try.f159 H [C.sl r, C.int IntKind.i64 k]).eval =
 ((.must ((true && r.all fun row => decide (row.length = (3 : Nat))) && true &&
  (decide ((0 : Nat) < (1 : Nat)) && true && true && true))
 (H [Pt.r, Pt.l, Pt.r, Pt.b] (9223372036854775808 : Nat) (H_lMarkN (r.length) (r) (k) ((0 : Int))))) : T (List C)).eval := evalEq (by kernel_rfl)
theorem lMarkE_tree (H : List Pt → Nat → St → T (List C)) (r : List (List C)) (k : Int) : (vBodyL E_lMarkE noInl (sg [pWE, pI] [rI]) Try.f160 H [C.sl r, C.int IntKind.i64 k]).eval =
 ((.must ((true && r.all fun row => decide (row.length = (2 : Nat))) && true &&
  (decide ((0 : Nat) < (1 : Nat)) && true && true && true))
 (H [Pt.r, Pt.l, Pt.r, Pt.b] (9223372036854775808 : Nat) (H_lMarkE (r.length) (r) (k) ((0 : Int))))) : T (List C)).eval := evalEq (by kernel_rfl)
theorem lMarkN_round0 (H : List Pt → Nat → St → T (List C)) (n : Nat) (r : List (List C)) (kk : Int) (i : Int) (k : Nat) : (vRound E_lMarkN noInl (sg [pWN, pI] [rI]) Try.f159 H [Pt.r, Pt.l, Pt.r, Pt.b] k (H_lMarkN n r kk i)).eval =
 ((.ask (decide (i < (↑n : Int)))
 (.must (decide ((0 : Int) ≤ i) && decide (i < (↑n : Int)))
  (.must (decide ((0 : Nat) + i.toNat < r.length))
   (.must (decide (IntKind.i64.wrap (kk + (1 : Int)) ≤ (4611686018427387904 : Int)))
    (.must (decide ((0 : Int) ≤ i) && decide (i < (↑n : Int)))
     (.must (decide
  ((0 : Nat) + i.toNat <
    (r.set ((0 : Nat) + i.toNat)
        (C.int IntKind.i64 kk ::
          List.drop ((0 : Nat) + (0 : Nat) + (1 : Nat)) (r.getD ((0 : Nat) + i.toNat) []))).length))
      (.must (decide ((0 : Int) ≤ i) && decide (i < (↑n : Int)))
       (.must (decide
  ((0 : Nat) + i.toNat <
    ((r.set ((0 : Nat) + i.toNat)
            (C.int IntKind.i64 kk ::
              List.drop ((0 : Nat) + (0 : Nat) + (1 : Nat)) (r.getD ((0 : Nat) + i.toNat) []))).set
        ((0 : Nat) + i.toNat)
        (((List.take ((0 : Nat) + (1 : Nat))
                  ((r.set ((0 : Nat) + i.toNat)
                        (C.int IntKind.i64 kk ::
                          List.drop ((0 : Nat) + (0 : Nat) + (1 : Nat)) (r.getD ((0 : Nat) + i.toNat) []))).getD
                    ((0 : Nat) + i.toNat) [])).append
              [C.str (markT (IntKind.i64.wrap (kk + (1 : Int))))]).append
          (List.drop ((0 : Nat) + (1 : Nat) + (1 : Nat))
            ((r.set ((0 : Nat) + i.toNat)
                  (C.int IntKind.i64 kk ::
                    List.drop ((0 : Nat) + (0 : Nat) + (1 : Nat)) (r.getD ((0 : Nat) + i.toNat) []))).getD
              ((0 : Nat) + i.toNat) [])))).length))
        (H [Pt.r, Pt.l, Pt.r, Pt.b] k (H_lMarkN (n) (((r.set ((0 : Nat) + i.toNat)
          (C.int IntKind.i64 kk :: List.drop ((0 : Nat) + (0 : Nat) + (1 : Nat)) (r.getD ((0 : Nat) + i.toNat) []))).set
      ((0 : Nat) + i.toNat)
      (((List.take ((0 : Nat) + (1 : Nat))
                ((r.set ((0 : Nat) + i.toNat)
                      (C.int IntKind.i64 kk ::
                        List.drop ((0 : Nat) + (0 : Nat) + (1 : Nat)) (r.getD ((0 : Nat) + i.toNat) []))).getD
                  ((0 : Nat) + i.toNat) [])).append
            [C.str (markT (IntKind.i64.wrap (kk + (1 : Int))))]).append
        (List.drop ((0 : Nat) + (1 : Nat) + (1 : Nat))
          ((r.set ((0 : Nat) + i.toNat)
                (C.int IntKind.i64 kk ::
                  List.drop ((0 : Nat) + (0 : Nat) + (1 : Nat)) (r.getD ((0 : Nat) + i.toNat) []))).getD
            ((0 : Nat) + i.toNat) [])))).set
  ((0 : Nat) + i.toNat)
  (((List.take ((0 : Nat) + (2 : Nat))
            (((r.set ((0 : Nat) + i.toNat)
                      (C.int IntKind.i64 kk ::
                        List.drop ((0 : Nat) + (0 : Nat) + (1 : Nat)) (r.getD ((0 : Nat) + i.toNat) []))).set
                  ((0 : Nat) + i.toNat)
                  (((List.take ((0 : Nat) + (1 : Nat))
                            ((r.set ((0 : Nat) + i.toNat)
                                  (C.int IntKind.i64 kk ::
                                    List.drop ((0 : Nat) + (0 : Nat) + (1 : Nat))
                                      (r.getD ((0 : Nat) + i.toNat) []))).getD
                              ((0 : Nat) + i.toNat) [])).append
                        [C.str (markT (IntKind.i64.wrap (kk + (1 : Int))))]).append
                    (List.drop ((0 : Nat) + (1 : Nat) + (1 : Nat))
                      ((r.set ((0 : Nat) + i.toNat)
                            (C.int IntKind.i64 kk ::
                              List.drop ((0 : Nat) + (0 : Nat) + (1 : Nat)) (r.getD ((0 : Nat) + i.toNat) []))).getD
                        ((0 : Nat) + i.toNat) [])))).getD
              ((0 : Nat) + i.toNat) [])).append
        [C.int IntKind.i64 (IntKind.i64.wrap (IntKind.i64.wrap (kk + (1 : Int)) + (1 : Int)))]).append
    (List.drop ((0 : Nat) + (2 : Nat) + (1 : Nat))
      (((r.set ((0 : Nat) + i.toNat)
                (C.int IntKind.i64 kk ::
                  List.drop ((0 : Nat) + (0 : Nat) + (1 : Nat)) (r.getD ((0 : Nat) + i.toNat) []))).set
            ((0 : Nat) + i.toNat)
            (((List.take ((0 : Nat) + (1 : Nat))
                      ((r.set ((0 : Nat) + i.toNat)
                            (C.int IntKind.i64 kk ::
                              List.drop ((0 : Nat) + (0 : Nat) + (1 : Nat)) (r.getD ((0 : Nat) + i.toNat) []))).getD
                        ((0 : Nat) + i.toNat) [])).append
                  [C.str (markT (IntKind.i64.wrap (kk + (1 : Int))))]).append
              (List.drop ((0 : Nat) + (1 : Nat) + (1 : Nat))
                ((r.set ((0 : Nat) + i.toNat)
                      (C.int IntKind.i64 kk ::
                        List.drop ((0 : Nat) + (0 : Nat) + (1 : Nat)) (r.getD ((0 : Nat) + i.toNat) []))).getD
                  ((0 : Nat) + i.toNat) [])))).getD
        ((0 : Nat) + i.toNat) [])))) (IntKind.i64.wrap (IntKind.i64.wrap (IntKind.i64.wrap (kk + (1 : Int)) + (1 : Int)) + (1 : Int))) (IntKind.i64.wrap (i + (1 : Int))))))))))))
 (.must (true && (false || true) && true && true && ((false || r.all fun r => r.all C.flat) && true && true))
  (.ret [C.int IntKind.i64 kk, C.sl r]))) : T (List C)).eval := evalEq (by kernel_rfl)
theorem lMarkE_round0 (H : List Pt → Nat → St → T (List C)) (n : Nat) (r : List (List C)) (kk : Int) (i : Int) (k : Nat) : (vRound E_lMarkE noInl (sg [pWE, pI] [rI]) Try.f160 H [Pt.r, Pt.l, Pt.r, Pt.b] k (H_lMarkE n r kk i)).eval =
 ((.ask (decide (i < (↑n : Int)))
 (.must (decide (kk ≤ (4611686018427387904 : Int)))
  (.must (decide ((0 : Int) ≤ i) && decide (i < (↑n : Int)))
   (.must (decide ((0 : Nat) + i.toNat < r.length))
    (.must (decide ((0 : Int) ≤ i) && decide (i < (↑n : Int)))
     (.must (decide
  ((0 : Nat) + i.toNat <
    (r.set ((0 : Nat) + i.toNat)
        (C.str (markT kk) :: List.drop ((0 : Nat) + (0 : Nat) + (1 : Nat)) (r.getD ((0 : Nat) + i.toNat) []))).length))
      (H [Pt.r, Pt.l, Pt.r, Pt.b] k (H_lMarkE (n) ((r.set ((0 : Nat) + i.toNat)
      (C.str (markT kk) :: List.drop ((0 : Nat) + (0 : Nat) + (1 : Nat)) (r.getD ((0 : Nat) + i.toNat) []))).set
  ((0 : Nat) + i.toNat)
  (((List.take ((0 : Nat) + (1 : Nat))
            ((r.set ((0 : Nat) + i.toNat)
                  (C.str (markT kk) ::
                    List.drop ((0 : Nat) + (0 : Nat) + (1 : Nat)) (r.getD ((0 : Nat) + i.toNat) []))).getD
              ((0 : Nat) + i.toNat) [])).append
        [C.int IntKind.i64 (IntKind.i64.wrap (kk + (1 : Int)))]).append
    (List.drop ((0 : Nat) + (1 : Nat) + (1 : Nat))
      ((r.set ((0 : Nat) + i.toNat)
            (C.str (markT kk) :: List.drop ((0 : Nat) + (0 : Nat) + (1 : Nat)) (r.getD ((0 : Nat) + i.toNat) []))).getD
        ((0 : Nat) + i.toNat) [])))) (IntKind.i64.wrap (IntKind.i64.wrap (kk + (1 : Int)) + (1 : Int))) (IntKind.i64.wrap (i + (1 : Int))))))))))
 (.must (true && (false || true) && true && true && ((false || r.all fun r => r.all C.flat) && true && true))
  (.ret [C.int IntKind.i64 kk, C.sl r]))) : T (List C)).eval := evalEq (by kernel_rfl)
theorem lMarkD_tree (H : List Pt → Nat → St → T (List C)) (ns : List (List C)) (es : List (List C)) (os : List (List C)) (ss : List (List C)) (r : Int) (x : Int) (k : Int) : (vBodyL E_lMarkD noInl (sg [pWDisk, pI] [rI]) Try.f137 H
  [C.sl ns, C.sl es, C.sl os, C.sl ss, C.int IntKind.i64 r, C.int IntKind.i64 x, C.int IntKind.i64 k]).eval =
 ((.must ((true && ns.all fun row => decide (row.length = (3 : Nat))) &&
    ((true && es.all fun row => decide (row.length = (2 : Nat))) &&
      ((true && os.all fun row => decide (row.length = (2 : Nat))) &&
        ((true && ss.all fun row => decide (row.length = (1 : Nat))) &&
          (decide ((0 : Nat) < (1 : Nat)) && true && (decide ((0 : Nat) < (1 : Nat)) && true && true))))) &&
  (decide ((0 : Nat) < (1 : Nat)) && true && true && true))
 (.must (true && (true && true) && (decide (ns.length = ns.length) && true && true))
  (.must (rowsOk [K.int IntKind.i64, K.str, K.int IntKind.i64] ns &&
  (decide (ns.length ≤ (1048576 : Nat)) && (decide ((0 : Int) ≤ k) && decide (k ≤ (1099511627776 : Int)))))
   (.must (decide ((0 : Nat) < (1 : Nat)) && true && true && true &&
  ((decide ((mk mkN (3 : Int) k ns.length).length = ns.length) &&
        (mk mkN (3 : Int) k ns.length).all fun r => decide (r.length = (3 : Nat))) &&
      true &&
    true))
    (.must (true && (true && true) && (decide (es.length = es.length) && true && true))
     (.must (rowsOk [K.str, K.int IntKind.i64] es &&
  (decide (es.length ≤ (1048576 : Nat)) &&
    (decide ((0 : Int) ≤ k + (3 : Int) * (↑ns.length : Int)) &&
      decide (k + (3 : Int) * (↑ns.length : Int) ≤ (1099511627776 : Int)))))
      (.must (decide ((0 : Nat) < (1 : Nat)) && true && true && true &&
  ((decide ((mk mkE' (2 : Int) (k + (3 : Int) * (↑ns.length : Int)) es.length).length = es.length) &&
        (mk mkE' (2 : Int) (k + (3 : Int) * (↑ns.length : Int)) es.length).all fun r =>
          decide (r.length = (2 : Nat))) &&
      true &&
    true))
       (.must (true && (true && true) && (decide (os.length = os.length) && true && true))
        (.must (rowsOk [K.str, K.int IntKind.i64] os &&
  (decide (os.length ≤ (1048576 : Nat)) &&
    (decide ((0 : Int) ≤ k + (3 : Int) * (↑ns.length : Int) + (2 : Int) * (↑es.length : Int)) &&
      decide (k + (3 : Int) * (↑ns.length : Int) + (2 : Int) * (↑es.length : Int) ≤ (1099511627776 : Int)))))
         (.must (decide ((0 : Nat) < (1 : Nat)) && true && true && true &&
  ((decide
          ((mk mkE' (2 : Int) (k + (3 : Int) * (↑ns.length : Int) + (2 : Int) * (↑es.length : Int)) os.length).length =
            os.length) &&
        (mk mkE' (2 : Int) (k + (3 : Int) * (↑ns.length : Int) + (2 : Int) * (↑es.length : Int)) os.length).all fun r =>
          decide (r.length = (2 : Nat))) &&
      true &&
    true))
          (.must (true && (true && true) && (decide (ss.length = ss.length) && true && true))
           (.must (rowsOk [K.str] ss &&
  (decide (ss.length ≤ (1073741824 : Nat)) &&
    (decide
        ((0 : Int) ≤
          k + (3 : Int) * (↑ns.length : Int) + (2 : Int) * (↑es.length : Int) + (2 : Int) * (↑os.length : Int)) &&
      decide
        (k + (3 : Int) * (↑ns.length : Int) + (2 : Int) * (↑es.length : Int) + (2 : Int) * (↑os.length : Int) ≤
          (1099511627776 : Int)))))
            (.must (decide ((0 : Nat) < (1 : Nat)) && true && true && true &&
  ((decide
          ((mk mkS (1 : Int)
                (k + (3 : Int) * (↑ns.length : Int) + (2 : Int) * (↑es.length : Int) + (2 : Int) * (↑os.length : Int))
                ss.length).length =
            ss.length) &&
        (mk mkS (1 : Int)
              (k + (3 : Int) * (↑ns.length : Int) + (2 : Int) * (↑es.length : Int) + (2 : Int) * (↑os.length : Int))
              ss.length).all
          fun r => decide (r.length = (1 : Nat))) &&
      true &&
    true))
             (.must (true && (false || true) && true && true &&
  ((false || (mk mkN (3 : Int) k ns.length).all fun r => r.all C.flat) &&
      ((false || (mk mkE' (2 : Int) (k + (3 : Int) * (↑ns.length : Int)) es.length).all fun r => r.all C.flat) &&
        ((false ||
            (mk mkE' (2 : Int) (k + (3 : Int) * (↑ns.length : Int) + (2 : Int) * (↑es.length : Int)) os.length).all
              fun r => r.all C.flat) &&
          ((false ||
              (mk mkS (1 : Int)
                    (k + (3 : Int) * (↑ns.length : Int) + (2 : Int) * (↑es.length : Int) +
                      (2 : Int) * (↑os.length : Int))
                    ss.length).all
                fun r => r.all C.flat) &&
            true))) &&
    true))
              (.ret [C.int IntKind.i64
    (k + (3 : Int) * (↑ns.length : Int) + (2 : Int) * (↑es.length : Int) + (2 : Int) * (↑os.length : Int) +
      (↑ss.length : Int)),
  C.sl (mk mkN (3 : Int) k ns.length), C.sl (mk mkE' (2 : Int) (k + (3 : Int) * (↑ns.length : Int)) es.length),
  C.sl (mk mkE' (2 : Int) (k + (3 : Int) * (↑ns.length : Int) + (2 : Int) * (↑es.length : Int)) os.length),
  C.sl
    (mk mkS (1 : Int)
      (k + (3 : Int) * (↑ns.length : Int) + (2 : Int) * (↑es.length : Int) + (2 : Int) * (↑os.length : Int)) ss.length)]))))))))))))))) : T (List C)).eval := evalEq (by kernel_rfl)
theorem cloneS_no (r : List (List C)) : vBodyN E_cloneS noInl [false] (sg [pSl (9 : TypeId)] [rSl (9 : TypeId)]) Try.f105 [C.sl r] =
 (.must true
 (.ask (false)
  (.must true
   (.ret [C.sl []]))
  (.must (decide ((0 : Nat) = (0 : Nat)) && roomy ((0 : Nat) + r.length) (16 : Nat) &&
  r.all fun r => decide (r.length = (1 : Nat)))
   (.must (decide ((0 : Nat) + r.length = r.length) && (false || r.all fun r => r.all C.flat) && true && true && true)
    (.ret [C.sl r]))))) := by kernel_rfl
theorem cloneS_nil (z : Nat) : vBodyN E_cloneS noInl [true] (sg [pSl (9 : TypeId)] [rSl (9 : TypeId)]) Try.f105 [C.sl []] =
 (.must true
 (.ask true
  (.must true
   (.ret [C.sl []]))
  (.must true
   (.must true
    (.ret [C.sl []]))))) := by kernel_rfl
end Go.Proofs.Ythpamcbipmkimaa.V

namespace Go.Proofs.Ythpamcbipmkimaa.V

theorem lMarkText_loop : ∀ (f k : Nat) (o : List UInt8) (n : Nat), k < 10 ^ f → f < n → o.length + f ≤ 1000 → k ≤ 4611686018427387904 →
    (vLoop E_lMarkText noInl (sg [pI] [rS]) Try.f106 [.r, .r, .r, .l, .b] n (H_lMarkText k o)).eval = some [.str (109 :: digN f k o)] := by
  have stop : ∀ (f : Nat) (o : List UInt8) (n : Nat), 0 < n → o.length ≤ 1000 → (vLoop E_lMarkText noInl (sg [pI] [rS]) Try.f106 [.r, .r, .r, .l, .b] n (H_lMarkText (0 : Nat) o)).eval = some [.str (109 :: digN f 0 o)] := by
    intro f o n hn ho
    obtain ⟨m, rfl⟩ : ∃ m, n = m + 1 := ⟨n - 1, by omega⟩
    rw [vLoop_L _ _ _ _ _ _ _ (by kernel_rfl), lMarkText_round0]
    have h1 : 1 + o.length ≤ 9223372036854775807 := by omega
    have h2 : digN f 0 o = o := by cases f <;> simp [digN]
    have h3 : ¬ ((0 : Int) < ((0 : Nat) : Int)) := by omega
    simp only [eval_ask', eval_must', eval_ret', decide_eq_true_eq, h3, if_false, h1, if_true, h2]
    rfl
  intro f
  induction f with
  | zero =>
    intro k o n hk hn ho _
    have : k = 0 := by simpa using hk
    subst this
    exact stop 0 o n (by omega) (by omega)
  | succ f ih =>
    intro k o n hk hn ho hkk
    by_cases h0 : k = 0
    · subst h0; exact stop (f + 1) o n (by omega) (by omega)
    · obtain ⟨m, rfl⟩ : ∃ m, n = m + 1 := ⟨n - 1, by omega⟩
      rw [vLoop_L _ _ _ _ _ _ _ (by kernel_rfl), lMarkText_round0]
      have hpos : (0 : Int) < (k : Int) := by omega
      have e1 : (k : Int).tmod 10 = ((k % 10 : Nat) : Int) := by rw [Int.tmod_eq_emod_of_nonneg (by omega)]; omega
      have e2 : (k : Int).tdiv 10 = ((k / 10 : Nat) : Int) := by rw [Int.tdiv_eq_ediv_of_nonneg (by omega)]; omega
      have w1 : IntKind.i64.wrap ((48 : Int) + ((k % 10 : Nat) : Int)) = ((48 + k % 10 : Nat) : Int) := by rw [wrap64] <;> omega
      have w2 : IntKind.u8.wrap (((48 + k % 10 : Nat) : Int)) = ((48 + k % 10 : Nat) : Int) := by rw [wrapU8] <;> omega
      have w3 : IntKind.i64.wrap (((k / 10 : Nat) : Int)) = ((k / 10 : Nat) : Int) := by rw [wrap64] <;> omega
      have e3 : strOfRows [[C.int IntKind.u8 ((48 + k % 10 : Nat) : Int)]] = [UInt8.ofNat (48 + k % 10)] := by show [UInt8.ofNat (((48 + k % 10 : Nat) : Int)).toNat] = _; rw [Int.toNat_natCast]
      have e4 : digN (f + 1) k o = digN f (k / 10) (UInt8.ofNat (48 + k % 10) :: o) := by simp [digN, h0]
      rw [e1, w1, w2, e2, w3, e3, e4]
      have h1 : 1 + o.length ≤ 9223372036854775807 := by omega
      simp only [eval_ask', eval_must', decide_eq_true_eq, hpos, if_true, List.length_cons, List.length_nil, Nat.zero_add, h1, List.cons_append, List.nil_append]
      exact ih (k / 10) _ m (by rw [Nat.pow_succ] at hk; omega) (by omega) (by simp; omega) (by omega)
theorem lMarkText_E : EnvSound Try.prog E_lMarkText := mkE_sound (by simp [])
theorem lMarkText_sound : Sound Try.prog 106 (sg [pI] [rS]) markTextSpec := vBody_sound lMarkText_E noInl_ok Try.func106 (by kernel_rfl) fun cs outs hk h => by
  unfold markTextSpec at h
  split at h
  · simp only [Option.some.injEq, Prod.mk.injEq, decide_eq_true_eq] at h
    obtain ⟨h1, rfl⟩ := h
    rename_i k
    rw [vBody_L, lMarkText_tree]
    by_cases hk : k ≤ 0
    · simp only [eval_ask', eval_ret', decide_eq_true_eq, hk, if_true, markT]
    · obtain ⟨m, rfl⟩ : ∃ m : Nat, k = m := ⟨k.toNat, by omega⟩
      have := lMarkText_loop 20 m [] 9223372036854775808 (by omega) (by omega) (by simp) (by omega)
      simp only [eval_ask', decide_eq_true_eq, hk, if_false, markT, Int.toNat_natCast]
      exact this
  · cases h

theorem mk_len (f : Int → List C) (s k : Int) (n : Nat) : (mk f s k n).length = n := by simp [mk]
theorem mk_succ (f : Int → List C) (s k : Int) (n : Nat) : mk f s k (n + 1) = mk f s k n ++ [f (k + s * n)] := by simp [mk, List.range_succ]
theorem mk_all (f : Int → List C) (s k : Int) (n : Nat) (p : List C → Bool) (h : ∀ k, p (f k) = true) : (mk f s k n).all p = true := by simp [mk, h]
theorem set_mid {A : Type} (a l : List A) (i : Nat) (x : A) (ha : a.length = i) (hi : i < l.length) : (a ++ l.drop i).set i x = (a ++ [x]) ++ l.drop (i + 1) := by
  rw [List.drop_eq_getElem_cons hi, List.set_append_right _ _ (by omega), ha, Nat.sub_self, List.set_cons_zero, List.append_assoc]
  rfl
theorem getD_mid {A : Type} (a l : List A) (i : Nat) (d : A) (ha : a.length = i) : (a ++ l.drop i).getD i d = l.getD i d := by
  simp [List.getD_eq_getElem?_getD, List.getElem?_append_right, ha]
theorem getD_set_self {A : Type} (l : List A) (i : Nat) (x d : A) (hi : i < l.length) : (l.set i x).getD i d = x := by
  simp [List.getD_eq_getElem?_getD, hi]
theorem rowsOk_getD {ks : List K} {rows : List (List C)} (h : rowsOk ks rows = true) (i : Nat) (hi : i < rows.length) : kindsOk (rows.getD i []) ks = true := by
  simp only [rowsOk, List.all_eq_true] at h
  exact h _ (by simp [List.getD_eq_getElem?_getD, hi])
theorem rowsOk_len {ks : List K} {rows : List (List C)} (h : rowsOk ks rows = true) (n : Nat) (hn : ks.length = n) : (rows.all fun row => decide (row.length = n)) = true := by
  have kl : ∀ (cs : List C) (ks : List K), kindsOk cs ks = true → cs.length = ks.length := by
    intro cs
    induction cs with
    | nil => intro ks h; cases ks <;> simp [kindsOk] at h ⊢
    | cons c cs ih => intro ks h; cases ks <;> simp [kindsOk] at h ⊢; exact ih _ h.2
  simp only [rowsOk, List.all_eq_true] at h ⊢
  intro r hr
  simp [kl _ _ (h r hr), hn]
theorem lMarkS_loop (rows : List (List C)) (k : Int) (hr : rowsOk [.str] rows = true) (hl : rows.length ≤ 1073741824) (h0 : 0 ≤ k) (h1 : k ≤ 1099511627776) : ∀ (n i : Nat), i ≤ rows.length → rows.length < i + n →
    (vLoop E_lMarkS noInl (sg [pWS, pI] [rI]) Try.f43 [.r, .l, .r, .b] n (H_lMarkS rows.length (mk mkS 1 k i ++ rows.drop i) (k + 1 * i) i)).eval = some [.int .i64 (k + rows.length), .sl (mk mkS 1 k rows.length)] := by
  intro n
  induction n with
  | zero => intro i a b; omega
  | succ n ih =>
    intro i a b
    rw [vLoop_L _ _ _ _ _ _ _ (by kernel_rfl), lMarkS_round0]
    by_cases hi : i < rows.length
    · have w : IntKind.i64.wrap ((i : Int) + 1) = ((i + 1 : Nat) : Int) := by rw [wrap64] <;> omega
      have w2 : IntKind.i64.wrap (k + 1 * (i : Int) + 1) = k + 1 * ((i + 1 : Nat) : Int) := by rw [wrap64] <;> omega
      have hz : (0 : Int) ≤ i := by omega
      have hi' : (i : Int) < rows.length := by omega
      have hk : k + 1 * (i : Int) ≤ 4611686018427387904 := by omega
      have g := row_str (rowsOk_getD hr i hi)
      have hlen : i < (mk mkS 1 k i ++ rows.drop i).length := by simp [mk_len]; omega
      rw [Nat.zero_add, Int.toNat_natCast, getD_mid _ _ _ _ (mk_len _ _ _ _), g]
      have hd : List.drop (0 + 1) (eStr (rowStr (rows.getD i []))) = [] := rfl
      rw [hd, set_mid _ _ _ _ (mk_len _ _ _ _) hi]
      have e : mk mkS 1 k i ++ [[C.str (markT (k + 1 * (i : Int)))]] = mk mkS 1 k (i + 1) := (mk_succ mkS 1 k i).symm
      rw [e]
      simp only [eval_must', eval_ask', decide_eq_true_eq, Bool.and_eq_true, hz, hi', hk, hlen, and_self, if_true, w, w2]
      exact ih (i + 1) (by omega) (by omega)
    · have e : i = rows.length := by omega
      subst e
      have hi' : ¬ ((rows.length : Int) < (rows.length : Int)) := by omega
      have hf : ((mk mkS 1 k rows.length).all fun r => r.all C.flat) = true := mk_all _ _ _ _ _ fun k => rfl
      simp only [eval_ask', eval_must', eval_ret', decide_eq_true_eq, hi', if_false, List.drop_length, List.append_nil, hf, Bool.false_or, Bool.or_true, Bool.and_true, Bool.and_self, if_true, Int.one_mul]
theorem lMarkS_E : EnvSound Try.prog E_lMarkS := mkE_sound (by simp [lMarkText_sound])
theorem lMarkS_sound : Sound Try.prog 43 (sg [pWS, pI] [rI]) markSSpec := vBody_sound lMarkS_E noInl_ok Try.func43 (by kernel_rfl) fun cs outs hk h => by
  unfold markSSpec at h
  split at h
  · simp only [Option.some.injEq, Prod.mk.injEq, Bool.and_eq_true, decide_eq_true_eq] at h
    obtain ⟨⟨h1, h2, h3, h4⟩, rfl⟩ := h
    rename_i rows k
    rw [vBody_L, lMarkS_tree]
    have := lMarkS_loop rows k h1 h2 h3 h4 9223372036854775808 0 (by omega) (by omega)
    rw [show mk mkS 1 k 0 ++ rows.drop 0 = rows by simp [mk], show k + 1 * ((0 : Nat) : Int) = k by omega] at this
    have r1 := rowsOk_len h1 1 rfl
    simp only [eval_must', r1, Bool.and_true, Bool.true_and, Nat.zero_lt_one, decide_true, if_true]
    exact this
  · cases h
theorem lHeldS_loop (l : List (List UInt8)) (hl : l.length ≤ 1073741824) : ∀ (n i : Nat) (k : Int), 0 ≤ k → k ≤ 1099511627776 + i → i ≤ l.length → l.length < i + n →
    (vLoop E_lHeldS noInl (sg [pSl 9, pI] [rI]) Try.f107 [.r, .l, .r, .b] n (H_lHeldS (l.map eStr) k i)).eval = some [.int .i64 (heldS (l.drop i) k)] := by
  intro n
  induction n with
  | zero => intro i k _ _ a b; omega
  | succ n ih =>
    intro i k k0 k1 a b
    rw [vLoop_L _ _ _ _ _ _ _ (by kernel_rfl), lHeldS_round0]
    by_cases hi : i < l.length
    · have g := map_getD eStr l [] i hi
      have w : IntKind.i64.wrap ((i : Int) + 1) = ((i + 1 : Nat) : Int) := by rw [wrap64] <;> omega
      have w2 : IntKind.i64.wrap (k + 1) = k + 1 := by rw [wrap64] <;> omega
      have hz : (0 : Int) ≤ i := by omega
      have hi' : (i : Int) < l.length := by omega
      have hk : k ≤ 4611686018427387904 := by omega
      rw [drop_cons l i [] hi]
      generalize l.getD i [] = y at g ⊢
      simp only [eval_must', eval_ask', eval_ret', if_true, decide_eq_true_eq, Bool.and_eq_true, w, w2, hz, hi', hk, Int.toNat_natCast, List.length_map, g, and_self, List.getD_cons_zero, C.toStr, C.is, List.length_cons, List.length_nil, Nat.zero_add, Nat.zero_lt_succ, decide_true, Bool.not_eq_true', beq_eq_false_iff_ne, ne_eq, heldS]
      by_cases hy : y = markT k
      · simp only [hy, not_true, if_false, if_true]
        exact ih (i + 1) (k + 1) (by omega) (by omega) (by omega) (by omega)
      · simp only [hy, not_false_iff, if_true, if_false]
    · have e : i = l.length := by omega
      subst e
      have hi' : ¬ ((l.length : Int) < (l.length : Int)) := by omega
      simp only [eval_ask', eval_ret', decide_eq_true_eq, List.length_map, hi', if_false, List.drop_length, heldS]
theorem lHeldS_E : EnvSound Try.prog E_lHeldS := mkE_sound (by simp [lMarkText_sound])
theorem lHeldS_sound : Sound Try.prog 107 (sg [pSl 9, pI] [rI]) heldSSpec := vBody_sound lHeldS_E noInl_ok Try.func107 (by kernel_rfl) fun cs outs hk h => by
  unfold heldSSpec at h
  split at h
  · simp only [Option.some.injEq, Prod.mk.injEq, Bool.and_eq_true, decide_eq_true_eq] at h
    obtain ⟨⟨h1, h2, h3, h4⟩, rfl⟩ := h
    rename_i rows k
    have hr := rows_strs h1
    generalize strs rows = l at hr ⊢
    subst hr
    rw [List.length_map] at h2
    rw [vBody_L, lHeldS_tree]
    exact lHeldS_loop l h2 9223372036854775808 0 k h3 (by omega) (by omega) (by omega)
  · cases h
/-- what is marked is held -/
theorem held_mk (k : Int) : ∀ (n i : Nat), heldS ((List.range' i n).map fun (j : Nat) => markT (k + 1 * (j : Int))) (k + i) = k + i + n := by
  intro n
  induction n with
  | zero => intro i; simp [heldS]
  | succ n ih =>
    intro i
    have := ih (i + 1)
    have e : k + ((i + 1 : Nat) : Int) = k + i + 1 := by omega
    rw [e] at this
    simp only [List.range'_succ, List.map_cons, heldS, Int.one_mul, if_true] at this ⊢
    rw [this]
    omega
theorem held_marks (k : Int) (n : Nat) : heldS (strs (mk mkS 1 k n)) k = k + n := by
  have := held_mk k n 0
  rw [show strs (mk mkS 1 k n) = (List.range' 0 n).map fun (j : Nat) => markT (k + 1 * (j : Int)) by simp [strs, mk, rowStr, mkS, C.toStr, List.range_eq_range', Function.comp_def]]
  have e : k + ((0 : Nat) : Int) = k := by omega
  rw [e] at this
  exact this

theorem lMarkN_loop (rows : List (List C)) (k : Int) (hr : rowsOk kNd rows = true) (hl : rows.length ≤ 1048576) (h0 : 0 ≤ k) (h1 : k ≤ 1099511627776) : ∀ (n i : Nat), i ≤ rows.length → rows.length < i + n →
    (vLoop E_lMarkN noInl (sg [pWN, pI] [rI]) Try.f159 [.r, .l, .r, .b] n (H_lMarkN rows.length (mk mkN 3 k i ++ rows.drop i) (k + 3 * i) i)).eval = some [.int .i64 (k + 3 * rows.length), .sl (mk mkN 3 k rows.length)] := by
  intro n
  induction n with
  | zero => intro i a b; omega
  | succ n ih =>
    intro i a b
    rw [vLoop_L _ _ _ _ _ _ _ (by kernel_rfl), lMarkN_round0]
    by_cases hi : i < rows.length
    · have w : IntKind.i64.wrap ((i : Int) + 1) = ((i + 1 : Nat) : Int) := by rw [wrap64] <;> omega
      have w1 : IntKind.i64.wrap (k + 3 * (i : Int) + 1) = k + 3 * (i : Int) + 1 := by rw [wrap64] <;> omega
      have w2 : IntKind.i64.wrap (k + 3 * (i : Int) + 1 + 1) = k + 3 * (i : Int) + 2 := by rw [wrap64] <;> omega
      have w3 : IntKind.i64.wrap (k + 3 * (i : Int) + 2 + 1) = k + 3 * (i : Int) + 3 := by rw [wrap64] <;> omega
      have wk : k + 3 * (i : Int) + 3 = k + 3 * ((i + 1 : Nat) : Int) := by omega
      have hz : (0 : Int) ≤ i := by omega
      have hi' : (i : Int) < rows.length := by omega
      have hk : k + 3 * (i : Int) ≤ 4611686018427387904 := by omega
      have hk1 : k + 3 * (i : Int) + 1 ≤ 4611686018427387904 := by omega
      have g := row_nd (rowsOk_getD hr i hi)
      have hlen : i < (mk mkN 3 k i ++ rows.drop i).length := by simp [mk_len]; omega
      simp only [Nat.zero_add, Nat.add_zero, Int.toNat_natCast, List.set_set, List.length_set, getD_set_self _ _ _ _ hlen, w, w1, w2, w3, List.append_eq]
      simp only [getD_mid _ _ _ _ (mk_len _ _ _ _), set_mid _ _ _ _ (mk_len _ _ _ _) hi]
      rw [g]
      simp only [List.drop_succ_cons, List.drop_zero, List.take_succ_cons, List.take_zero, List.cons_append, List.nil_append, List.drop_nil, List.append_nil, List.append_assoc]
      have e : mk mkN 3 k i ++ [[C.int .i64 (k + 3 * (i : Int)), C.str (markT (k + 3 * (i : Int) + 1)), C.int .i64 (k + 3 * (i : Int) + 2)]] = mk mkN 3 k (i + 1) := (mk_succ mkN 3 k i).symm
      simp only [eval_must', eval_ask', decide_eq_true_eq, Bool.and_eq_true, hz, hi', hk, hk1, hlen, and_self, if_true]
      have := ih (i + 1) (by omega) (by omega)
      rw [← e, ← wk, List.append_assoc] at this
      exact this
    · have e : i = rows.length := by omega
      subst e
      have hi' : ¬ ((rows.length : Int) < (rows.length : Int)) := by omega
      have hf : ((mk mkN 3 k rows.length).all fun r => r.all C.flat) = true := mk_all _ _ _ _ _ fun k => rfl
      simp only [eval_ask', eval_must', eval_ret', decide_eq_true_eq, hi', if_false, List.drop_length, List.append_nil, hf, Bool.false_or, Bool.or_true, Bool.and_true, Bool.and_self, if_true]
theorem lMarkN_E : EnvSound Try.prog E_lMarkN := mkE_sound (by simp [lMarkText_sound])
theorem lMarkN_sound : Sound Try.prog 159 (sg [pWN, pI] [rI]) markNSpec := vBody_sound lMarkN_E noInl_ok Try.func159 (by kernel_rfl) fun cs outs hk h => by
  unfold markNSpec at h
  split at h
  · simp only [Option.some.injEq, Prod.mk.injEq, Bool.and_eq_true, decide_eq_true_eq] at h
    obtain ⟨⟨h1, h2, h3, h4⟩, rfl⟩ := h
    rename_i rows k
    rw [vBody_L, lMarkN_tree]
    have := lMarkN_loop rows k h1 h2 h3 h4 9223372036854775808 0 (by omega) (by omega)
    rw [show mk mkN 3 k 0 ++ rows.drop 0 = rows by simp [mk], show k + 3 * ((0 : Nat) : Int) = k by omega] at this
    have r1 := rowsOk_len h1 3 rfl
    simp only [eval_must', r1, Bool.and_true, Bool.true_and, Nat.zero_lt_one, decide_true, if_true]
    exact this
  · cases h
theorem lMarkE_loop (rows : List (List C)) (k : Int) (hr : rowsOk kEn rows = true) (hl : rows.length ≤ 1048576) (h0 : 0 ≤ k) (h1 : k ≤ 1099511627776) : ∀ (n i : Nat), i ≤ rows.length → rows.length < i + n →
    (vLoop E_lMarkE noInl (sg [pWE, pI] [rI]) Try.f160 [.r, .l, .r, .b] n (H_lMarkE rows.length (mk mkE' 2 k i ++ rows.drop i) (k + 2 * i) i)).eval = some [.int .i64 (k + 2 * rows.length), .sl (mk mkE' 2 k rows.length)] := by
  intro n
  induction n with
  | zero => intro i a b; omega
  | succ n ih =>
    intro i a b
    rw [vLoop_L _ _ _ _ _ _ _ (by kernel_rfl), lMarkE_round0]
    by_cases hi : i < rows.length
    · have w : IntKind.i64.wrap ((i : Int) + 1) = ((i + 1 : Nat) : Int) := by rw [wrap64] <;> omega
      have w1 : IntKind.i64.wrap (k + 2 * (i : Int) + 1) = k + 2 * (i : Int) + 1 := by rw [wrap64] <;> omega
      have w2 : IntKind.i64.wrap (k + 2 * (i : Int) + 1 + 1) = k + 2 * (i : Int) + 2 := by rw [wrap64] <;> omega
      have w3 : IntKind.i64.wrap (k + 2 * (i : Int) + 2 + 1) = k + 2 * (i : Int) + 3 := by rw [wrap64] <;> omega
      have wk : k + 2 * (i : Int) + 2 = k + 2 * ((i + 1 : Nat) : Int) := by omega
      have hz : (0 : Int) ≤ i := by omega
      have hi' : (i : Int) < rows.length := by omega
      have hk : k + 2 * (i : Int) ≤ 4611686018427387904 := by omega
      have hk1 : k + 2 * (i : Int) + 1 ≤ 4611686018427387904 := by omega
      have g := row_en (rowsOk_getD hr i hi)
      have hlen : i < (mk mkE' 2 k i ++ rows.drop i).length := by simp [mk_len]; omega
      simp only [Nat.zero_add, Nat.add_zero, Int.toNat_natCast, List.set_set, List.length_set, getD_set_self _ _ _ _ hlen, w, w1, w2, w3, List.append_eq]
      simp only [getD_mid _ _ _ _ (mk_len _ _ _ _), set_mid _ _ _ _ (mk_len _ _ _ _) hi]
      rw [g]
      simp only [List.drop_succ_cons, List.drop_zero, List.take_succ_cons, List.take_zero, List.cons_append, List.nil_append, List.drop_nil, List.append_nil, List.append_assoc]
      have e : mk mkE' 2 k i ++ [[C.str (markT (k + 2 * (i : Int))), C.int .i64 (k + 2 * (i : Int) + 1)]] = mk mkE' 2 k (i + 1) := (mk_succ mkE' 2 k i).symm
      simp only [eval_must', eval_ask', decide_eq_true_eq, Bool.and_eq_true, hz, hi', hk, hk1, hlen, and_self, if_true]
      have := ih (i + 1) (by omega) (by omega)
      rw [← e, ← wk, List.append_assoc] at this
      exact this
    · have e : i = rows.length := by omega
      subst e
      have hi' : ¬ ((rows.length : Int) < (rows.length : Int)) := by omega
      have hf : ((mk mkE' 2 k rows.length).all fun r => r.all C.flat) = true := mk_all _ _ _ _ _ fun k => rfl
      simp only [eval_ask', eval_must', eval_ret', decide_eq_true_eq, hi', if_false, List.drop_length, List.append_nil, hf, Bool.false_or, Bool.or_true, Bool.and_true, Bool.and_self, if_true]
theorem lMarkE_E : EnvSound Try.prog E_lMarkE := mkE_sound (by simp [lMarkText_sound])
theorem lMarkE_sound : Sound Try.prog 160 (sg [pWE, pI] [rI]) markESpec := vBody_sound lMarkE_E noInl_ok Try.func160 (by kernel_rfl) fun cs outs hk h => by
  unfold markESpec at h
  split at h
  · simp only [Option.some.injEq, Prod.mk.injEq, Bool.and_eq_true, decide_eq_true_eq] at h
    obtain ⟨⟨h1, h2, h3, h4⟩, rfl⟩ := h
    rename_i rows k
    rw [vBody_L, lMarkE_tree]
    have := lMarkE_loop rows k h1 h2 h3 h4 9223372036854775808 0 (by omega) (by omega)
    rw [show mk mkE' 2 k 0 ++ rows.drop 0 = rows by simp [mk], show k + 2 * ((0 : Nat) : Int) = k by omega] at this
    have r1 := rowsOk_len h1 2 rfl
    simp only [eval_must', r1, Bool.and_true, Bool.true_and, Nat.zero_lt_one, decide_true, if_true]
    exact this
  · cases h
theorem lMarkD_E : EnvSound Try.prog E_lMarkD := mkE_sound (by simp [lMarkS_sound, lMarkN_sound, lMarkE_sound])
theorem lMarkD_sound : Sound Try.prog 137 (sg [pWDisk, pI] [rI]) markDSpec := vBody_sound lMarkD_E noInl_ok Try.func137 (by kernel_rfl) fun cs outs hk h => by
  unfold markDSpec at h
  split at h
  · simp only [Option.some.injEq, Prod.mk.injEq, Bool.and_eq_true, decide_eq_true_eq] at h
    obtain ⟨⟨h1, h2, h3, h4⟩, rfl⟩ := h
    rename_i ns es os ss r x k
    simp only [diskRows, Bool.and_eq_true] at h1
    obtain ⟨⟨⟨a1, a2⟩, a3⟩, a4⟩ := h1
    simp only [diskLens, Bool.and_eq_true, decide_eq_true_eq] at h2
    obtain ⟨⟨⟨b1, b2⟩, b3⟩, b4⟩ := h2
    rw [vBody_L, lMarkD_tree]
    have c1 := rowsOk_len a1 3 rfl
    have c2 := rowsOk_len a2 2 rfl
    have c3 := rowsOk_len a3 2 rfl
    have c4 := rowsOk_len a4 1 rfl
    have l1 : ∀ k n, ((mk mkN 3 k n).all fun r => decide (r.length = 3)) = true := fun k n => mk_all _ _ _ _ _ fun k => rfl
    have l2 : ∀ k n, ((mk mkE' 2 k n).all fun r => decide (r.length = 2)) = true := fun k n => mk_all _ _ _ _ _ fun k => rfl
    have l3 : ∀ k n, ((mk mkS 1 k n).all fun r => decide (r.length = 1)) = true := fun k n => mk_all _ _ _ _ _ fun k => rfl
    have f1 : ∀ k n, ((mk mkN 3 k n).all fun r => r.all C.flat) = true := fun k n => mk_all _ _ _ _ _ fun k => rfl
    have f2 : ∀ k n, ((mk mkE' 2 k n).all fun r => r.all C.flat) = true := fun k n => mk_all _ _ _ _ _ fun k => rfl
    have f3 : ∀ k n, ((mk mkS 1 k n).all fun r => r.all C.flat) = true := fun k n => mk_all _ _ _ _ _ fun k => rfl
    have b5 : ss.length ≤ 1073741824 := by omega
    have k1 : k ≤ 1099511627776 := by omega
    have k2 : 0 ≤ k + 3 * (ns.length : Int) ∧ k + 3 * (ns.length : Int) ≤ 1099511627776 := by omega
    have k3 : 0 ≤ k + 3 * (ns.length : Int) + 2 * (es.length : Int) ∧ k + 3 * (ns.length : Int) + 2 * (es.length : Int) ≤ 1099511627776 := by omega
    have k4 : 0 ≤ k + 3 * (ns.length : Int) + 2 * (es.length : Int) + 2 * (os.length : Int) ∧ k + 3 * (ns.length : Int) + 2 * (es.length : Int) + 2 * (os.length : Int) ≤ 1099511627776 := by omega
    simp only [eval_must', eval_ret', a1, a2, a3, a4, b1, b2, b3, b4, b5, c1, c2, c3, c4, l1, l2, l3, f1, f2, f3, h3, k1, k2.1, k2.2, k3.1, k3.2, k4.1, k4.2, mk_len, Nat.zero_lt_one, decide_true, Bool.and_self, Bool.false_or, Bool.or_true, Bool.true_and, Bool.and_true, if_true, diskK]
  · cases h

theorem cloneS_E : EnvSound Try.prog E_cloneS := mkE_sound (by simp)
theorem cloneS_sound : Sound Try.prog 105 (sg [pSl 9] [rSl 9]) cloneSSpec := vBodyN_sound cloneS_E noInl_ok Try.func105 (by kernel_rfl) rfl fun cs outs hk h bs hb => by
  unfold cloneSSpec at h
  split at h
  · simp only [Option.some.injEq, Prod.mk.injEq, Bool.and_eq_true, decide_eq_true_eq] at h
    obtain ⟨⟨h1, h2⟩, rfl⟩ := h
    rename_i rows
    have r1 := rowsOk_len h1 1 rfl
    match bs, hb with
    | [true], hb =>
      have : rows = [] := by simpa [nilOf] using hb
      subst this
      rw [cloneS_nil 0]
      rfl
    | [false], _ =>
      rw [cloneS_no]
      have hroom : roomy rows.length 16 = true := by unfold roomy; simp; omega
      have hf : (rows.all fun r => r.all C.flat) = true := by
        simp only [rowsOk, List.all_eq_true] at h1 ⊢
        intro r hr c hc
        have := row_str (h1 r hr)
        rw [this] at hc
        obtain rfl := List.mem_singleton.1 hc
        rfl
      simp only [eval_must', eval_ask', eval_ret', r1, hroom, hf, Nat.zero_add, decide_true, Bool.and_self, Bool.or_true, Bool.and_true, if_true, Bool.false_eq_true, if_false]
    | [], hb => simp [nilOf] at hb
    | _ :: _ :: _, hb => simp [nilOf] at hb
  · cases h

end Go.Proofs.Ythpamcbipmkimaa.V

namespace Go.Proofs.Ythpamcbipmkimaa.V
noncomputable section

def diskNewSpec : Spec := fun cs => match cs with
  | [.int .i64 r] => some (true, [.sl [], .sl [], .sl [], .sl [], .int .i64 (imax 0 r), .int .i64 1])
  | _ => none
def E_sDiskNew : Env := mkE [] []
def E_iDiskNew : Env := mkE [] []

def eqIntSpec : Spec := fun cs => match cs with
  | [.sl x, .sl y] => some (decide (x.length ≤ 1073741824) && (rowsOk [.int .i64] x && rowsOk [.int .i64] y), [.bool (decide (ints x = ints y))])
  | _ => none
def H_eqIntS (x y : List (List C)) (i : Int) : St := st0 [(0, .l (.sl x)), (1, .l (.sl y)), (5, int64 i)]
def E_eqIntS : Env := mkE [(4, [0, 1, 5])] []

/-- of empty slices alone -/
def heldEmpSpec : Spec := fun cs => match cs with
  | [.sl [], .int .i64 k] => some (true, [.int .i64 k])
  | _ => none
def markEmpSpec : Spec := fun cs => match cs with
  | [.sl [], .int .i64 k] => some (true, [.int .i64 k, .sl []])
  | _ => none
def H_heldIntE (k : Int) : St := st0 [(0, .l (.sl [])), (1, int64 k), (5, int64 0)]
def H_heldNodeE (k : Int) : St := st0 [(0, .l (.sl [])), (1, int64 k), (5, int64 0)]
def H_heldEntryE (k : Int) : St := st0 [(0, .l (.sl [])), (1, int64 k), (5, int64 0)]
def H_markIntE (k : Int) : St := { slots := [(0, .l (.ref 0 0 0)), (1, int64 k), (5, int64 0)], heap := [(0, .arr 1 [])], next := 1, pins := [0] }
def E_heldIntE : Env := mkE [(2, [0, 1, 5])] []
def E_heldNodeE : Env := mkE [(2, [0, 1, 5])] [(106, (sg [pI] [rS]), markTextSpec)]
def E_heldEntryE : Env := mkE [(2, [0, 1, 5])] [(106, (sg [pI] [rS]), markTextSpec)]
def E_markIntE : Env := mkE [(2, [0, 1, 5])] []

def pWorld : PTy := .val true [.int .i64, .int .i64, .int .i64, .int .i64, .slice 157, .slice 160, .slice 160, .slice 9, .int .i64, .int .i64, .int .i64, .int .i64, .int .i64, .int .i64, .int .i64, .slice 3, .int .i64, .bool, .int .i64, .slice 9, .int .i64, .int .i64]
def rWorld : RTy := ⟨true, [(.int .i64, false), (.int .i64, false), (.int .i64, false), (.int .i64, false), (.slice 157, true), (.slice 160, true), (.slice 160, true), (.slice 9, true), (.int .i64, false), (.int .i64, false), (.int .i64, false), (.int .i64, false), (.int .i64, false), (.int .i64, false), (.int .i64, false), (.slice 3, true), (.int .i64, false), (.bool, false), (.int .i64, false), (.slice 9, true), (.int .i64, false), (.int .i64, false)]⟩
def pWWorld : PTy := .wr true [(.int .i64, false), (.int .i64, false), (.int .i64, false), (.int .i64, false), (.slice 157, true), (.slice 160, true), (.slice 160, true), (.slice 9, true), (.int .i64, false), (.int .i64, false), (.int .i64, false), (.int .i64, false), (.int .i64, false), (.int .i64, false), (.int .i64, false), (.slice 3, true), (.int .i64, false), (.bool, false), (.int .i64, false), (.slice 9, true), (.int .i64, false), (.int .i64, false)]
def pWriter : PTy := .val true [.int .i64, .int .i64, .int .i64, .int .i64, .int .i64, .slice 3, .int .i64, .bool, .int .i64]
def pWWriter : PTy := .wr true [(.int .i64, false), (.int .i64, false), (.int .i64, false), (.int .i64, false), (.int .i64, false), (.slice 3, true), (.int .i64, false), (.bool, false), (.int .i64, false)]
def eqSetSpec : Spec := fun cs => match cs with
  | [.int .i64 a, .int .i64 v, .int .i64 s, .int .i64 r, .int .i64 a2, .int .i64 v2, .int .i64 s2, .int .i64 r2] => some (true, [.bool (decide (a = a2) && decide (v = v2) && decide (s = s2) && decide (r = r2))])
  | _ => none
def wrEq (x1 x2 x3 x4 x5 x6 x7 : Int) (xb : Bool) (y1 y2 y3 y4 y5 y6 y7 : Int) (yb : Bool) : Bool := decide (x1 = y1) && decide (x2 = y2) && decide (x3 = y3) && decide (x4 = y4) && decide (x5 = y5) && decide (x6 = y6) && decide (x7 = y7) && decide (xb = yb)
def eqWriterSpec : Spec := fun cs => match cs with
  | [.int .i64 x1, .int .i64 x2, .int .i64 x3, .int .i64 x4, .int .i64 x5, .sl [], .int .i64 x6, .bool xb, .int .i64 x7, .int .i64 y1, .int .i64 y2, .int .i64 y3, .int .i64 y4, .int .i64 y5, .sl [], .int .i64 y6, .bool yb, .int .i64 y7] => some (true, [.bool (wrEq x1 x2 x3 x4 x5 x6 x7 xb y1 y2 y3 y4 y5 y6 y7 yb)])
  | _ => none
def markWriterSpec : Spec := fun cs => match cs with
  | [.int .i64 x1, .int .i64 x2, .int .i64 x3, .int .i64 x4, .int .i64 x5, .sl [], .int .i64 x6, .bool xb, .int .i64 x7, .int .i64 k] => some (true, [.int .i64 k, .sl []])
  | _ => none
def heldWriterSpec : Spec := fun cs => match cs with
  | [.int .i64 x1, .int .i64 x2, .int .i64 x3, .int .i64 x4, .int .i64 x5, .sl [], .int .i64 x6, .bool xb, .int .i64 x7, .int .i64 k] => some (decide (0 ≤ k), [.int .i64 k])
  | _ => none
def heldDiskSpec : Spec := fun cs => match cs with
  | [.sl [], .sl [], .sl [], .sl [], .int .i64 r, .int .i64 x, .int .i64 k] => some (decide (0 ≤ k) && decide (k ≤ 1099511627776), [.int .i64 k])
  | _ => none
def woEq (x1 x2 x3 x4 x5 x6 x7 x8 x9 x10 x11 x12 x13 x14 x15 : Int) (xb : Bool) (y1 y2 y3 y4 y5 y6 y7 y8 y9 y10 y11 y12 y13 y14 y15 : Int) (yb : Bool) : Bool := decide (x1 = y1) && decide (x2 = y2) && decide (x3 = y3) && decide (x4 = y4) && decide (x5 = y5) && decide (x6 = y6) && decide (x7 = y7) && decide (x8 = y8) && decide (x9 = y9) && decide (x10 = y10) && decide (x11 = y11) && decide (x12 = y12) && decide (x13 = y13) && decide (x14 = y14) && decide (x15 = y15) && decide (xb = yb)
def eqWorldSpec : Spec := fun cs => match cs with
  | .int .i64 x1 :: .int .i64 x2 :: .int .i64 x3 :: .int .i64 x4 :: .sl [] :: .sl [] :: .sl [] :: .sl [] :: .int .i64 x5 :: .int .i64 x6 :: .int .i64 x7 :: .int .i64 x8 :: .int .i64 x9 :: .int .i64 x10 :: .int .i64 x11 :: .sl [] :: .int .i64 x12 :: .bool xb :: .int .i64 x13 :: .sl [] :: .int .i64 x14 :: .int .i64 x15 :: .int .i64 y1 :: .int .i64 y2 :: .int .i64 y3 :: .int .i64 y4 :: .sl [] :: .sl [] :: .sl [] :: .sl [] :: .int .i64 y5 :: .int .i64 y6 :: .int .i64 y7 :: .int .i64 y8 :: .int .i64 y9 :: .int .i64 y10 :: .int .i64 y11 :: .sl [] :: .int .i64 y12 :: .bool yb :: .int .i64 y13 :: .sl [] :: .int .i64 y14 :: .int .i64 y15 :: [] => some (true, [.bool (woEq x1 x2 x3 x4 x5 x6 x7 x8 x9 x10 x11 x12 x13 x14 x15 xb y1 y2 y3 y4 y5 y6 y7 y8 y9 y10 y11 y12 y13 y14 y15 yb)])
  | _ => none
def markWorldSpec : Spec := fun cs => match cs with
  | [.int .i64 x1, .int .i64 x2, .int .i64 x3, .int .i64 x4, .sl [], .sl [], .sl [], .sl [], .int .i64 x5, .int .i64 x6, .int .i64 x7, .int .i64 x8, .int .i64 x9, .int .i64 x10, .int .i64 x11, .sl [], .int .i64 x12, .bool xb, .int .i64 x13, .sl [], .int .i64 x14, .int .i64 x15, .int .i64 k] => some (decide (0 ≤ k) && decide (k ≤ 1073741824), [.int .i64 k, .sl [], .sl [], .sl [], .sl [], .sl [], .sl []])
  | _ => none
def heldWorldSpec : Spec := fun cs => match cs with
  | [.int .i64 x1, .int .i64 x2, .int .i64 x3, .int .i64 x4, .sl [], .sl [], .sl [], .sl [], .int .i64 x5, .int .i64 x6, .int .i64 x7, .int .i64 x8, .int .i64 x9, .int .i64 x10, .int .i64 x11, .sl [], .int .i64 x12, .bool xb, .int .i64 x13, .sl [], .int .i64 x14, .int .i64 x15, .int .i64 k] => some (decide (0 ≤ k) && decide (k ≤ 1099511627776), [.int .i64 k])
  | _ => none
def E_eqSet : Env := mkE [] []
def E_eqWriter : Env := mkE [] [(96, (sg [pSl 3, pSl 3] [rB]), eqIntSpec)]
def E_markWriter : Env := mkE [] [(161, (sg [.wr false [(.slice 3, true)], pI] [rI]), markEmpSpec)]
def E_heldWriter : Env := mkE [] [(164, (sg [pSl 3, pI] [rI]), heldEmpSpec)]
def E_heldDiskE : Env := mkE [] [(107, (sg [pSl 9, pI] [rI]), heldSSpec), (162, (sg [pSl 157, pI] [rI]), heldEmpSpec), (163, (sg [pSl 160, pI] [rI]), heldEmpSpec)]
def E_eqWorld : Env := mkE [] [(42, (sg [pSl 9, pSl 9] [rB]), eqStrSpec), (135, (sg [pDisk, pDisk] [rB]), eqDiskSpec), (134, (sg [pSetting, pSetting] [rB]), eqSetSpec), (136, (sg [pWriter, pWriter] [rB]), eqWriterSpec)]
def E_markWorld : Env := mkE [] [(43, (sg [pWS, pI] [rI]), markSSpec), (137, (sg [pWDisk, pI] [rI]), markDSpec), (138, (sg [pWWriter, pI] [rI]), markWriterSpec)]
def E_heldWorld : Env := mkE [] [(107, (sg [pSl 9, pI] [rI]), heldSSpec), (140, (sg [pWriter, pI] [rI]), heldWriterSpec), (139, (sg [pDisk, pI] [rI]), heldDiskSpec)]

def worldSpec : Spec := fun cs => match cs with
  | [.int .i64 a, .int .i64 v, .int .i64 s, .int .i64 r] => some (true,
      [.int .i64 (sel (settingOk a v s r) a), .int .i64 (sel (settingOk a v s r) v), .int .i64 (sel (settingOk a v s r) s), .int .i64 (sel (settingOk a v s r) r), .sl [], .sl [], .sl [], .sl [], .int .i64 (sel (settingOk a v s r) (imax 0 a)), .int .i64 (sel (settingOk a v s r) 1),
       .int .i64 (sel (settingOk a v s r) (sel (newOk v s r) v)), .int .i64 (sel (settingOk a v s r) (sel (newOk v s r) s)), .int .i64 (sel (settingOk a v s r) (sel (newOk v s r) r)), .int .i64 0, .int .i64 0, .sl [], .int .i64 0, .bool false, .int .i64 0, .sl [], .int .i64 0, .int .i64 0, .bool (settingOk a v s r)])
  | _ => none
def worldLaw : Spec := fun cs => match cs with
  | [.int .i64 _, .int .i64 _, .int .i64 _, .int .i64 _] => some (true, [.bool true])
  | _ => none
def E_sWorldNew : Env := mkE [] [(129, (sg [pI, pI, pI] [rWriter, rB]), writerNewSpec), (128, (sg [pSetting] [rB]), settingSpec), (130, (sg [pI] [rDisk]), diskNewSpec)]
def E_iWorldNew : Env := mkE [] [(132, (sg [pI, pI, pI] [rWriter, rB]), writerNewSpec), (131, (sg [pSetting] [rB]), settingSpec), (133, (sg [pI] [rDisk]), diskNewSpec)]
def E_lWorldNew : Env := mkE [] [(73, (sg [pSetting] [⟨true, [(.int .i64, false), (.int .i64, false), (.int .i64, false), (.int .i64, false)]⟩]), toSettingSpec), (75, (sg [pWorld, pWorld] [rB]), eqWorldSpec), (76, (sg [pWWorld, pI] [rI]), markWorldSpec), (77, (sg [pWorld, pI] [rI]), heldWorldSpec), (72, (sg [pSetting] [rWorld, rB]), worldSpec), (74, (sg [pSetting] [rWorld, rB]), worldSpec)]

end
end Go.Proofs.Ythpamcbipmkimaa.V

namespace Go.Proofs.Ythpamcbipmkimaa.V
set_option maxRecDepth 100000
theorem sDiskNew_tree (H : List Pt → Nat → St → T (List C)) (r : Int) : (vBodyL E_sDiskNew noInl (sg [pI] [rDisk]) Try.f130 H [C.int IntKind.i64 r]).eval =
 ((.ask (decide (r < (0 : Int)))
 (.ret [C.sl [], C.sl [], C.sl [], C.sl [], C.int IntKind.i64 (0 : Int), C.int IntKind.i64 (1 : Int)])
 (.ret [C.sl [], C.sl [], C.sl [], C.sl [], C.int IntKind.i64 r, C.int IntKind.i64 (1 : Int)])) : T (List C)).eval := evalEq (by kernel_rfl)
theorem iDiskNew_tree (H : List Pt → Nat → St → T (List C)) (r : Int) : (vBodyL E_iDiskNew noInl (sg [pI] [rDisk]) Try.f133 H [C.int IntKind.i64 r]).eval =
 ((.ret [C.sl [], C.sl [], C.sl [], C.sl [], C.int IntKind.i64 (imax (0 : Int) r), C.int IntKind.i64 (1 : Int)]) : T (List C)).eval := evalEq (by kernel_rfl)
theorem eqIntS_tree (H : List Pt → Nat → St → T (List C)) (x : List (List C)) (y : List (List C)) : (vBodyL E_eqIntS noInl (sg [pSl (3 : TypeId), pSl (3 : TypeId)] [rB]) Try.f96 H [C.sl x, C.sl y]).eval =
 ((.ask ((↑x.length : Int) != (↑y.length : Int))
 (.ret [C.bool false])
 (H [Pt.r, Pt.r, Pt.l, Pt.r, Pt.b] (9223372036854775808 : Nat) (H_eqIntS (x) (y) ((0 : Int))))) : T (List C)).eval := evalEq (by kernel_rfl)
theorem eqIntS_round0 (H : List Pt → Nat → St → T (List C)) (x : List (List C)) (y : List (List C)) (i : Int) (k : Nat) : (vRound E_eqIntS noInl (sg [pSl (3 : TypeId), pSl (3 : TypeId)] [rB]) Try.f96 H [Pt.r, Pt.r, Pt.l, Pt.r, Pt.b] k
  (H_eqIntS x y i)).eval =
 ((.ask (decide (i < (↑x.length : Int)))
 (.must (decide ((0 : Int) ≤ i) && decide (i < (↑x.length : Int)) && decide ((x.getD i.toNat []).length = (1 : Nat)))
  (.must (decide ((0 : Nat) < (x.getD i.toNat []).length) &&
    C.is (K.int IntKind.i64) ((x.getD i.toNat []).getD (0 : Nat) (C.fn (0 : FuncId) [])) &&
  true)
   (.must (decide ((0 : Int) ≤ i) && decide (i < (↑y.length : Int)) && decide ((y.getD i.toNat []).length = (1 : Nat)))
    (.must (decide ((0 : Nat) < (y.getD i.toNat []).length) &&
    C.is (K.int IntKind.i64) ((y.getD i.toNat []).getD (0 : Nat) (C.fn (0 : FuncId) [])) &&
  true)
     (.ask (((x.getD i.toNat []).getD (0 : Nat) (C.fn (0 : FuncId) [])).toInt !=
  ((y.getD i.toNat []).getD (0 : Nat) (C.fn (0 : FuncId) [])).toInt)
      (.ret [C.bool false])
      (H [Pt.r, Pt.r, Pt.l, Pt.r, Pt.b] k (H_eqIntS (x) (y) (IntKind.i64.wrap (i + (1 : Int))))))))))
 (.ret [C.bool true])) : T (List C)).eval := evalEq (by kernel_rfl)
theorem heldIntE_tree (H : List Pt → Nat → St → T (List C)) (k : Int) : (vBodyL E_heldIntE noInl (sg [pSl (3 : TypeId), pI] [rI]) Try.f164 H [C.sl [], C.int IntKind.i64 k]).eval =
 ((H [Pt.r, Pt.l, Pt.r, Pt.b] (9223372036854775808 : Nat) (H_heldIntE (k))) : T (List C)).eval := evalEq (by kernel_rfl)
theorem heldNodeE_tree (H : List Pt → Nat → St → T (List C)) (k : Int) : (vBodyL E_heldNodeE noInl (sg [pSl (157 : TypeId), pI] [rI]) Try.f162 H [C.sl [], C.int IntKind.i64 k]).eval =
 ((H [Pt.r, Pt.l, Pt.r, Pt.b] (9223372036854775808 : Nat) (H_heldNodeE (k))) : T (List C)).eval := evalEq (by kernel_rfl)
theorem heldEntryE_tree (H : List Pt → Nat → St → T (List C)) (k : Int) : (vBodyL E_heldEntryE noInl (sg [pSl (160 : TypeId), pI] [rI]) Try.f163 H [C.sl [], C.int IntKind.i64 k]).eval =
 ((H [Pt.r, Pt.l, Pt.r, Pt.b] (9223372036854775808 : Nat) (H_heldEntryE (k))) : T (List C)).eval := evalEq (by kernel_rfl)
theorem markIntE_tree (H : List Pt → Nat → St → T (List C)) (k : Int) : (vBodyL E_markIntE noInl (sg [PTy.wr false [(K.slice (3 : TypeId), true)], pI] [rI]) Try.f161 H
  [C.sl [], C.int IntKind.i64 k]).eval =
 ((H [Pt.r, Pt.l, Pt.r, Pt.b] (9223372036854775808 : Nat) (H_markIntE (k))) : T (List C)).eval := evalEq (by kernel_rfl)
theorem heldIntE_round0 (H : List Pt → Nat → St → T (List C)) (kk : Int) (k : Nat) : (vRound E_heldIntE noInl (sg [pSl (3 : TypeId), pI] [rI]) Try.f164 H [Pt.r, Pt.l, Pt.r, Pt.b] k (H_heldIntE kk)).eval =
 ((.ret [C.int IntKind.i64 kk]) : T (List C)).eval := evalEq (by kernel_rfl)
theorem heldNodeE_round0 (H : List Pt → Nat → St → T (List C)) (kk : Int) (k : Nat) : (vRound E_heldNodeE noInl (sg [pSl (157 : TypeId), pI] [rI]) Try.f162 H [Pt.r, Pt.l, Pt.r, Pt.b] k (H_heldNodeE kk)).eval =
 ((.ret [C.int IntKind.i64 kk]) : T (List C)).eval := evalEq (by kernel_rfl)
theorem heldEntryE_round0 (H : List Pt → Nat → St → T (List C)) (kk : Int) (k : Nat) : (vRound E_heldEntryE noInl (sg [pSl (160 : TypeId), pI] [rI]) Try.f163 H [Pt.r, Pt.l, Pt.r, Pt.b] k (H_heldEntryE kk)).eval =
 ((.ret [C.int IntKind.i64 kk]) : T (List C)).eval := evalEq (by kernel_rfl)
theorem markIntE_round0 (H : List Pt → Nat → St → T (List C)) (kk : Int) (k : Nat) : (vRound E_markIntE noInl (sg [PTy.wr false [(K.slice (3 : TypeId), true)], pI] [rI]) Try.f161 H [Pt.r, Pt.l, Pt.r, Pt.b]
  k (H_markIntE kk)).eval =
 ((.ret [C.int IntKind.i64 kk, C.sl []]) : T (List C)).eval := evalEq (by kernel_rfl)
theorem eqSet_tree (H : List Pt → Nat → St → T (List C)) (a : Int) (v : Int) (s : Int) (r : Int) (a2 : Int) (v2 : Int) (s2 : Int) (r2 : Int) : (vBodyL E_eqSet noInl (sg [pSetting, pSetting] [rB]) Try.f134 H
  [C.int IntKind.i64 a, C.int IntKind.i64 v, C.int IntKind.i64 s, C.int IntKind.i64 r, C.int IntKind.i64 a2,
    C.int IntKind.i64 v2, C.int IntKind.i64 s2, C.int IntKind.i64 r2]).eval =
 ((.ask (a != a2)
 (.ret [C.bool false])
 (.ask (v != v2)
  (.ret [C.bool false])
  (.ask (s != s2)
   (.ret [C.bool false])
   (.ask (r != r2)
    (.ret [C.bool false])
    (.ret [C.bool true]))))) : T (List C)).eval := evalEq (by kernel_rfl)
theorem eqWriter_tree (H : List Pt → Nat → St → T (List C)) (x1 : Int) (x2 : Int) (x3 : Int) (x4 : Int) (x5 : Int) (x6 : Int) (x7 : Int) (xb : Bool) (y1 : Int) (y2 : Int) (y3 : Int) (y4 : Int) (y5 : Int) (y6 : Int) (y7 : Int) (yb : Bool) : (vBodyL E_eqWriter noInl (sg [pWriter, pWriter] [rB]) Try.f136 H
  [C.int IntKind.i64 x1, C.int IntKind.i64 x2, C.int IntKind.i64 x3, C.int IntKind.i64 x4, C.int IntKind.i64 x5,
    C.sl [], C.int IntKind.i64 x6, C.bool xb, C.int IntKind.i64 x7, C.int IntKind.i64 y1, C.int IntKind.i64 y2,
    C.int IntKind.i64 y3, C.int IntKind.i64 y4, C.int IntKind.i64 y5, C.sl [], C.int IntKind.i64 y6, C.bool yb,
    C.int IntKind.i64 y7]).eval =
 ((.ask (x1 != y1)
 (.ret [C.bool false])
 (.ask (x2 != y2)
  (.ret [C.bool false])
  (.ask (x3 != y3)
   (.ret [C.bool false])
   (.ask (x4 != y4)
    (.ret [C.bool false])
    (.ask (x5 != y5)
     (.ret [C.bool false])
     (.ask (x6 != y6)
      (.ret [C.bool false])
      (.ask (xb)
       (.ask (yb)
        (.ask (x7 != y7)
         (.ret [C.bool false])
         (.ret [C.bool true]))
        (.ret [C.bool false]))
       (.ask (yb)
        (.ret [C.bool false])
        (.ask (x7 != y7)
         (.ret [C.bool false])
         (.ret [C.bool true])))))))))) : T (List C)).eval := evalEq (by kernel_rfl)
theorem markWriter_tree (H : List Pt → Nat → St → T (List C)) (x1 : Int) (x2 : Int) (x3 : Int) (x4 : Int) (x5 : Int) (x6 : Int) (x7 : Int) (xb : Bool) (k : Int) : (vBodyL E_markWriter noInl (sg [pWWriter, pI] [rI]) Try.f138 H
  [C.int IntKind.i64 x1, C.int IntKind.i64 x2, C.int IntKind.i64 x3, C.int IntKind.i64 x4, C.int IntKind.i64 x5,
    C.sl [], C.int IntKind.i64 x6, C.bool xb, C.int IntKind.i64 x7, C.int IntKind.i64 k]).eval =
 ((.ret [C.int IntKind.i64 k, C.sl []]) : T (List C)).eval := evalEq (by kernel_rfl)
theorem heldWriter_tree (H : List Pt → Nat → St → T (List C)) (x1 : Int) (x2 : Int) (x3 : Int) (x4 : Int) (x5 : Int) (x6 : Int) (x7 : Int) (xb : Bool) (k : Int) : (vBodyL E_heldWriter noInl (sg [pWriter, pI] [rI]) Try.f140 H
  [C.int IntKind.i64 x1, C.int IntKind.i64 x2, C.int IntKind.i64 x3, C.int IntKind.i64 x4, C.int IntKind.i64 x5,
    C.sl [], C.int IntKind.i64 x6, C.bool xb, C.int IntKind.i64 x7, C.int IntKind.i64 k]).eval =
 ((.ask (decide (k < (0 : Int)))
 (.ret [C.int IntKind.i64 (-1 : Int)])
 (.ret [C.int IntKind.i64 k])) : T (List C)).eval := evalEq (by kernel_rfl)
theorem heldDiskE_tree (H : List Pt → Nat → St → T (List C)) (r : Int) (x : Int) (k : Int) : (vBodyL E_heldDiskE noInl (sg [pDisk, pI] [rI]) Try.f139 H
  [C.sl [], C.sl [], C.sl [], C.sl [], C.int IntKind.i64 r, C.int IntKind.i64 x, C.int IntKind.i64 k]).eval =
 ((.ask (decide (k < (0 : Int)))
 (.ret [C.int IntKind.i64 (-1 : Int)])
 (.ask (decide (k < (0 : Int)))
  (.ret [C.int IntKind.i64 (-1 : Int)])
  (.ask (decide (k < (0 : Int)))
   (.ret [C.int IntKind.i64 (-1 : Int)])
   (.must (rowsOk [K.str] [] &&
  (decide ((0 : Nat) ≤ (1073741824 : Nat)) && (decide ((0 : Int) ≤ k) && decide (k ≤ (1099511627776 : Int)))))
    (.ask (decide (heldS (strs []) k < (0 : Int)))
     (.ret [C.int IntKind.i64 (-1 : Int)])
     (.ret [C.int IntKind.i64 (heldS (strs []) k)])))))) : T (List C)).eval := evalEq (by kernel_rfl)
theorem eqWorld_tree (H : List Pt → Nat → St → T (List C)) (x1 : Int) (x2 : Int) (x3 : Int) (x4 : Int) (x5 : Int) (x6 : Int) (x7 : Int) (x8 : Int) (x9 : Int) (x10 : Int) (x11 : Int) (x12 : Int) (x13 : Int) (x14 : Int) (x15 : Int) (xb : Bool) (y1 : Int) (y2 : Int) (y3 : Int) (y4 : Int) (y5 : Int) (y6 : Int) (y7 : Int) (y8 : Int) (y9 : Int) (y10 : Int) (y11 : Int) (y12 : Int) (y13 : Int) (y14 : Int) (y15 : Int) (yb : Bool) : (vBodyL E_eqWorld noInl (sg [pWorld, pWorld] [rB]) Try.f75 H
  (let y :=
    let y :=
      let y :=
        [C.int IntKind.i64 y12, C.bool yb, C.int IntKind.i64 y13, C.sl [], C.int IntKind.i64 y14,
          C.int IntKind.i64 y15];
      C.int IntKind.i64 y8 :: C.int IntKind.i64 y9 :: C.int IntKind.i64 y10 :: C.int IntKind.i64 y11 :: C.sl [] :: y;
    let y := C.sl [] :: C.sl [] :: C.sl [] :: C.int IntKind.i64 y5 :: C.int IntKind.i64 y6 :: C.int IntKind.i64 y7 :: y;
    C.int IntKind.i64 y1 :: C.int IntKind.i64 y2 :: C.int IntKind.i64 y3 :: C.int IntKind.i64 y4 :: C.sl [] :: y;
  let y :=
    let y :=
      C.int IntKind.i64 x12 ::
        C.bool xb :: C.int IntKind.i64 x13 :: C.sl [] :: C.int IntKind.i64 x14 :: C.int IntKind.i64 x15 :: y;
    C.int IntKind.i64 x8 :: C.int IntKind.i64 x9 :: C.int IntKind.i64 x10 :: C.int IntKind.i64 x11 :: C.sl [] :: y;
  let y := C.sl [] :: C.sl [] :: C.sl [] :: C.int IntKind.i64 x5 :: C.int IntKind.i64 x6 :: C.int IntKind.i64 x7 :: y;
  C.int IntKind.i64 x1 :: C.int IntKind.i64 x2 :: C.int IntKind.i64 x3 :: C.int IntKind.i64 x4 :: C.sl [] :: y)).eval =
 ((.ask (decide (x1 = y1) && decide (x2 = y2) && decide (x3 = y3) && decide (x4 = y4))
 (.ask (eqDk [] [] [] [] x5 x6 [] [] [] [] y5 y6)
  (.ask (wrEq x7 x8 x9 x10 x11 x12 x13 xb y7 y8 y9 y10 y11 y12 y13 yb)
   (.ask (x14 != y14)
    (.ret [C.bool false])
    (.ask (x15 != y15)
     (.ret [C.bool false])
     (.ret [C.bool true])))
   (.ret [C.bool false]))
  (.ret [C.bool false]))
 (.ret [C.bool false])) : T (List C)).eval := evalEq (by kernel_rfl)
theorem markWorld_tree (H : List Pt → Nat → St → T (List C)) (x1 : Int) (x2 : Int) (x3 : Int) (x4 : Int) (x5 : Int) (x6 : Int) (x7 : Int) (x8 : Int) (x9 : Int) (x10 : Int) (x11 : Int) (x12 : Int) (x13 : Int) (x14 : Int) (x15 : Int) (xb : Bool) (k : Int) : (vBodyL E_markWorld noInl (sg [pWWorld, pI] [rI]) Try.f76 H
  [C.int IntKind.i64 x1, C.int IntKind.i64 x2, C.int IntKind.i64 x3, C.int IntKind.i64 x4, C.sl [], C.sl [], C.sl [],
    C.sl [], C.int IntKind.i64 x5, C.int IntKind.i64 x6, C.int IntKind.i64 x7, C.int IntKind.i64 x8,
    C.int IntKind.i64 x9, C.int IntKind.i64 x10, C.int IntKind.i64 x11, C.sl [], C.int IntKind.i64 x12, C.bool xb,
    C.int IntKind.i64 x13, C.sl [], C.int IntKind.i64 x14, C.int IntKind.i64 x15, C.int IntKind.i64 k]).eval =
 ((.must (diskRows [] [] [] [] &&
  (diskLens (1048576 : Nat) [] [] [] [] && (decide ((0 : Int) ≤ k) && decide (k ≤ (1073741824 : Int)))))
 (.must (rowsOk [K.str] [] &&
  (decide ((0 : Nat) ≤ (1073741824 : Nat)) &&
    (decide ((0 : Int) ≤ diskK k (0 : Nat) (0 : Nat) (0 : Nat) (0 : Nat)) &&
      decide (diskK k (0 : Nat) (0 : Nat) (0 : Nat) (0 : Nat) ≤ (1099511627776 : Int)))))
  (.ret [C.int IntKind.i64 (diskK k (0 : Nat) (0 : Nat) (0 : Nat) (0 : Nat) + (↑(0 : Nat) : Int)), C.sl [], C.sl [],
  C.sl [], C.sl [], C.sl [], C.sl []]))) : T (List C)).eval := evalEq (by kernel_rfl)
theorem heldWorld_tree (H : List Pt → Nat → St → T (List C)) (x1 : Int) (x2 : Int) (x3 : Int) (x4 : Int) (x5 : Int) (x6 : Int) (x7 : Int) (x8 : Int) (x9 : Int) (x10 : Int) (x11 : Int) (x12 : Int) (x13 : Int) (x14 : Int) (x15 : Int) (xb : Bool) (k : Int) : (vBodyL E_heldWorld noInl (sg [pWorld, pI] [rI]) Try.f77 H
  [C.int IntKind.i64 x1, C.int IntKind.i64 x2, C.int IntKind.i64 x3, C.int IntKind.i64 x4, C.sl [], C.sl [], C.sl [],
    C.sl [], C.int IntKind.i64 x5, C.int IntKind.i64 x6, C.int IntKind.i64 x7, C.int IntKind.i64 x8,
    C.int IntKind.i64 x9, C.int IntKind.i64 x10, C.int IntKind.i64 x11, C.sl [], C.int IntKind.i64 x12, C.bool xb,
    C.int IntKind.i64 x13, C.sl [], C.int IntKind.i64 x14, C.int IntKind.i64 x15, C.int IntKind.i64 k]).eval =
 ((.must (decide ((0 : Int) ≤ k) && decide (k ≤ (1099511627776 : Int)))
 (.ask (decide (k < (0 : Int)))
  (.ret [C.int IntKind.i64 (-1 : Int)])
  (.must (decide ((0 : Int) ≤ k))
   (.ask (decide (k < (0 : Int)))
    (.ret [C.int IntKind.i64 (-1 : Int)])
    (.must (rowsOk [K.str] [] &&
  (decide ((0 : Nat) ≤ (1073741824 : Nat)) && (decide ((0 : Int) ≤ k) && decide (k ≤ (1099511627776 : Int)))))
     (.ask (decide (heldS (strs []) k < (0 : Int)))
      (.ret [C.int IntKind.i64 (-1 : Int)])
      (.ret [C.int IntKind.i64 (heldS (strs []) k)]))))))) : T (List C)).eval := evalEq (by kernel_rfl)
theorem sWorldNew_tree (H : List Pt → Nat → St → T (List C)) (a : Int) (v : Int) (s : Int) (r : Int) : (vBodyL E_sWorldNew noInl (sg [pSetting] [rWorld, rB]) Try.f72 H
  [C.int IntKind.i64 a, C.int IntKind.i64 v, C.int IntKind.i64 s, C.int IntKind.i64 r]).eval =
 ((.ask (settingOk a v s r)
 (.ask (newOk v s r)
  (.ret [C.int IntKind.i64 a, C.int IntKind.i64 v, C.int IntKind.i64 s, C.int IntKind.i64 r, C.sl [], C.sl [], C.sl [], C.sl [],
  C.int IntKind.i64 (imax (0 : Int) a), C.int IntKind.i64 ((1 : Int)),
  C.int IntKind.i64 (sel (newOk v s r) v), C.int IntKind.i64 (sel (newOk v s r) s),
  C.int IntKind.i64 (sel (newOk v s r) r), C.int IntKind.i64 ((0 : Int)),
  C.int IntKind.i64 ((0 : Int)), C.sl [], C.int IntKind.i64 ((0 : Int)), C.bool false,
  C.int IntKind.i64 ((0 : Int)), C.sl [], C.int IntKind.i64 (0 : Int), C.int IntKind.i64 (0 : Int),
  C.bool true])
  (.ret [C.int IntKind.i64 a, C.int IntKind.i64 v, C.int IntKind.i64 s, C.int IntKind.i64 r, C.sl [], C.sl [], C.sl [], C.sl [],
  C.int IntKind.i64 (imax (0 : Int) a), C.int IntKind.i64 ((1 : Int)),
  C.int IntKind.i64 (sel (newOk v s r) v), C.int IntKind.i64 (sel (newOk v s r) s),
  C.int IntKind.i64 (sel (newOk v s r) r), C.int IntKind.i64 ((0 : Int)),
  C.int IntKind.i64 ((0 : Int)), C.sl [], C.int IntKind.i64 ((0 : Int)), C.bool false,
  C.int IntKind.i64 ((0 : Int)), C.sl [], C.int IntKind.i64 (0 : Int), C.int IntKind.i64 (0 : Int),
  C.bool true]))
 (.ret [C.int IntKind.i64 (0 : Int), C.int IntKind.i64 (0 : Int), C.int IntKind.i64 (0 : Int), C.int IntKind.i64 (0 : Int),
  C.sl [], C.sl [], C.sl [], C.sl [], C.int IntKind.i64 (0 : Int), C.int IntKind.i64 (0 : Int),
  C.int IntKind.i64 (0 : Int), C.int IntKind.i64 (0 : Int), C.int IntKind.i64 (0 : Int), C.int IntKind.i64 (0 : Int),
  C.int IntKind.i64 (0 : Int), C.sl [], C.int IntKind.i64 (0 : Int), C.bool false, C.int IntKind.i64 (0 : Int), C.sl [],
  C.int IntKind.i64 (0 : Int), C.int IntKind.i64 (0 : Int), C.bool false])) : T (List C)).eval := evalEq (by kernel_rfl)
theorem iWorldNew_tree (H : List Pt → Nat → St → T (List C)) (a : Int) (v : Int) (s : Int) (r : Int) : (vBodyL E_iWorldNew noInl (sg [pSetting] [rWorld, rB]) Try.f74 H
  [C.int IntKind.i64 a, C.int IntKind.i64 v, C.int IntKind.i64 s, C.int IntKind.i64 r]).eval =
 ((.ask (settingOk a v s r)
 (.ask (newOk v s r)
  (.ret [C.int IntKind.i64 a, C.int IntKind.i64 v, C.int IntKind.i64 s, C.int IntKind.i64 r, C.sl [], C.sl [], C.sl [], C.sl [],
  C.int IntKind.i64 (imax (0 : Int) a), C.int IntKind.i64 ((1 : Int)),
  C.int IntKind.i64 (sel (newOk v s r) v), C.int IntKind.i64 (sel (newOk v s r) s),
  C.int IntKind.i64 (sel (newOk v s r) r), C.int IntKind.i64 ((0 : Int)),
  C.int IntKind.i64 ((0 : Int)), C.sl [], C.int IntKind.i64 ((0 : Int)), C.bool false,
  C.int IntKind.i64 ((0 : Int)), C.sl [], C.int IntKind.i64 (0 : Int), C.int IntKind.i64 (0 : Int),
  C.bool true])
  (.ret [C.int IntKind.i64 a, C.int IntKind.i64 v, C.int IntKind.i64 s, C.int IntKind.i64 r, C.sl [], C.sl [], C.sl [], C.sl [],
  C.int IntKind.i64 (imax (0 : Int) a), C.int IntKind.i64 ((1 : Int)),
  C.int IntKind.i64 (sel (newOk v s r) v), C.int IntKind.i64 (sel (newOk v s r) s),
  C.int IntKind.i64 (sel (newOk v s r) r), C.int IntKind.i64 ((0 : Int)),
  C.int IntKind.i64 ((0 : Int)), C.sl [], C.int IntKind.i64 ((0 : Int)), C.bool false,
  C.int IntKind.i64 ((0 : Int)), C.sl [], C.int IntKind.i64 (0 : Int), C.int IntKind.i64 (0 : Int),
  C.bool true]))
 (.ret [C.int IntKind.i64 (0 : Int), C.int IntKind.i64 (0 : Int), C.int IntKind.i64 (0 : Int), C.int IntKind.i64 (0 : Int),
  C.sl [], C.sl [], C.sl [], C.sl [], C.int IntKind.i64 (0 : Int), C.int IntKind.i64 (0 : Int),
  C.int IntKind.i64 (0 : Int), C.int IntKind.i64 (0 : Int), C.int IntKind.i64 (0 : Int), C.int IntKind.i64 (0 : Int),
  C.int IntKind.i64 (0 : Int), C.sl [], C.int IntKind.i64 (0 : Int), C.bool false, C.int IntKind.i64 (0 : Int), C.sl [],
  C.int IntKind.i64 (0 : Int), C.int IntKind.i64 (0 : Int), C.bool false])) : T (List C)).eval := evalEq (by kernel_rfl)
theorem lWorldNew_tree (H : List Pt → Nat → St → T (List C)) (a : Int) (v : Int) (s : Int) (r : Int) : (vBodyL E_lWorldNew noInl (sg [pSetting] [rB]) Try.f12 H
  [C.int IntKind.i64 a, C.int IntKind.i64 v, C.int IntKind.i64 s, C.int IntKind.i64 r]).eval =
 ((.ask (settingOk a v s r)
 (.ask (settingOk a v s r)
  (.ask (woEq (sel (settingOk a v s r) a) (sel (settingOk a v s r) v) (sel (settingOk a v s r) s) (sel (settingOk a v s r) r)
  (sel (settingOk a v s r) (imax (0 : Int) a)) (sel (settingOk a v s r) (1 : Int))
  (sel (settingOk a v s r) (sel (newOk v s r) v)) (sel (settingOk a v s r) (sel (newOk v s r) s))
  (sel (settingOk a v s r) (sel (newOk v s r) r)) ((0 : Int)) ((0 : Int))
  ((0 : Int)) ((0 : Int)) ((0 : Int)) ((0 : Int)) false
  (sel (settingOk a v s r) a) (sel (settingOk a v s r) v) (sel (settingOk a v s r) s) (sel (settingOk a v s r) r)
  (sel (settingOk a v s r) (imax (0 : Int) a)) (sel (settingOk a v s r) (1 : Int))
  (sel (settingOk a v s r) (sel (newOk v s r) v)) (sel (settingOk a v s r) (sel (newOk v s r) s))
  (sel (settingOk a v s r) (sel (newOk v s r) r)) ((0 : Int)) ((0 : Int))
  ((0 : Int)) ((0 : Int)) ((0 : Int)) ((0 : Int)) false)
   (.ask (settingOk a v s r)
    (.ask (woEq (sel (settingOk a v s r) a) (sel (settingOk a v s r) v) (sel (settingOk a v s r) s) (sel (settingOk a v s r) r)
  (sel (settingOk a v s r) (imax (0 : Int) a)) (sel (settingOk a v s r) (1 : Int))
  (sel (settingOk a v s r) (sel (newOk v s r) v)) (sel (settingOk a v s r) (sel (newOk v s r) s))
  (sel (settingOk a v s r) (sel (newOk v s r) r)) ((0 : Int)) ((0 : Int))
  ((0 : Int)) ((0 : Int)) ((0 : Int)) ((0 : Int)) false
  (sel (settingOk a v s r) a) (sel (settingOk a v s r) v) (sel (settingOk a v s r) s) (sel (settingOk a v s r) r)
  (sel (settingOk a v s r) (imax (0 : Int) a)) (sel (settingOk a v s r) (1 : Int))
  (sel (settingOk a v s r) (sel (newOk v s r) v)) (sel (settingOk a v s r) (sel (newOk v s r) s))
  (sel (settingOk a v s r) (sel (newOk v s r) r)) ((0 : Int)) ((0 : Int))
  ((0 : Int)) ((0 : Int)) ((0 : Int)) ((0 : Int)) false)
     (.ret [C.bool true])
     (.ret [C.bool false]))
    (.ask (woEq (sel (settingOk a v s r) a) (sel (settingOk a v s r) v) (sel (settingOk a v s r) s) (sel (settingOk a v s r) r)
  (sel (settingOk a v s r) (imax (0 : Int) a)) (sel (settingOk a v s r) (1 : Int))
  (sel (settingOk a v s r) (sel (newOk v s r) v)) (sel (settingOk a v s r) (sel (newOk v s r) s))
  (sel (settingOk a v s r) (sel (newOk v s r) r)) ((0 : Int)) ((0 : Int))
  ((0 : Int)) ((0 : Int)) ((0 : Int)) ((0 : Int)) false
  (sel (settingOk a v s r) a) (sel (settingOk a v s r) v) (sel (settingOk a v s r) s) (sel (settingOk a v s r) r)
  (sel (settingOk a v s r) (imax (0 : Int) a)) (sel (settingOk a v s r) (1 : Int))
  (sel (settingOk a v s r) (sel (newOk v s r) v)) (sel (settingOk a v s r) (sel (newOk v s r) s))
  (sel (settingOk a v s r) (sel (newOk v s r) r)) ((0 : Int)) ((0 : Int))
  ((0 : Int)) ((0 : Int)) ((0 : Int)) ((0 : Int)) false)
     (.ret [C.bool false])
     (.ret [C.bool false])))
   (.ret [C.bool false]))
  (.ask (woEq (sel (settingOk a v s r) a) (sel (settingOk a v s r) v) (sel (settingOk a v s r) s) (sel (settingOk a v s r) r)
  (sel (settingOk a v s r) (imax (0 : Int) a)) (sel (settingOk a v s r) (1 : Int))
  (sel (settingOk a v s r) (sel (newOk v s r) v)) (sel (settingOk a v s r) (sel (newOk v s r) s))
  (sel (settingOk a v s r) (sel (newOk v s r) r)) ((0 : Int)) ((0 : Int))
  ((0 : Int)) ((0 : Int)) ((0 : Int)) ((0 : Int)) false
  (sel (settingOk a v s r) a) (sel (settingOk a v s r) v) (sel (settingOk a v s r) s) (sel (settingOk a v s r) r)
  (sel (settingOk a v s r) (imax (0 : Int) a)) (sel (settingOk a v s r) (1 : Int))
  (sel (settingOk a v s r) (sel (newOk v s r) v)) (sel (settingOk a v s r) (sel (newOk v s r) s))
  (sel (settingOk a v s r) (sel (newOk v s r) r)) ((0 : Int)) ((0 : Int))
  ((0 : Int)) ((0 : Int)) ((0 : Int)) ((0 : Int)) false)
   (.ret [C.bool false])
   (.ret [C.bool false])))
 (.ask (settingOk a v s r)
  (.ask (woEq (sel (settingOk a v s r) a) (sel (settingOk a v s r) v) (sel (settingOk a v s r) s) (sel (settingOk a v s r) r)
  (sel (settingOk a v s r) (imax (0 : Int) a)) (sel (settingOk a v s r) (1 : Int))
  (sel (settingOk a v s r) (sel (newOk v s r) v)) (sel (settingOk a v s r) (sel (newOk v s r) s))
  (sel (settingOk a v s r) (sel (newOk v s r) r)) ((0 : Int)) ((0 : Int))
  ((0 : Int)) ((0 : Int)) ((0 : Int)) ((0 : Int)) false
  (sel (settingOk a v s r) a) (sel (settingOk a v s r) v) (sel (settingOk a v s r) s) (sel (settingOk a v s r) r)
  (sel (settingOk a v s r) (imax (0 : Int) a)) (sel (settingOk a v s r) (1 : Int))
  (sel (settingOk a v s r) (sel (newOk v s r) v)) (sel (settingOk a v s r) (sel (newOk v s r) s))
  (sel (settingOk a v s r) (sel (newOk v s r) r)) ((0 : Int)) ((0 : Int))
  ((0 : Int)) ((0 : Int)) ((0 : Int)) ((0 : Int)) false)
   (.ret [C.bool false])
   (.ret [C.bool false]))
  (.ask (woEq (sel (settingOk a v s r) a) (sel (settingOk a v s r) v) (sel (settingOk a v s r) s) (sel (settingOk a v s r) r)
  (sel (settingOk a v s r) (imax (0 : Int) a)) (sel (settingOk a v s r) (1 : Int))
  (sel (settingOk a v s r) (sel (newOk v s r) v)) (sel (settingOk a v s r) (sel (newOk v s r) s))
  (sel (settingOk a v s r) (sel (newOk v s r) r)) ((0 : Int)) ((0 : Int))
  ((0 : Int)) ((0 : Int)) ((0 : Int)) ((0 : Int)) false
  (sel (settingOk a v s r) a) (sel (settingOk a v s r) v) (sel (settingOk a v s r) s) (sel (settingOk a v s r) r)
  (sel (settingOk a v s r) (imax (0 : Int) a)) (sel (settingOk a v s r) (1 : Int))
  (sel (settingOk a v s r) (sel (newOk v s r) v)) (sel (settingOk a v s r) (sel (newOk v s r) s))
  (sel (settingOk a v s r) (sel (newOk v s r) r)) ((0 : Int)) ((0 : Int))
  ((0 : Int)) ((0 : Int)) ((0 : Int)) ((0 : Int)) false)
   (.ask (settingOk a v s r)
    (.ask (woEq (sel (settingOk a v s r) a) (sel (settingOk a v s r) v) (sel (settingOk a v s r) s) (sel (settingOk a v s r) r)
  (sel (settingOk a v s r) (imax (0 : Int) a)) (sel (settingOk a v s r) (1 : Int))
  (sel (settingOk a v s r) (sel (newOk v s r) v)) (sel (settingOk a v s r) (sel (newOk v s r) s))
  (sel (settingOk a v s r) (sel (newOk v s r) r)) ((0 : Int)) ((0 : Int))
  ((0 : Int)) ((0 : Int)) ((0 : Int)) ((0 : Int)) false
  (sel (settingOk a v s r) a) (sel (settingOk a v s r) v) (sel (settingOk a v s r) s) (sel (settingOk a v s r) r)
  (sel (settingOk a v s r) (imax (0 : Int) a)) (sel (settingOk a v s r) (1 : Int))
  (sel (settingOk a v s r) (sel (newOk v s r) v)) (sel (settingOk a v s r) (sel (newOk v s r) s))
  (sel (settingOk a v s r) (sel (newOk v s r) r)) ((0 : Int)) ((0 : Int))
  ((0 : Int)) ((0 : Int)) ((0 : Int)) ((0 : Int)) false)
     (.ret [C.bool false])
     (.ret [C.bool false]))
    (.ask (woEq (sel (settingOk a v s r) a) (sel (settingOk a v s r) v) (sel (settingOk a v s r) s) (sel (settingOk a v s r) r)
  (sel (settingOk a v s r) (imax (0 : Int) a)) (sel (settingOk a v s r) (1 : Int))
  (sel (settingOk a v s r) (sel (newOk v s r) v)) (sel (settingOk a v s r) (sel (newOk v s r) s))
  (sel (settingOk a v s r) (sel (newOk v s r) r)) ((0 : Int)) ((0 : Int))
  ((0 : Int)) ((0 : Int)) ((0 : Int)) ((0 : Int)) false
  (sel (settingOk a v s r) a) (sel (settingOk a v s r) v) (sel (settingOk a v s r) s) (sel (settingOk a v s r) r)
  (sel (settingOk a v s r) (imax (0 : Int) a)) (sel (settingOk a v s r) (1 : Int))
  (sel (settingOk a v s r) (sel (newOk v s r) v)) (sel (settingOk a v s r) (sel (newOk v s r) s))
  (sel (settingOk a v s r) (sel (newOk v s r) r)) ((0 : Int)) ((0 : Int))
  ((0 : Int)) ((0 : Int)) ((0 : Int)) ((0 : Int)) false)
     (.ret [C.bool true])
     (.ret [C.bool false])))
   (.ret [C.bool false])))) : T (List C)).eval := evalEq (by kernel_rfl)
end Go.Proofs.Ythpamcbipmkimaa.V

namespace Go.Proofs.Ythpamcbipmkimaa.V

theorem sDiskNew_E : EnvSound Try.prog E_sDiskNew := mkE_sound (by simp [])
theorem sDiskNew_sound : Sound Try.prog 130 (sg [pI] [rDisk]) diskNewSpec := vBody_sound sDiskNew_E noInl_ok Try.func130 (by kernel_rfl) fun cs outs hk h => by
  unfold diskNewSpec at h
  split at h
  · simp only [Option.some.injEq, Prod.mk.injEq, true_and] at h
    rw [← h, vBody_L, sDiskNew_tree]
    simp only [eval_must', eval_ask', eval_ret', if_true, imax, decide_eq_true_eq]
    repeat' split
    all_goals first | rfl | (simp_all; done) | (simp_all; omega)
  · cases h
theorem iDiskNew_E : EnvSound Try.prog E_iDiskNew := mkE_sound (by simp [])
theorem iDiskNew_sound : Sound Try.prog 133 (sg [pI] [rDisk]) diskNewSpec := vBody_sound iDiskNew_E noInl_ok Try.func133 (by kernel_rfl) fun cs outs hk h => by
  unfold diskNewSpec at h
  split at h
  · simp only [Option.some.injEq, Prod.mk.injEq, true_and] at h
    rw [← h, vBody_L, iDiskNew_tree]
    simp only [eval_must', eval_ask', eval_ret', if_true, imax, decide_eq_true_eq]
    repeat' split
    all_goals first | rfl | (simp_all; done) | (simp_all; omega)
  · cases h

theorem eqIntS_loop (x y : List Int) (hx : x.length ≤ 1073741824) (hl : x.length = y.length) : ∀ (n i : Nat), i ≤ x.length → x.length < i + n → x.take i = y.take i →
    (vLoop E_eqIntS noInl (sg [pSl 3, pSl 3] [rB]) Try.f96 [.r, .r, .l, .r, .b] n (H_eqIntS (x.map eInt) (y.map eInt) i)).eval = some [.bool (decide (x = y))] := by
  intro n
  induction n with
  | zero => intro i h1 h2; omega
  | succ n ih =>
    intro i h1 h2 h3
    rw [vLoop_L _ _ _ _ _ _ _ (by kernel_rfl), eqIntS_round0]
    by_cases hi : i < x.length
    · have hi2 : i < y.length := by omega
      have w : IntKind.i64.wrap ((i : Int) + 1) = ((i + 1 : Nat) : Int) := by rw [wrap64] <;> omega
      have hz : (0 : Int) ≤ i := by omega
      have g := map_getD eInt x 0 i hi
      have g2 := map_getD eInt y 0 i hi2
      simp only [eval_must', eval_ask', eval_ret', if_true, decide_eq_true_eq, Bool.and_eq_true, w, hz, Int.toNat_natCast, Int.ofNat_lt, List.length_map, g, g2, hi, hi2, and_self, List.getD_cons_zero, C.toInt, C.is, List.length_cons, List.length_nil, Nat.zero_add, Nat.zero_lt_succ, Bool.not_eq_true', beq_eq_false_iff_ne, bne_iff_ne, beq_self_eq_true, ne_eq]
      by_cases hxy : x.getD i 0 = y.getD i 0
      · have e := ih (i + 1) (by omega) (by omega) (take_eq_step 0 hi hi2 h3 hxy)
        simp only [hxy, not_true_eq_false, if_false]
        exact e
      · have : x ≠ y := fun h => hxy (by rw [h])
        simp only [hxy, not_false_eq_true, if_true, this, decide_false]
    · have e1 : i = x.length := by omega
      have : x = y := by
        rw [e1, List.take_length, hl, List.take_length] at h3
        exact h3
      have e2 : decide (x = y) = true := by simp [this]
      simp only [eval_must', eval_ask', eval_ret', decide_eq_true_eq, List.length_map, Int.ofNat_lt, hi, if_false, if_true, e2]
theorem eqIntS_E : EnvSound Try.prog E_eqIntS := mkE_sound (by simp [])
theorem eqIntS_sound : Sound Try.prog 96 (sg [pSl 3, pSl 3] [rB]) eqIntSpec := vBody_sound eqIntS_E noInl_ok Try.func96 (by kernel_rfl) fun cs outs hk h => by
  unfold eqIntSpec at h
  split at h
  · simp only [Option.some.injEq, Prod.mk.injEq, Bool.and_eq_true, decide_eq_true_eq] at h
    obtain ⟨⟨h1, h2, h3⟩, rfl⟩ := h
    rename_i x y
    have hx := rows_ints h2
    have hy := rows_ints h3
    generalize ints x = l at hx ⊢
    generalize ints y = m at hy ⊢
    subst hx; subst hy
    rw [List.length_map] at h1
    rw [vBody_L, eqIntS_tree]
    simp only [eval_must', eval_ask', eval_ret', if_true, bne_iff_ne, ne_eq, List.length_map, Int.ofNat_inj]
    by_cases hl : l.length = m.length
    · simp only [hl, not_true_eq_false, if_false]
      exact eqIntS_loop l m h1 hl _ 0 (by omega) (by omega) rfl
    · have : l ≠ m := fun h => hl (by rw [h])
      simp [hl, this]
  · cases h

theorem heldIntE_E : EnvSound Try.prog E_heldIntE := mkE_sound (by simp [])
theorem heldIntE_sound : Sound Try.prog 164 (sg [pSl 3, pI] [rI]) heldEmpSpec := vBody_sound heldIntE_E noInl_ok Try.func164 (by kernel_rfl) fun cs outs hk h => by
  unfold heldEmpSpec at h
  split at h
  · simp only [Option.some.injEq, Prod.mk.injEq, true_and] at h
    subst h
    rename_i k
    rw [vBody_L, heldIntE_tree, vLoop_L _ _ _ _ _ 9223372036854775807 _ (by kernel_rfl), heldIntE_round0]
    have : ¬ ((0 : Int) < 0) := by omega
    simp only [eval_ask', eval_must', eval_ret', decide_eq_true_eq, this, if_false, if_true, List.length_nil, Int.ofNat_zero, Bool.and_self]
    try rfl
  · cases h
theorem heldNodeE_E : EnvSound Try.prog E_heldNodeE := mkE_sound (by simp [lMarkText_sound])
theorem heldNodeE_sound : Sound Try.prog 162 (sg [pSl 157, pI] [rI]) heldEmpSpec := vBody_sound heldNodeE_E noInl_ok Try.func162 (by kernel_rfl) fun cs outs hk h => by
  unfold heldEmpSpec at h
  split at h
  · simp only [Option.some.injEq, Prod.mk.injEq, true_and] at h
    subst h
    rename_i k
    rw [vBody_L, heldNodeE_tree, vLoop_L _ _ _ _ _ 9223372036854775807 _ (by kernel_rfl), heldNodeE_round0]
    have : ¬ ((0 : Int) < 0) := by omega
    simp only [eval_ask', eval_must', eval_ret', decide_eq_true_eq, this, if_false, if_true, List.length_nil, Int.ofNat_zero, Bool.and_self]
    try rfl
  · cases h
theorem heldEntryE_E : EnvSound Try.prog E_heldEntryE := mkE_sound (by simp [lMarkText_sound])
theorem heldEntryE_sound : Sound Try.prog 163 (sg [pSl 160, pI] [rI]) heldEmpSpec := vBody_sound heldEntryE_E noInl_ok Try.func163 (by kernel_rfl) fun cs outs hk h => by
  unfold heldEmpSpec at h
  split at h
  · simp only [Option.some.injEq, Prod.mk.injEq, true_and] at h
    subst h
    rename_i k
    rw [vBody_L, heldEntryE_tree, vLoop_L _ _ _ _ _ 9223372036854775807 _ (by kernel_rfl), heldEntryE_round0]
    have : ¬ ((0 : Int) < 0) := by omega
    simp only [eval_ask', eval_must', eval_ret', decide_eq_true_eq, this, if_false, if_true, List.length_nil, Int.ofNat_zero, Bool.and_self]
    try rfl
  · cases h
theorem markIntE_E : EnvSound Try.prog E_markIntE := mkE_sound (by simp [])
theorem markIntE_sound : Sound Try.prog 161 (sg [.wr false [(.slice 3, true)], pI] [rI]) markEmpSpec := vBody_sound markIntE_E noInl_ok Try.func161 (by kernel_rfl) fun cs outs hk h => by
  unfold markEmpSpec at h
  split at h
  · simp only [Option.some.injEq, Prod.mk.injEq, true_and] at h
    subst h
    rename_i k
    rw [vBody_L, markIntE_tree, vLoop_L _ _ _ _ _ 9223372036854775807 _ (by kernel_rfl), markIntE_round0]
    have : ¬ ((0 : Int) < 0) := by omega
    simp only [eval_ask', eval_must', eval_ret', decide_eq_true_eq, this, if_false, if_true, List.length_nil, Int.ofNat_zero, Bool.and_self]
    try rfl
  · cases h

theorem eqSet_E : EnvSound Try.prog E_eqSet := mkE_sound (by simp [])
theorem eqSet_sound : Sound Try.prog 134 (sg [pSetting, pSetting] [rB]) eqSetSpec := vBody_sound eqSet_E noInl_ok Try.func134 (by kernel_rfl) fun cs outs hk h => by
  unfold eqSetSpec at h
  split at h
  · simp only [Option.some.injEq, Prod.mk.injEq, true_and] at h
    subst h
    rw [vBody_L, eqSet_tree]
    simp only [eval_must', eval_ask', eval_ret', bne_iff_ne, ne_eq, Bool.not_eq_true', decide_eq_true_eq]
    repeat' split
    all_goals first | rfl | (simp_all; done)
  · cases h
theorem eqWriter_E : EnvSound Try.prog E_eqWriter := mkE_sound (by simp [eqIntS_sound])
theorem eqWriter_sound : Sound Try.prog 136 (sg [pWriter, pWriter] [rB]) eqWriterSpec := vBody_sound eqWriter_E noInl_ok Try.func136 (by kernel_rfl) fun cs outs hk h => by
  unfold eqWriterSpec at h
  split at h
  · simp only [Option.some.injEq, Prod.mk.injEq, true_and] at h
    subst h
    rw [vBody_L, eqWriter_tree]
    simp only [eval_must', eval_ask', eval_ret', bne_iff_ne, ne_eq, Bool.not_eq_true', wrEq]
    repeat' split
    all_goals first | rfl | (simp_all; done)
  · cases h
theorem markWriter_E : EnvSound Try.prog E_markWriter := mkE_sound (by simp [markIntE_sound])
theorem markWriter_sound : Sound Try.prog 138 (sg [pWWriter, pI] [rI]) markWriterSpec := vBody_sound markWriter_E noInl_ok Try.func138 (by kernel_rfl) fun cs outs hk h => by
  unfold markWriterSpec at h
  split at h
  · simp only [Option.some.injEq, Prod.mk.injEq, true_and] at h
    subst h
    rw [vBody_L, markWriter_tree]
    simp only [eval_must', eval_ask', eval_ret', bne_iff_ne, ne_eq, Bool.not_eq_true', decide_eq_true_eq]
    repeat' split
    all_goals first | rfl | (simp_all; done)
  · cases h
theorem heldWriter_E : EnvSound Try.prog E_heldWriter := mkE_sound (by simp [heldIntE_sound])
theorem heldWriter_sound : Sound Try.prog 140 (sg [pWriter, pI] [rI]) heldWriterSpec := vBody_sound heldWriter_E noInl_ok Try.func140 (by kernel_rfl) fun cs outs hk h => by
  unfold heldWriterSpec at h
  split at h
  · simp only [Option.some.injEq, Prod.mk.injEq, Bool.and_eq_true, decide_eq_true_eq] at h
    obtain ⟨hc, rfl⟩ := h
    rename_i k
    rw [vBody_L, heldWriter_tree]
    have nk : ¬ k < 0 := by omega
    simp only [eval_must', eval_ask', eval_ret', decide_eq_true_eq, nk, if_false]
  · cases h
theorem heldDiskE_E : EnvSound Try.prog E_heldDiskE := mkE_sound (by simp [lHeldS_sound, heldNodeE_sound, heldEntryE_sound])
theorem heldDiskE_sound : Sound Try.prog 139 (sg [pDisk, pI] [rI]) heldDiskSpec := vBody_sound heldDiskE_E noInl_ok Try.func139 (by kernel_rfl) fun cs outs hk h => by
  unfold heldDiskSpec at h
  split at h
  · simp only [Option.some.injEq, Prod.mk.injEq, Bool.and_eq_true, decide_eq_true_eq] at h
    obtain ⟨hc, rfl⟩ := h
    rename_i k
    rw [vBody_L, heldDiskE_tree]
    have nk : ¬ k < 0 := by omega
    have h0 : ∀ z, heldS (strs []) z = z := fun z => rfl
    have h1 : diskK k 0 0 0 0 = k := by unfold diskK; simp
    have e1 : rowsOk [.str] [] = true := rfl
    have e2 : diskRows [] [] [] [] = true := rfl
    have e3 : diskLens 1048576 [] [] [] [] = true := rfl
    have e4 : decide ((0 : Nat) ≤ 1073741824) = true := by decide
    have e5 : k ≤ 1099511627776 := by omega
    simp only [eval_must', eval_ask', eval_ret', decide_eq_true_eq, nk, h0, h1, e1, e2, e3, e4, e5, hc.1, hc.2, decide_true, Bool.and_self, if_true, if_false, Int.ofNat_zero, Int.add_zero]
    try rfl
  · cases h
theorem eqWorld_E : EnvSound Try.prog E_eqWorld := mkE_sound (by simp [eqStringS_sound, eqDisk_sound, eqSet_sound, eqWriter_sound])
theorem eqWorld_sound : Sound Try.prog 75 (sg [pWorld, pWorld] [rB]) eqWorldSpec := vBody_sound eqWorld_E noInl_ok Try.func75 (by kernel_rfl) fun cs outs hk h => by
  unfold eqWorldSpec at h
  split at h
  · simp only [Option.some.injEq, Prod.mk.injEq, true_and] at h
    subst h
    rw [vBody_L, eqWorld_tree]
    simp only [eval_must', eval_ask', eval_ret', bne_iff_ne, ne_eq, Bool.not_eq_true', decide_eq_true_eq, woEq, eqDk, wrEq]
    repeat' split
    all_goals first | rfl | (simp_all; done) | (simp_all; omega)
  · cases h
theorem markWorld_E : EnvSound Try.prog E_markWorld := mkE_sound (by simp [lMarkS_sound, lMarkD_sound, markWriter_sound])
theorem markWorld_sound : Sound Try.prog 76 (sg [pWWorld, pI] [rI]) markWorldSpec := vBody_sound markWorld_E noInl_ok Try.func76 (by kernel_rfl) fun cs outs hk h => by
  unfold markWorldSpec at h
  split at h
  · simp only [Option.some.injEq, Prod.mk.injEq, Bool.and_eq_true, decide_eq_true_eq] at h
    obtain ⟨hc, rfl⟩ := h
    rename_i k
    rw [vBody_L, markWorld_tree]
    have nk : ¬ k < 0 := by omega
    have h0 : ∀ z, heldS (strs []) z = z := fun z => rfl
    have h1 : diskK k 0 0 0 0 = k := by unfold diskK; simp
    have e1 : rowsOk [.str] [] = true := rfl
    have e2 : diskRows [] [] [] [] = true := rfl
    have e3 : diskLens 1048576 [] [] [] [] = true := rfl
    have e4 : decide ((0 : Nat) ≤ 1073741824) = true := by decide
    have e5 : k ≤ 1099511627776 := by omega
    simp only [eval_must', eval_ask', eval_ret', decide_eq_true_eq, nk, h0, h1, e1, e2, e3, e4, e5, hc.1, hc.2, decide_true, Bool.and_self, if_true, if_false, Int.ofNat_zero, Int.add_zero]
    try rfl
  · cases h
theorem heldWorld_E : EnvSound Try.prog E_heldWorld := mkE_sound (by simp [lHeldS_sound, heldWriter_sound, heldDiskE_sound])
theorem heldWorld_sound : Sound Try.prog 77 (sg [pWorld, pI] [rI]) heldWorldSpec := vBody_sound heldWorld_E noInl_ok Try.func77 (by kernel_rfl) fun cs outs hk h => by
  unfold heldWorldSpec at h
  split at h
  · simp only [Option.some.injEq, Prod.mk.injEq, Bool.and_eq_true, decide_eq_true_eq] at h
    obtain ⟨hc, rfl⟩ := h
    rename_i k
    rw [vBody_L, heldWorld_tree]
    have nk : ¬ k < 0 := by omega
    have h0 : ∀ z, heldS (strs []) z = z := fun z => rfl
    have h1 : diskK k 0 0 0 0 = k := by unfold diskK; simp
    have e1 : rowsOk [.str] [] = true := rfl
    have e2 : diskRows [] [] [] [] = true := rfl
    have e3 : diskLens 1048576 [] [] [] [] = true := rfl
    have e4 : decide ((0 : Nat) ≤ 1073741824) = true := by decide
    have e5 : k ≤ 1099511627776 := by omega
    simp only [eval_must', eval_ask', eval_ret', decide_eq_true_eq, nk, h0, h1, e1, e2, e3, e4, e5, hc.1, hc.2, decide_true, Bool.and_self, if_true, if_false, Int.ofNat_zero, Int.add_zero]
    try rfl
  · cases h

theorem sWorldNew_E : EnvSound Try.prog E_sWorldNew := mkE_sound (by simp [sWriterNew_sound, sSettingOk_sound, sDiskNew_sound])
theorem sWorldNew_sound : Sound Try.prog 72 (sg [pSetting] [rWorld, rB]) worldSpec := vBody_sound sWorldNew_E noInl_ok Try.func72 (by kernel_rfl) fun cs outs hk h => by
  unfold worldSpec at h
  split at h
  · simp only [Option.some.injEq, Prod.mk.injEq, true_and] at h
    subst h
    rename_i a v s r
    rw [vBody_L, sWorldNew_tree]
    cases hs : settingOk a v s r <;> simp only [eval_must', eval_ask', eval_ret', sel, if_true, if_false, Bool.false_eq_true, Bool.not_true, Bool.not_false] <;> first | rfl | (split <;> rfl)
  · cases h
theorem iWorldNew_E : EnvSound Try.prog E_iWorldNew := mkE_sound (by simp [iWriterNew_sound, iSettingOk_sound, iDiskNew_sound])
theorem iWorldNew_sound : Sound Try.prog 74 (sg [pSetting] [rWorld, rB]) worldSpec := vBody_sound iWorldNew_E noInl_ok Try.func74 (by kernel_rfl) fun cs outs hk h => by
  unfold worldSpec at h
  split at h
  · simp only [Option.some.injEq, Prod.mk.injEq, true_and] at h
    subst h
    rename_i a v s r
    rw [vBody_L, iWorldNew_tree]
    cases hs : settingOk a v s r <;> simp only [eval_must', eval_ask', eval_ret', sel, if_true, if_false, Bool.false_eq_true, Bool.not_true, Bool.not_false] <;> first | rfl | (split <;> rfl)
  · cases h
theorem lWorldNew_E : EnvSound Try.prog E_lWorldNew := mkE_sound (by simp [toSetting_sound, eqWorld_sound, markWorld_sound, heldWorld_sound, sWorldNew_sound, iWorldNew_sound])
theorem lWorldNew_sound : Sound Try.prog 12 (sg [pSetting] [rB]) worldLaw := vBody_sound lWorldNew_E noInl_ok Try.func12 (by kernel_rfl) fun cs outs hk h => by
  unfold worldLaw at h
  split at h
  · simp only [Option.some.injEq, Prod.mk.injEq, true_and] at h
    subst h
    rename_i a v s r
    rw [vBody_L, lWorldNew_tree]
    have ww : ∀ x1 x2 x3 x4 x5 x6 x7 x8 x9 x10 x11 x12 x13 x14 x15 xb, woEq x1 x2 x3 x4 x5 x6 x7 x8 x9 x10 x11 x12 x13 x14 x15 xb x1 x2 x3 x4 x5 x6 x7 x8 x9 x10 x11 x12 x13 x14 x15 xb = true := by intros; simp [woEq]
    simp only [eval_must', eval_ask', eval_ret', ww, bne_self_eq_false, Bool.not_true, Bool.false_eq_true, if_true, if_false]
    cases settingOk a v s r <;> rfl
  · cases h

end Go.Proofs.Ythpamcbipmkimaa.V
