/- Functions of the given program and of its reference: what each returns, as an equation over data; by the interpreter. -/
import Derived.Test.YthpamcbipmkimaaVG
import Derived.Test.YthpamcbipmkimaaProg
import Derived.KernelRfl
set_option linter.unusedVariables false
set_option linter.unusedSimpArgs false
set_option linter.unusedSectionVars false
set_option linter.deprecated false
namespace Go.Proofs.Ythpamcbipmkimaa.V
noncomputable section
def tyTab : List (TypeId × TI) := [(2, ⟨false, [.int .i64], [], 8, false⟩),
  (3, ⟨false, [.int .i64], [], 8, false⟩),
  (4, ⟨false, [.bool], [], 1, false⟩),
  (5, ⟨false, [.int .u8], [], 1, false⟩),
  (6, ⟨false, [.int .u8], [], 1, false⟩),
  (7, ⟨true, [.int .i64, .int .i64, .bool, .int .u8], [(0, 2), (1, 3), (2, 4), (3, 6)], 24, false⟩),
  (8, ⟨true, [.int .i64, .int .i64, .bool, .int .u8], [(0, 2), (1, 3), (2, 4), (3, 6)], 24, false⟩),
  (9, ⟨false, [.str], [], 16, false⟩),
  (10, ⟨false, [.str], [], 16, false⟩),
  (11, ⟨false, [.str], [], 16, false⟩),
  (12, ⟨false, [.int .u64], [], 8, false⟩),
  (13, ⟨true, [.str, .int .u64], [(0, 9), (1, 12)], 24, false⟩),
  (14, ⟨true, [.str, .int .u64], [(0, 9), (1, 12)], 24, false⟩),
  (21, ⟨false, [.int .i32], [], 4, false⟩),
  (23, ⟨false, [.slice 3], [], 24, false⟩),
  (24, ⟨true, [.int .i64, .str, .int .i64, .slice 3], [(0, 3), (1, 9), (2, 3), (3, 23)], 56, false⟩),
  (25, ⟨true, [.int .i64, .str, .int .i64, .slice 3], [(0, 3), (1, 9), (2, 3), (3, 23)], 56, false⟩),
  (28, ⟨true, [.int .i64, .str, .int .i64, .slice 3], [(0, 3), (1, 9), (2, 3), (3, 23)], 56, false⟩),
  (32, ⟨false, [.slice 5], [], 24, false⟩),
  (39, ⟨false, [.int .u64], [], 8, false⟩),
  (41, ⟨false, [.slice 9], [], 24, false⟩),
  (44, ⟨false, [.slice 41], [], 24, false⟩),
  (68, ⟨true, [.int .i64, .int .i64, .int .i64, .int .i64], [(0, 3), (1, 3), (2, 3), (3, 3)], 32, false⟩),
  (69, ⟨true, [.int .i64, .int .i64, .int .i64, .int .i64], [(0, 3), (1, 3), (2, 3), (3, 3)], 32, true⟩),
  (76, ⟨true, [.int .i64, .int .i64, .int .i64, .int .i64], [(0, 3), (1, 3), (2, 3), (3, 3)], 32, false⟩),
  (77, ⟨true, [.int .i64, .int .i64, .int .i64, .int .i64], [(0, 3), (1, 3), (2, 3), (3, 3)], 32, true⟩),
  (78, ⟨true, [.int .i64, .int .i64, .int .i64, .int .i64], [(0, 3), (1, 3), (2, 3), (3, 3)], 32, true⟩),
  (79, ⟨false, [.slice 157], [], 24, false⟩),
  (80, ⟨false, [.slice 160], [], 24, false⟩),
  (81, ⟨true, [.slice 157, .slice 160, .slice 160, .slice 9, .int .i64, .int .i64], [(0, 79), (1, 80), (2, 80), (3, 41), (4, 3), (5, 3)], 112, false⟩),
  (82, ⟨true, [.slice 157, .slice 160, .slice 160, .slice 9, .int .i64, .int .i64], [(0, 79), (1, 80), (2, 80), (3, 41), (4, 3), (5, 3)], 112, false⟩),
  (83, ⟨true, [.int .i64, .int .i64, .int .i64, .int .i64, .int .i64, .slice 3, .int .i64, .bool, .int .i64], [(0, 3), (1, 3), (2, 3), (3, 3), (4, 3), (5, 23), (6, 3), (7, 4), (8, 3)], 88, false⟩),
  (84, ⟨true, [.int .i64, .int .i64, .int .i64, .int .i64, .int .i64, .slice 3, .int .i64, .bool, .int .i64], [(0, 3), (1, 3), (2, 3), (3, 3), (4, 3), (5, 23), (6, 3), (7, 4), (8, 3)], 88, false⟩),
  (85, ⟨true, [.int .i64, .int .i64, .int .i64, .int .i64, .slice 157, .slice 160, .slice 160, .slice 9, .int .i64, .int .i64, .int .i64, .int .i64, .int .i64, .int .i64, .int .i64, .slice 3, .int .i64, .bool, .int .i64, .slice 9, .int .i64, .int .i64], [(0, 78), (4, 82), (10, 84), (19, 41), (20, 3), (21, 3)], 272, false⟩),
  (86, ⟨true, [.int .i64, .int .i64, .int .i64, .int .i64, .slice 157, .slice 160, .slice 160, .slice 9, .int .i64, .int .i64, .int .i64, .int .i64, .int .i64, .int .i64, .int .i64, .slice 3, .int .i64, .bool, .int .i64, .slice 9, .int .i64, .int .i64], [(0, 78), (4, 82), (10, 84), (19, 41), (20, 3), (21, 3)], 272, false⟩),
  (133, ⟨true, [.bool, .int .i64, .int .i64, .int .i64, .int .i64, .slice 9, .slice 3, .int .i64, .bool], [(0, 4), (1, 69), (5, 41), (6, 23), (7, 3), (8, 4)], 104, false⟩),
  (134, ⟨true, [.bool, .int .i64, .int .i64, .int .i64, .int .i64, .slice 9, .slice 3, .int .i64, .bool], [(0, 4), (1, 69), (5, 41), (6, 23), (7, 3), (8, 4)], 104, false⟩),
  (139, ⟨true, [.slice 5, .int .i64, .int .i64], [(0, 32), (1, 3), (2, 3)], 40, false⟩),
  (140, ⟨true, [.slice 5, .int .i64, .int .i64], [(0, 32), (1, 3), (2, 3)], 40, false⟩),
  (150, ⟨false, [.slice 162], [], 24, false⟩),
  (153, ⟨false, [.int .u32], [], 4, false⟩),
  (156, ⟨true, [.int .i64, .str, .int .i64], [(0, 3), (1, 9), (2, 3)], 32, false⟩),
  (157, ⟨true, [.int .i64, .str, .int .i64], [(0, 3), (1, 9), (2, 3)], 32, true⟩),
  (159, ⟨true, [.str, .int .i64], [(0, 9), (1, 3)], 24, false⟩),
  (160, ⟨true, [.str, .int .i64], [(0, 9), (1, 3)], 24, true⟩),
  (161, ⟨true, [.int .i64, .int .i64], [(0, 3), (1, 3)], 16, false⟩),
  (162, ⟨true, [.int .i64, .int .i64], [(0, 3), (1, 3)], 16, true⟩),
  (170, ⟨false, [.int .u8], [], 1, false⟩),
  (171, ⟨false, [.int .u8], [], 1, false⟩),
  (174, ⟨false, [.int .i32], [], 4, false⟩),
  (175, ⟨false, [.int .i32], [], 4, false⟩)]
abbrev Laws := List (FuncId × Sig × Spec)
def mkE (lv : List (Nat × List Nat)) (gs : Laws) : Env := { Ty := tyOf tyTab, Γ := fun g => gs.lookup g, inl := fun _ => none, lv := fun h => (lv.lookup h).getD [], ren := true, fuel := 9223372036854775808, nt := 0 }
abbrev pI : PTy := .val false [.int .i64]
abbrev pU8 : PTy := .val false [.int .u8]
abbrev pU32 : PTy := .val false [.int .u32]
abbrev pS : PTy := .val false [.str]
abbrev pB : PTy := .val false [.bool]
abbrev rI : RTy := ⟨false, [(.int .i64, false)]⟩
abbrev rU8 : RTy := ⟨false, [(.int .u8, false)]⟩
abbrev rU32 : RTy := ⟨false, [(.int .u32, false)]⟩
abbrev rB : RTy := ⟨false, [(.bool, false)]⟩
abbrev rS : RTy := ⟨false, [(.str, false)]⟩
abbrev sg (ps : List PTy) (rs : List RTy) : Sig := ⟨ps, rs, false⟩
abbrev int64 (n : Int) : W := .l (.i .i64 n)
abbrev wstr (s : List UInt8) : W := .l (.s s)
abbrev st0 (slots : List (Nat × W)) : St := { slots, heap := [], next := 0, pins := [] }
abbrev st1 (slots : List (Nat × W)) (sz : Nat) (rows : List (List C)) : St := { slots, heap := [(0, .arr sz rows)], next := 1, pins := [] }
theorem tyTab_ok : (tyTab.all fun p => tyB Try.prog p.1 p.2) = true := by kernel_rfl
theorem mkE_sound {lv : List (Nat × List Nat)} {gs : Laws} (h : ∀ p, p ∈ gs → Sound Try.prog p.1 p.2.1 p.2.2) : EnvSound Try.prog (mkE lv gs) :=
  ⟨⟨(tys_ok tyTab_ok).1, fun g fn h => (by cases h)⟩, fun g sig spec hl => h (g, sig, spec) (lookup_mem hl), fun g fn h => (by cases h), by kernel_rfl⟩
def E0 : Env := mkE [] []
theorem E0_sound : EnvSound Try.prog E0 := mkE_sound (by simp)
end
end Go.Proofs.Ythpamcbipmkimaa.V

namespace Go.Proofs.Ythpamcbipmkimaa.V
noncomputable section

/-- the kinds of a row's leaves -/
def rowsOk (ks : List K) (rows : List (List C)) : Bool := rows.all fun r => kindsOk r ks
abbrev eInt (n : Int) : List C := [.int .i64 n]
def rowInt (r : List C) : Int := (r.getD 0 (.fn 0 [])).toInt
def ints (rows : List (List C)) : List Int := rows.map rowInt
abbrev eStr (s : List UInt8) : List C := [.str s]
def rowStr (r : List C) : List UInt8 := (r.getD 0 (.fn 0 [])).toStr
def strs (rows : List (List C)) : List (List UInt8) := rows.map rowStr
abbrev pSl (t : TypeId) : PTy := .val false [.slice t]
abbrev rSl (t : TypeId) : RTy := ⟨false, [(.slice t, true)]⟩

end
end Go.Proofs.Ythpamcbipmkimaa.V

namespace Go.Proofs.Ythpamcbipmkimaa.V
set_option maxRecDepth 100000

end Go.Proofs.Ythpamcbipmkimaa.V

namespace Go.Proofs.Ythpamcbipmkimaa.V

theorem row_int {r : List C} (h : kindsOk r [.int .i64] = true) : r = eInt (rowInt r) := by
  cases r with
  | nil => simp [kindsOk] at h
  | cons c r =>
    cases r with
    | cons d r => simp [kindsOk] at h
    | nil =>
      cases c with
      | int k n => simp [kindsOk, C.is] at h; subst h; rfl
      | _ => simp [kindsOk, C.is] at h
theorem row_str {r : List C} (h : kindsOk r [.str] = true) : r = eStr (rowStr r) := by
  cases r with
  | nil => simp [kindsOk] at h
  | cons c r =>
    cases r with
    | cons d r => simp [kindsOk] at h
    | nil =>
      cases c with
      | str s => rfl
      | _ => simp [kindsOk, C.is] at h
theorem rows_ints {rows : List (List C)} (h : rowsOk [.int .i64] rows = true) : rows = (ints rows).map eInt := by
  simp only [rowsOk, List.all_eq_true] at h
  simp only [ints, List.map_map]
  rw [List.map_congr_left (g := id)]
  · simp
  · intro r hr; exact (row_int (h r hr)).symm
theorem rows_strs {rows : List (List C)} (h : rowsOk [.str] rows = true) : rows = (strs rows).map eStr := by
  simp only [rowsOk, List.all_eq_true] at h
  simp only [strs, List.map_map]
  rw [List.map_congr_left (g := id)]
  · simp
  · intro r hr; exact (row_str (h r hr)).symm
@[simp] theorem ints_map (l : List Int) : ints (l.map eInt) = l := by simp [ints, rowInt, Function.comp_def, C.toInt]
@[simp] theorem strs_map (l : List (List UInt8)) : strs (l.map eStr) = l := by simp [strs, rowStr, Function.comp_def, C.toStr]
@[simp] theorem rowsOk_ints (l : List Int) : rowsOk [.int .i64] (l.map eInt) = true := by simp [rowsOk, kindsOk, C.is]
@[simp] theorem rowsOk_strs (l : List (List UInt8)) : rowsOk [.str] (l.map eStr) = true := by simp [rowsOk, kindsOk, C.is]
theorem flat_ints (l : List Int) : ((l.map eInt).all fun r => r.all C.flat) = true := by simp [C.flat]
theorem flat_strs (l : List (List UInt8)) : ((l.map eStr).all fun r => r.all C.flat) = true := by simp [C.flat]
theorem map_getD {A : Type} (e : A → List C) (l : List A) (d : A) (i : Nat) (h : i < l.length) : (l.map e).getD i [] = e (l.getD i d) := by
  simp [List.getD_eq_getElem?_getD, h]
theorem copy_set {A : Type} (l : List A) (z : A) (d : A) (i : Nat) (h : i < l.length) : (l.take i ++ List.replicate (l.length - i) z).set i (l.getD i d) = l.take (i + 1) ++ List.replicate (l.length - (i + 1)) z := by
  have hlen : (l.take i).length = i := by simp; omega
  rw [List.set_append_right _ _ (by omega), hlen, Nat.sub_self]
  obtain ⟨m, hm⟩ : ∃ m, l.length - i = m + 1 := ⟨l.length - i - 1, by omega⟩
  have hm2 : l.length - (i + 1) = m := by omega
  rw [hm, hm2, List.replicate_succ, List.set_cons_zero, List.take_succ_eq_append_getElem h, List.append_assoc]
  simp [List.getD_eq_getElem?_getD, h]
/- what is known of data that fit -/
theorem fit_i64 {E : Env} {x : C} (h : Fit E (.int .i64) x) : ∃ n, x = .int .i64 n ∧ -9223372036854775808 ≤ n ∧ n ≤ 9223372036854775807 := by
  cases h with
  | int a b => exact ⟨_, rfl, a, b⟩
theorem fit_bool {E : Env} {x : C} (h : Fit E .bool x) : ∃ t, x = .bool t := by
  cases h with
  | bool => exact ⟨_, rfl⟩
theorem fit_str {E : Env} {x : C} (h : Fit E .str x) : ∃ s, x = .str s ∧ s.length ≤ 140737488351232 := by
  cases h with
  | str a => exact ⟨_, rfl, a⟩
theorem fit_sl {E : Env} {e : TypeId} {x : C} (h : Fit E (.slice e) x) : ∃ rows, x = .sl rows ∧ ∀ te, E.Ty e = some te → 1 ≤ te.bytes → rows.length ≤ 140737488351232 ∧ rowsOk te.leaves rows = true := by
  cases h with
  | @sl _ te rows h1 h2 h3 h4 =>
    refine ⟨rows, rfl, fun te' ht hb => ?_⟩
    rw [h1] at ht
    obtain rfl := Option.some.inj ht
    refine ⟨Nat.le_trans (Nat.le_mul_of_pos_right _ hb) h2, ?_⟩
    simp only [rowsOk, List.all_eq_true]
    intro r hr
    exact FitAll.kinds (E := E) ⟨h3 r hr, fun j kd y hj hy => h4 r hr j kd y hj hy⟩

end Go.Proofs.Ythpamcbipmkimaa.V

namespace Go.Proofs.Ythpamcbipmkimaa.V
noncomputable section

def inB (n lo hi : Int) : Bool := decide (lo ≤ n) && decide (n ≤ hi)
def inSpec : Spec := fun cs => match cs with
  | [.int .i64 n, .int .i64 lo, .int .i64 hi] => some (true, [.bool (inB n lo hi)])
  | _ => none
def E_sIn : Env := mkE [] []
def E_iIn : Env := mkE [] []

def isVersionSpec : Spec := fun cs => match cs with
  | [.int .i64 n] => some (true, [.bool (inB n 1 2)])
  | _ => none
def E_iIsVersion : Env := mkE [] []

def newOk (v s r : Int) : Bool := inB v 1 2 && inB s 1 20 && inB r 1 50
def sel (b : Bool) (x : Int) : Int := if b then x else 0
def writerNewSpec : Spec := fun cs => match cs with
  | [.int .i64 v, .int .i64 s, .int .i64 r] => some (true, [.int .i64 (sel (newOk v s r) v), .int .i64 (sel (newOk v s r) s), .int .i64 (sel (newOk v s r) r), .int .i64 0, .int .i64 0, .sl [], .int .i64 0, .bool false, .int .i64 0, .bool (newOk v s r)])
  | _ => none
def rWriter : RTy := ⟨true, [(.int .i64, false), (.int .i64, false), (.int .i64, false), (.int .i64, false), (.int .i64, false), (.slice 23, true), (.int .i64, false), (.bool, false), (.int .i64, false)]⟩
def E_sWriterNew : Env := mkE [] [(93, (sg [pI, pI, pI] [rB]), inSpec)]
def E_iWriterNew : Env := mkE [] [(95, (sg [pI, pI, pI] [rB]), inSpec), (113, (sg [pI] [rB]), isVersionSpec)]

def settingOk (room v s r : Int) : Bool := newOk v s r && inB room 0 20000
def settingSpec : Spec := fun cs => match cs with
  | [.int .i64 room, .int .i64 v, .int .i64 s, .int .i64 r] => some (true, [.bool (settingOk room v s r)])
  | _ => none
def pSetting : PTy := .val true [.int .i64, .int .i64, .int .i64, .int .i64]
def E_sSettingOk : Env := mkE [] [(93, (sg [pI, pI, pI] [rB]), inSpec), (129, (sg [pI, pI, pI] [rWriter, rB]), writerNewSpec)]
def E_iSettingOk : Env := mkE [] [(95, (sg [pI, pI, pI] [rB]), inSpec), (132, (sg [pI, pI, pI] [rWriter, rB]), writerNewSpec)]

def toSettingSpec : Spec := fun cs => match cs with
  | [.int .i64 a, .int .i64 v, .int .i64 s, .int .i64 r] => some (true, [.int .i64 a, .int .i64 v, .int .i64 s, .int .i64 r])
  | _ => none
def E_toSetting : Env := mkE [] []

end
end Go.Proofs.Ythpamcbipmkimaa.V

namespace Go.Proofs.Ythpamcbipmkimaa.V
set_option maxRecDepth 100000
theorem sIn_tree (H : List Pt → Nat → St → T (List C)) (n : Int) (a : Int) (b : Int) : vBodyL E_sIn noInl (sg [pI, pI, pI] [rB]) Try.f93 H [C.int IntKind.i64 n, C.int IntKind.i64 a, C.int IntKind.i64 b] =
 (.must true
 (.ask (decide (a ≤ n))
  (.ask (decide (n ≤ b))
   (.must true
    (.ret [C.bool true]))
   (.must true
    (.ret [C.bool false])))
  (.must true
   (.ret [C.bool false])))) := by kernel_rfl
theorem iIn_tree (H : List Pt → Nat → St → T (List C)) (n : Int) (a : Int) (b : Int) : vBodyL E_iIn noInl (sg [pI, pI, pI] [rB]) Try.f95 H [C.int IntKind.i64 n, C.int IntKind.i64 a, C.int IntKind.i64 b] =
 (.must true
 (.ask (decide (a ≤ n))
  (.ask (decide (n ≤ b))
   (.must true
    (.ret [C.bool true]))
   (.must true
    (.ret [C.bool false])))
  (.must true
   (.ret [C.bool false])))) := by kernel_rfl
theorem iIsVersion_tree (H : List Pt → Nat → St → T (List C)) (n : Int) : vBodyL E_iIsVersion noInl (sg [pI] [rB]) Try.f113 H [C.int IntKind.i64 n] =
 (.must true
 (.ask (decide (n = (1 : Int)))
  (.must true
   (.ret [C.bool true]))
  (.ask (decide (n = (2 : Int)))
   (.must true
    (.ret [C.bool true]))
   (.must true
    (.ret [C.bool false]))))) := by kernel_rfl
theorem sWriterNew_tree (H : List Pt → Nat → St → T (List C)) (n : Int) (a : Int) (b : Int) : vBodyL E_sWriterNew noInl (sg [pI, pI, pI] [rWriter, rB]) Try.f129 H
  [C.int IntKind.i64 n, C.int IntKind.i64 a, C.int IntKind.i64 b] =
 (.must true
 (.must true
  (.must true
   (.must true
    (.ask (inB n (1 : Int) (2 : Int))
     (.must true
      (.must true
       (.must true
        (.ask (inB a (1 : Int) (20 : Int))
         (.must true
          (.must true
           (.must true
            (.ask (inB b (1 : Int) (50 : Int))
             (.must true
              (.ret [C.int IntKind.i64 n, C.int IntKind.i64 a, C.int IntKind.i64 b, C.int IntKind.i64 (0 : Int),
  C.int IntKind.i64 (0 : Int), C.sl [], C.int IntKind.i64 (0 : Int), C.bool false, C.int IntKind.i64 (0 : Int),
  C.bool true]))
             (.must true
              (.ret [C.int IntKind.i64 (0 : Int), C.int IntKind.i64 (0 : Int), C.int IntKind.i64 (0 : Int), C.int IntKind.i64 (0 : Int),
  C.int IntKind.i64 (0 : Int), C.sl [], C.int IntKind.i64 (0 : Int), C.bool false, C.int IntKind.i64 (0 : Int),
  C.bool false]))))))
         (.must true
          (.ret [C.int IntKind.i64 (0 : Int), C.int IntKind.i64 (0 : Int), C.int IntKind.i64 (0 : Int), C.int IntKind.i64 (0 : Int),
  C.int IntKind.i64 (0 : Int), C.sl [], C.int IntKind.i64 (0 : Int), C.bool false, C.int IntKind.i64 (0 : Int),
  C.bool false]))))))
     (.must true
      (.ret [C.int IntKind.i64 (0 : Int), C.int IntKind.i64 (0 : Int), C.int IntKind.i64 (0 : Int), C.int IntKind.i64 (0 : Int),
  C.int IntKind.i64 (0 : Int), C.sl [], C.int IntKind.i64 (0 : Int), C.bool false, C.int IntKind.i64 (0 : Int),
  C.bool false]))))))) := by kernel_rfl
theorem iWriterNew_tree (H : List Pt → Nat → St → T (List C)) (n : Int) (a : Int) (b : Int) : vBodyL E_iWriterNew noInl (sg [pI, pI, pI] [rWriter, rB]) Try.f132 H
  [C.int IntKind.i64 n, C.int IntKind.i64 a, C.int IntKind.i64 b] =
 (.must true
 (.must true
  (.must true
   (.must true
    (.ask (inB n (1 : Int) (2 : Int))
     (.must true
      (.must true
       (.must true
        (.ask (inB a (1 : Int) (20 : Int))
         (.must true
          (.must true
           (.must true
            (.ask (inB b (1 : Int) (50 : Int))
             (.must true
              (.ret [C.int IntKind.i64 n, C.int IntKind.i64 a, C.int IntKind.i64 b, C.int IntKind.i64 (0 : Int),
  C.int IntKind.i64 (0 : Int), C.sl [], C.int IntKind.i64 (0 : Int), C.bool false, C.int IntKind.i64 (0 : Int),
  C.bool true]))
             (.must true
              (.ret [C.int IntKind.i64 (0 : Int), C.int IntKind.i64 (0 : Int), C.int IntKind.i64 (0 : Int), C.int IntKind.i64 (0 : Int),
  C.int IntKind.i64 (0 : Int), C.sl [], C.int IntKind.i64 (0 : Int), C.bool false, C.int IntKind.i64 (0 : Int),
  C.bool false]))))))
         (.must true
          (.ret [C.int IntKind.i64 (0 : Int), C.int IntKind.i64 (0 : Int), C.int IntKind.i64 (0 : Int), C.int IntKind.i64 (0 : Int),
  C.int IntKind.i64 (0 : Int), C.sl [], C.int IntKind.i64 (0 : Int), C.bool false, C.int IntKind.i64 (0 : Int),
  C.bool false]))))))
     (.must true
      (.ret [C.int IntKind.i64 (0 : Int), C.int IntKind.i64 (0 : Int), C.int IntKind.i64 (0 : Int), C.int IntKind.i64 (0 : Int),
  C.int IntKind.i64 (0 : Int), C.sl [], C.int IntKind.i64 (0 : Int), C.bool false, C.int IntKind.i64 (0 : Int),
  C.bool false]))))))) := by kernel_rfl
theorem sSettingOk_tree (H : List Pt → Nat → St → T (List C)) (a : Int) (v : Int) (s : Int) (r : Int) : vBodyL E_sSettingOk noInl (sg [pSetting] [rB]) Try.f128 H
  [C.int IntKind.i64 a, C.int IntKind.i64 v, C.int IntKind.i64 s, C.int IntKind.i64 r] =
 (.must true
 (.must true
  (.must true
   (.must true
    (.ask (newOk v s r)
     (.must true
      (.must true
       (.must true
        (.ask (inB a (0 : Int) (20000 : Int))
         (.must true
          (.ret [C.bool true]))
         (.must true
          (.ret [C.bool false]))))))
     (.must true
      (.ret [C.bool false]))))))) := by kernel_rfl
theorem iSettingOk_tree (H : List Pt → Nat → St → T (List C)) (a : Int) (v : Int) (s : Int) (r : Int) : vBodyL E_iSettingOk noInl (sg [pSetting] [rB]) Try.f131 H
  [C.int IntKind.i64 a, C.int IntKind.i64 v, C.int IntKind.i64 s, C.int IntKind.i64 r] =
 (.must true
 (.must true
  (.must true
   (.must true
    (.ask (newOk v s r)
     (.must true
      (.must true
       (.must true
        (.ask (inB a (0 : Int) (20000 : Int))
         (.must true
          (.ret [C.bool true]))
         (.must true
          (.ret [C.bool false]))))))
     (.must true
      (.ret [C.bool false]))))))) := by kernel_rfl
theorem toSetting_tree (H : List Pt → Nat → St → T (List C)) (a : Int) (v : Int) (s : Int) (r : Int) : vBodyL E_toSetting noInl
  (sg [pSetting]
    [{ agg := true,
        ls :=
          [(K.int IntKind.i64, false), (K.int IntKind.i64, false), (K.int IntKind.i64, false),
            (K.int IntKind.i64, false)] }])
  Try.f73 H [C.int IntKind.i64 a, C.int IntKind.i64 v, C.int IntKind.i64 s, C.int IntKind.i64 r] =
 (.must true
 (.must true
  (.ret [C.int IntKind.i64 a, C.int IntKind.i64 v, C.int IntKind.i64 s, C.int IntKind.i64 r]))) := by kernel_rfl
end Go.Proofs.Ythpamcbipmkimaa.V

namespace Go.Proofs.Ythpamcbipmkimaa.V

theorem sIn_E : EnvSound Try.prog E_sIn := mkE_sound (by simp [])
theorem sIn_sound : Sound Try.prog 93 (sg [pI, pI, pI] [rB]) inSpec := vBody_sound sIn_E noInl_ok Try.func93 (by kernel_rfl) fun cs outs hk h => by
  unfold inSpec at h
  split at h
  · simp only [Option.some.injEq, Prod.mk.injEq, true_and] at h
    rw [← h, vBody_L, sIn_tree]
    simp only [eval_must', eval_ask', eval_ret', decide_eq_true_eq, if_true, inB]
    repeat' split
    all_goals first | rfl | (simp_all; done) | (simp_all; omega)
  · cases h
theorem iIn_E : EnvSound Try.prog E_iIn := mkE_sound (by simp [])
theorem iIn_sound : Sound Try.prog 95 (sg [pI, pI, pI] [rB]) inSpec := vBody_sound iIn_E noInl_ok Try.func95 (by kernel_rfl) fun cs outs hk h => by
  unfold inSpec at h
  split at h
  · simp only [Option.some.injEq, Prod.mk.injEq, true_and] at h
    rw [← h, vBody_L, iIn_tree]
    simp only [eval_must', eval_ask', eval_ret', decide_eq_true_eq, if_true, inB]
    repeat' split
    all_goals first | rfl | (simp_all; done) | (simp_all; omega)
  · cases h

theorem iIsVersion_E : EnvSound Try.prog E_iIsVersion := mkE_sound (by simp [])
theorem iIsVersion_sound : Sound Try.prog 113 (sg [pI] [rB]) isVersionSpec := vBody_sound iIsVersion_E noInl_ok Try.func113 (by kernel_rfl) fun cs outs hk h => by
  unfold isVersionSpec at h
  split at h
  · simp only [Option.some.injEq, Prod.mk.injEq, true_and] at h
    rw [← h, vBody_L, iIsVersion_tree]
    simp only [eval_must', eval_ask', eval_ret', decide_eq_true_eq, if_true, inB]
    repeat' split
    all_goals first | rfl | (simp_all; done) | (simp; omega)
  · cases h

theorem sWriterNew_E : EnvSound Try.prog E_sWriterNew := mkE_sound (by simp [sIn_sound])
theorem sWriterNew_sound : Sound Try.prog 129 (sg [pI, pI, pI] [rWriter, rB]) writerNewSpec := vBody_sound sWriterNew_E noInl_ok Try.func129 (by kernel_rfl) fun cs outs hk h => by
  unfold writerNewSpec at h
  split at h
  · simp only [Option.some.injEq, Prod.mk.injEq, true_and] at h
    rw [← h, vBody_L, sWriterNew_tree]
    simp only [eval_must', eval_ask', eval_ret', if_true, newOk, sel]
    repeat' split
    all_goals first | rfl | simp_all
  · cases h
theorem iWriterNew_E : EnvSound Try.prog E_iWriterNew := mkE_sound (by simp [iIn_sound, iIsVersion_sound])
theorem iWriterNew_sound : Sound Try.prog 132 (sg [pI, pI, pI] [rWriter, rB]) writerNewSpec := vBody_sound iWriterNew_E noInl_ok Try.func132 (by kernel_rfl) fun cs outs hk h => by
  unfold writerNewSpec at h
  split at h
  · simp only [Option.some.injEq, Prod.mk.injEq, true_and] at h
    rw [← h, vBody_L, iWriterNew_tree]
    simp only [eval_must', eval_ask', eval_ret', if_true, newOk, sel]
    repeat' split
    all_goals first | rfl | simp_all
  · cases h

theorem sSettingOk_E : EnvSound Try.prog E_sSettingOk := mkE_sound (by simp [sIn_sound, sWriterNew_sound])
theorem sSettingOk_sound : Sound Try.prog 128 (sg [pSetting] [rB]) settingSpec := vBody_sound sSettingOk_E noInl_ok Try.func128 (by kernel_rfl) fun cs outs hk h => by
  unfold settingSpec at h
  split at h
  · simp only [Option.some.injEq, Prod.mk.injEq, true_and] at h
    rw [← h, vBody_L, sSettingOk_tree]
    simp only [eval_must', eval_ask', eval_ret', if_true, settingOk]
    repeat' split
    all_goals first | rfl | simp_all
  · cases h
theorem iSettingOk_E : EnvSound Try.prog E_iSettingOk := mkE_sound (by simp [iIn_sound, iWriterNew_sound])
theorem iSettingOk_sound : Sound Try.prog 131 (sg [pSetting] [rB]) settingSpec := vBody_sound iSettingOk_E noInl_ok Try.func131 (by kernel_rfl) fun cs outs hk h => by
  unfold settingSpec at h
  split at h
  · simp only [Option.some.injEq, Prod.mk.injEq, true_and] at h
    rw [← h, vBody_L, iSettingOk_tree]
    simp only [eval_must', eval_ask', eval_ret', if_true, settingOk]
    repeat' split
    all_goals first | rfl | simp_all
  · cases h

theorem toSetting_E : EnvSound Try.prog E_toSetting := mkE_sound (by simp [])
theorem toSetting_sound : Sound Try.prog 73 (sg [pSetting] [⟨true, [(.int .i64, false), (.int .i64, false), (.int .i64, false), (.int .i64, false)]⟩]) toSettingSpec := vBody_sound toSetting_E noInl_ok Try.func73 (by kernel_rfl) fun cs outs hk h => by
  unfold toSettingSpec at h
  split at h
  · simp only [Option.some.injEq, Prod.mk.injEq, true_and] at h
    rw [← h, vBody_L, toSetting_tree]
    simp only [eval_must', eval_ask', eval_ret', if_true]
  · cases h

end Go.Proofs.Ythpamcbipmkimaa.V

namespace Go.Proofs.Ythpamcbipmkimaa.V
noncomputable section

def ss_spec (f : List UInt8 → List UInt8 → Int) : Spec := fun cs => match cs with
  | [.str b, .str c] => some (decide (b.length ≤ 1048576) && decide (c.length ≤ 1048576), [.int .i64 (f b c)])
  | _ => none
def siLaw : Spec := fun cs => match cs with
  | [.str _, .int .i64 _] => some (true, [.bool true])
  | _ => none
def ssLaw : Spec := fun cs => match cs with
  | [.str _, .str _] => some (true, [.bool true])
  | _ => none
def siiLaw : Spec := fun cs => match cs with
  | [.str _, .int .i64 a, .int .i64 _] => some (decide (-9223372036854775808 ≤ a) && decide (a ≤ 9223372036854775807), [.bool true])
  | _ => none

def broughtOf (n least most : Int) : Int := if most < least ∨ n < least then least else if n > most then most else n
def broughtSpec : Spec := fun cs => match cs with
  | [.int .i64 n, .int .i64 least, .int .i64 most] => some (true, [.int .i64 (broughtOf n least most)])
  | _ => none
def E_sBrought : Env := mkE [] []
def E_iBrought : Env := mkE [] []

def cutOf (b : List UInt8) (n : Int) : List UInt8 := b.take (broughtOf n 0 b.length).toNat
def cutSpec : Spec := fun cs => match cs with
  | [.str b, .int .i64 n] => some (true, [.str (cutOf b n)])
  | _ => none
def E_sCutText : Env := mkE [] [(110, (sg [pI, pI, pI] [rI]), broughtSpec)]
def E_iCutText : Env := mkE [] [(109, (sg [pI, pI, pI] [rI]), broughtSpec)]

def H_sTurnBits (at' bits : Int) (rows : List (List C)) (n : Nat) (i : Int) : St := st1 [(1, int64 at'), (2, int64 bits), (7, .l (.ref 0 0 n)), (8, int64 i)] 1 rows
def H_iTurnBits (at' bits : Int) (rows : List (List C)) (n : Nat) (i : Int) : St := st1 [(1, int64 at'), (2, int64 bits), (7, .l (.ref 0 0 n)), (12, int64 i)] 1 rows
/-- bit i of 'bits' turned at bit place at + i -/
def turnStep (at' bits : Int) (l : List UInt8) (i : Nat) : List UInt8 :=
  if iand .i64 (ishr .i64 bits i) 1 = 1 ∧ 0 ≤ at' ∧ at' + i < 8 * l.length then
    l.set ((at' + i) / 8).toNat (UInt8.ofNat (ixor .u8 ((l.getD ((at' + i) / 8).toNat 0).toNat : Int) (ishl .u8 1 ((at' + i) % 8))).toNat)
  else l
def turnOf (b : List UInt8) (at' bits : Int) : List UInt8 := (List.range 32).foldl (turnStep at' bits) b
def turnTo (b : List UInt8) (a m : Int) (i : Nat) : List UInt8 := (List.range i).foldl (turnStep a m) b
def turnSpec : Spec := fun cs => match cs with
  | [.str b, .int .i64 a, .int .i64 m] => some (decide (b.length ≤ 1048576) && decide (-9223372036854775808 ≤ a) && decide (a ≤ 9223372036854775807), [.str (turnOf b a m)])
  | _ => none
def E_sTurnBits : Env := mkE [(5, [1, 2, 7, 8])] []
def E_iTurnBits : Env := mkE [(3, [1, 2, 7, 12])] []

def H_sBitsChangeda (b c : List UInt8) (n i : Int) : St := st0 [(0, wstr b), (1, wstr c), (5, int64 n), (6, int64 i)]
def H_sBitsChangedb (b c : List UInt8) (n i x : Int) : St := st0 [(0, wstr b), (1, wstr c), (5, int64 n), (6, int64 i), (7, int64 x)]
def H_iBitsChanged (b c : List UInt8) (sum m i : Int) : St := st0 [(0, wstr b), (1, wstr c), (6, int64 sum), (21, int64 m), (22, int64 i)]
def strConst : Code → Option (List UInt8)
  | .region _ ops _ => ops.toList.findSome? fun o => o.op.operands.toList.findSome? fun x => match x with | .const (.string s) => if s.data.toList.length = 0 then none else some s.data.toList | _ => none
  | .seq a b => match strConst a with | some x => some x | none => strConst b
  | _ => none
def pop8 : List UInt8 := match Try.f98.body with | some c => (strConst c).getD [] | none => []
def onesOf (x : Int) : Int := IntKind.i64.wrap ((pop8.getD x.toNat 0).toNat : Int)
def onesSpec : Spec := fun cs => match cs with
  | [.int .u8 x] => some (decide (0 ≤ x ∧ x ≤ 255), [.int .i64 (onesOf x)])
  | _ => none
/-- how many bits of a byte are set, read one by one -/
def bitCount : Nat → Int → Int
  | 0, _ => 0
  | n + 1, x => x % 2 + bitCount n (x / 2)
def bitsTo (b c : List UInt8) : Nat → Int
  | 0 => 0
  | i + 1 => bitsTo b c i + bitCount 8 (ixor .u8 (b.getD i 0).toNat (c.getD i 0).toNat)
def bitsOf (b c : List UInt8) : Int := bitsTo b c (min b.length c.length) + 8 * ((max b.length c.length - min b.length c.length : Nat) : Int)
def E_ones8 : Env := mkE [] []
def E_sBitsChanged : Env := mkE [(3, [0, 1, 5, 6]), (6, [0, 1, 5, 6, 7])] []
def E_iBitsChanged : Env := mkE [(4, [0, 1, 6, 21, 22])] [(98, (sg [pU8] [rI]), onesSpec)]

def H_sChangeEnd (b c : List UInt8) (n i : Int) : St := st0 [(0, wstr b), (1, wstr c), (5, int64 n), (6, int64 i)]
def H_iChangeEnd (b c : List UInt8) (n : Int) : St := st0 [(0, wstr b), (1, wstr c), (5, int64 n)]
def lastDiff (b c : List UInt8) : Nat → Nat
  | 0 => 0
  | i + 1 => if b.getD i 0 = c.getD i 0 then lastDiff b c i else i + 1
def endOf (b c : List UInt8) : Int := if b.length = c.length then (lastDiff b c b.length : Int) else imax b.length c.length
def E_sChangeEnd : Env := mkE [(7, [0, 1, 5, 6])] []
def E_iChangeEnd : Env := mkE [(4, [0, 1, 5])] []

def H_sFirstChange (b c : List UInt8) (i : Int) : St := st0 [(0, wstr b), (1, wstr c), (5, int64 i)]
def H_iFirstChange (b c : List UInt8) (n m i : Int) : St := st0 [(0, wstr b), (1, wstr c), (5, int64 n), (12, int64 m), (13, int64 i)]
/-- how far two texts are alike -/
def common : List UInt8 → List UInt8 → Nat
  | x :: xs, y :: ys => if x = y then common xs ys + 1 else 0
  | _, _ => 0
def firstOf (b c : List UInt8) : Int := if b = c then -1 else common b c
def E_sFirstChange : Env := mkE [(2, [0, 1, 5])] []
def E_iFirstChange : Env := mkE [(3, [0, 1, 5, 12, 13])] []

end
end Go.Proofs.Ythpamcbipmkimaa.V

namespace Go.Proofs.Ythpamcbipmkimaa.V
set_option maxRecDepth 100000
theorem sBrought_tree (H : List Pt → Nat → St → T (List C)) (n : Int) (a : Int) (b : Int) : vBodyL E_sBrought noInl (sg [pI, pI, pI] [rI]) Try.f110 H
  [C.int IntKind.i64 n, C.int IntKind.i64 a, C.int IntKind.i64 b] =
 (.must true
 (.ask (decide (b < a))
  (.must true
   (.ret [C.int IntKind.i64 a]))
  (.ask (decide (n < a))
   (.must true
    (.ret [C.int IntKind.i64 a]))
   (.ask (decide (b < n))
    (.must true
     (.ret [C.int IntKind.i64 b]))
    (.must true
     (.ret [C.int IntKind.i64 n])))))) := by kernel_rfl
theorem iBrought_tree (H : List Pt → Nat → St → T (List C)) (n : Int) (a : Int) (b : Int) : vBodyL E_iBrought noInl (sg [pI, pI, pI] [rI]) Try.f109 H
  [C.int IntKind.i64 n, C.int IntKind.i64 a, C.int IntKind.i64 b] =
 (.must true
 (.ask (decide (b < a))
  (.must true
   (.ret [C.int IntKind.i64 a]))
  (.must true
   (.ret [C.int IntKind.i64 (imin (imax n a) b)])))) := by kernel_rfl
theorem sCutText_tree (H : List Pt → Nat → St → T (List C)) (b : List UInt8) (n : Int) : vBodyL E_sCutText noInl (sg [pS, pI] [rS]) Try.f56 H [C.str b, C.int IntKind.i64 n] =
 (.must true
 (.must true
  (.must true
   (.must true
    (.must (decide ((0 : Int) ≤ broughtOf n (0 : Int) (↑b.length : Int)) &&
  decide (broughtOf n (0 : Int) (↑b.length : Int) ≤ (↑b.length : Int)))
     (.must true
      (.ret [C.str (List.drop (0 : Nat) (List.take (broughtOf n (0 : Int) (↑b.length : Int)).toNat b))]))))))) := by kernel_rfl
theorem iCutText_tree (H : List Pt → Nat → St → T (List C)) (b : List UInt8) (n : Int) : vBodyL E_iCutText noInl (sg [pS, pI] [rS]) Try.f55 H [C.str b, C.int IntKind.i64 n] =
 (.must true
 (.must true
  (.must true
   (.must true
    (.must (decide ((0 : Int) ≤ broughtOf n (0 : Int) (↑b.length : Int)) &&
  decide (broughtOf n (0 : Int) (↑b.length : Int) ≤ (↑b.length : Int)))
     (.must true
      (.ret [C.str (List.drop (0 : Nat) (List.take (broughtOf n (0 : Int) (↑b.length : Int)).toNat b))]))))))) := by kernel_rfl
theorem sTurnBits_tree (H : List Pt → Nat → St → T (List C)) (b : List UInt8) (a : Int) (m : Int) : vBodyL E_sTurnBits noInl (sg [pS, pI, pI] [rS]) Try.f31 H [C.str b, C.int IntKind.i64 a, C.int IntKind.i64 m] =
 (.must true
 (.ask (decide (a < (0 : Int)))
  (.must true
   (.ret [C.str b]))
  (H [Pt.r, Pt.r, Pt.r, Pt.l, Pt.r, Pt.b] (9223372036854775808 : Nat) (H_sTurnBits (a) (m) (rowsOfStr b) (b.length) ((0 : Int)))))) := by kernel_rfl
theorem sTurnBits_round0 (H : List Pt → Nat → St → T (List C)) (a : Int) (q : Int) (r : List (List C)) (l : Nat) (i : Int) (k : Nat) : vRound E_sTurnBits noInl (sg [pS, pI, pI] [rS]) Try.f31 H [Pt.r, Pt.r, Pt.r, Pt.l, Pt.r, Pt.b] k (H_sTurnBits a q r l i) =
 (.ask (decide (i < (32 : Int)))
 (.must (decide ((0 : Int) ≤ IntKind.u64.wrap i))
  (.ask (decide (iand IntKind.i64 (ishr IntKind.i64 q (IntKind.u64.wrap i)) (1 : Int) = (1 : Int)))
   (.ask (decide (a < IntKind.i64.wrap (IntKind.i64.wrap ((8 : Int) * (↑l : Int)) - i)))
    (.must true
     (.must true
      (.must (decide ((0 : Int) ≤ IntKind.i64.wrap ((IntKind.i64.wrap (a + i)).tdiv (8 : Int))) &&
  decide (IntKind.i64.wrap ((IntKind.i64.wrap (a + i)).tdiv (8 : Int)) < (↑l : Int)))
       (.must (decide ((0 : Nat) + (IntKind.i64.wrap ((IntKind.i64.wrap (a + i)).tdiv (8 : Int))).toNat < r.length) &&
  (decide
        ((0 : Nat) <
          (r.getD ((0 : Nat) + (IntKind.i64.wrap ((IntKind.i64.wrap (a + i)).tdiv (8 : Int))).toNat) []).length) &&
      C.is (K.int IntKind.u8)
        ((r.getD ((0 : Nat) + (IntKind.i64.wrap ((IntKind.i64.wrap (a + i)).tdiv (8 : Int))).toNat) []).getD (0 : Nat)
          (C.fn (0 : FuncId) [])) &&
    true))
        (.must true
         (.must (decide ((0 : Int) ≤ IntKind.u64.wrap ((IntKind.i64.wrap (a + i)).tmod (8 : Int))))
          (.must (decide ((0 : Int) ≤ IntKind.i64.wrap ((IntKind.i64.wrap (a + i)).tdiv (8 : Int))) &&
  decide (IntKind.i64.wrap ((IntKind.i64.wrap (a + i)).tdiv (8 : Int)) < (↑l : Int)))
           (.must (decide ((0 : Nat) + (IntKind.i64.wrap ((IntKind.i64.wrap (a + i)).tdiv (8 : Int))).toNat < r.length))
            (H [Pt.r, Pt.r, Pt.r, Pt.l, Pt.r, Pt.b] k (H_sTurnBits (a) (q) (r.set ((0 : Nat) + (IntKind.i64.wrap ((IntKind.i64.wrap (a + i)).tdiv (8 : Int))).toNat)
  (C.int IntKind.u8
      (ixor IntKind.u8
        ((r.getD ((0 : Nat) + (IntKind.i64.wrap ((IntKind.i64.wrap (a + i)).tdiv (8 : Int))).toNat) []).getD (0 : Nat)
            (C.fn (0 : FuncId) [])).toInt
        (ishl IntKind.u8 (1 : Int) (IntKind.u64.wrap ((IntKind.i64.wrap (a + i)).tmod (8 : Int))))) ::
    List.drop ((0 : Nat) + (1 : Nat))
      (r.getD ((0 : Nat) + (IntKind.i64.wrap ((IntKind.i64.wrap (a + i)).tdiv (8 : Int))).toNat) []))) (l) (IntKind.i64.wrap (i + (1 : Int)))))))))))))
    (H [Pt.r, Pt.r, Pt.r, Pt.l, Pt.r, Pt.b] k (H_sTurnBits (a) (q) (r) (l) (IntKind.i64.wrap (i + (1 : Int))))))
   (H [Pt.r, Pt.r, Pt.r, Pt.l, Pt.r, Pt.b] k (H_sTurnBits (a) (q) (r) (l) (IntKind.i64.wrap (i + (1 : Int)))))))
 (.must ((List.take l r).all byteRow)
  (.must true
   (.ret [C.str (strOfRows (List.take l r))])))) := by kernel_rfl
theorem iTurnBits_tree (H : List Pt → Nat → St → T (List C)) (b : List UInt8) (a : Int) (m : Int) : vBodyL E_iTurnBits noInl (sg [pS, pI, pI] [rS]) Try.f48 H [C.str b, C.int IntKind.i64 a, C.int IntKind.i64 m] =
 (.must true
 (H [Pt.r, Pt.r, Pt.l, Pt.r, Pt.b] (9223372036854775808 : Nat) (H_iTurnBits (a) (m) (rowsOfStr b) (b.length) ((0 : Int))))) := by kernel_rfl
theorem iTurnBits_round0 (H : List Pt → Nat → St → T (List C)) (a : Int) (q : Int) (r : List (List C)) (l : Nat) (i : Int) (k : Nat) : vRound E_iTurnBits noInl (sg [pS, pI, pI] [rS]) Try.f48 H [Pt.r, Pt.r, Pt.l, Pt.r, Pt.b] k (H_iTurnBits a q r l i) =
 (.ask (decide (i < (32 : Int)))
 (.must (decide ((0 : Int) ≤ i))
  (.ask (decide (iand IntKind.i64 (ishr IntKind.i64 q i) (1 : Int) = (1 : Int)))
   (.ask (decide ((0 : Int) ≤ a))
    (.ask (decide (a < IntKind.i64.wrap ((8 : Int) * (↑l : Int))))
     (.ask (decide (IntKind.i64.wrap (a + i) < IntKind.i64.wrap ((8 : Int) * (↑l : Int))))
      (.must true
       (.must (decide ((0 : Int) ≤ IntKind.i64.wrap ((IntKind.i64.wrap (a + i)).tdiv (8 : Int))) &&
  decide (IntKind.i64.wrap ((IntKind.i64.wrap (a + i)).tdiv (8 : Int)) < (↑l : Int)))
        (.must (decide ((0 : Nat) + (IntKind.i64.wrap ((IntKind.i64.wrap (a + i)).tdiv (8 : Int))).toNat < r.length) &&
  (decide
        ((0 : Nat) <
          (r.getD ((0 : Nat) + (IntKind.i64.wrap ((IntKind.i64.wrap (a + i)).tdiv (8 : Int))).toNat) []).length) &&
      C.is (K.int IntKind.u8)
        ((r.getD ((0 : Nat) + (IntKind.i64.wrap ((IntKind.i64.wrap (a + i)).tdiv (8 : Int))).toNat) []).getD (0 : Nat)
          (C.fn (0 : FuncId) [])) &&
    true))
         (.must true
          (.must (decide ((0 : Int) ≤ (IntKind.i64.wrap (a + i)).tmod (8 : Int)))
           (.must (decide ((0 : Int) ≤ IntKind.i64.wrap ((IntKind.i64.wrap (a + i)).tdiv (8 : Int))) &&
  decide (IntKind.i64.wrap ((IntKind.i64.wrap (a + i)).tdiv (8 : Int)) < (↑l : Int)))
            (.must (decide ((0 : Nat) + (IntKind.i64.wrap ((IntKind.i64.wrap (a + i)).tdiv (8 : Int))).toNat < r.length))
             (H [Pt.r, Pt.r, Pt.l, Pt.r, Pt.b] k (H_iTurnBits (a) (q) (r.set ((0 : Nat) + (IntKind.i64.wrap ((IntKind.i64.wrap (a + i)).tdiv (8 : Int))).toNat)
  (C.int IntKind.u8
      (ixor IntKind.u8
        ((r.getD ((0 : Nat) + (IntKind.i64.wrap ((IntKind.i64.wrap (a + i)).tdiv (8 : Int))).toNat) []).getD (0 : Nat)
            (C.fn (0 : FuncId) [])).toInt
        (ishl IntKind.u8 (1 : Int) ((IntKind.i64.wrap (a + i)).tmod (8 : Int)))) ::
    List.drop ((0 : Nat) + (1 : Nat))
      (r.getD ((0 : Nat) + (IntKind.i64.wrap ((IntKind.i64.wrap (a + i)).tdiv (8 : Int))).toNat) []))) (l) (IntKind.i64.wrap (i + (1 : Int))))))))))))
      (H [Pt.r, Pt.r, Pt.l, Pt.r, Pt.b] k (H_iTurnBits (a) (q) (r) (l) (IntKind.i64.wrap (i + (1 : Int))))))
     (H [Pt.r, Pt.r, Pt.l, Pt.r, Pt.b] k (H_iTurnBits (a) (q) (r) (l) (IntKind.i64.wrap (i + (1 : Int))))))
    (H [Pt.r, Pt.r, Pt.l, Pt.r, Pt.b] k (H_iTurnBits (a) (q) (r) (l) (IntKind.i64.wrap (i + (1 : Int))))))
   (H [Pt.r, Pt.r, Pt.l, Pt.r, Pt.b] k (H_iTurnBits (a) (q) (r) (l) (IntKind.i64.wrap (i + (1 : Int)))))))
 (.must ((List.take l r).all byteRow)
  (.must true
   (.ret [C.str (strOfRows (List.take l r))])))) := by kernel_rfl
theorem sBitsChanged_tree (H : List Pt → Nat → St → T (List C)) (b : List UInt8) (c : List UInt8) : vBodyL E_sBitsChanged noInl (sg [pS, pS] [rI]) Try.f30 H [C.str b, C.str c] =
 (.must true
 (H [Pt.r, Pt.r, Pt.l, Pt.r, Pt.b] (9223372036854775808 : Nat) (H_sBitsChangeda (b) (c) ((0 : Int)) ((0 : Int))))) := by kernel_rfl
theorem sBitsChanged_round0a (H : List Pt → Nat → St → T (List C)) (b : List UInt8) (c : List UInt8) (n : Int) (i : Int) (k : Nat) : vRound E_sBitsChanged noInl (sg [pS, pS] [rI]) Try.f30 H [Pt.r, Pt.r, Pt.l, Pt.r, Pt.b] k (H_sBitsChangeda b c n i) =
 (.ask (decide (i < (↑b.length : Int)))
 (.ask (decide (i < (↑c.length : Int)))
  (.must (decide ((0 : Int) ≤ i) && decide (i < (↑b.length : Int)))
   (.must (decide ((0 : Int) ≤ i) && decide (i < (↑c.length : Int)))
    (H [Pt.r, Pt.r, Pt.l, Pt.r, Pt.b, Pt.lp k, Pt.r, Pt.l, Pt.b, Pt.r, Pt.b] (9223372036854775808 : Nat) (H_sBitsChangedb (b) (c) (n) (i) (IntKind.i64.wrap
  (ixor IntKind.u8 (↑(b.getD i.toNat (0 : UInt8)).toNat : Int) (↑(c.getD i.toNat (0 : UInt8)).toNat : Int)))))))
  (.ask (decide ((↑c.length : Int) < (↑b.length : Int)))
   (.must true
    (.ret [C.int IntKind.i64
    (IntKind.i64.wrap (n + IntKind.i64.wrap ((8 : Int) * IntKind.i64.wrap ((↑b.length : Int) - (↑c.length : Int)))))]))
   (.must true
    (.ret [C.int IntKind.i64
    (IntKind.i64.wrap (n + IntKind.i64.wrap ((8 : Int) * IntKind.i64.wrap ((↑c.length : Int) - (↑b.length : Int)))))]))))
 (.ask (decide ((↑c.length : Int) < (↑b.length : Int)))
  (.must true
   (.ret [C.int IntKind.i64
    (IntKind.i64.wrap (n + IntKind.i64.wrap ((8 : Int) * IntKind.i64.wrap ((↑b.length : Int) - (↑c.length : Int)))))]))
  (.must true
   (.ret [C.int IntKind.i64
    (IntKind.i64.wrap (n + IntKind.i64.wrap ((8 : Int) * IntKind.i64.wrap ((↑c.length : Int) - (↑b.length : Int)))))])))) := by kernel_rfl
theorem sBitsChanged_round1b (H : List Pt → Nat → St → T (List C)) (m : Nat) (b : List UInt8) (c : List UInt8) (n : Int) (i : Int) (x : Int) (k : Nat) : vRound E_sBitsChanged noInl (sg [pS, pS] [rI]) Try.f30 H
  [Pt.r, Pt.r, Pt.l, Pt.r, Pt.b, Pt.lp m, Pt.r, Pt.l, Pt.b, Pt.r, Pt.b] k (H_sBitsChangedb b c n i x) =
 (.ask (decide ((0 : Int) < x))
 (.must true
  (H [Pt.r, Pt.r, Pt.l, Pt.r, Pt.b, Pt.lp m, Pt.r, Pt.l, Pt.b, Pt.r, Pt.b] k (H_sBitsChangedb (b) (c) (IntKind.i64.wrap (n + iand IntKind.i64 x (1 : Int))) (i) (ishr IntKind.i64 x (1 : Int)))))
 (H [Pt.r, Pt.r, Pt.l, Pt.r, Pt.b] m (H_sBitsChangeda (b) (c) (n) (IntKind.i64.wrap (i + (1 : Int)))))) := by kernel_rfl
theorem iBitsChanged_tree (H : List Pt → Nat → St → T (List C)) (b : List UInt8) (c : List UInt8) : vBodyL E_iBitsChanged noInl (sg [pS, pS] [rI]) Try.f28 H [C.str b, C.str c] =
 (.must true
 (H [Pt.r, Pt.r, Pt.r, Pt.l, Pt.r, Pt.b] (9223372036854775808 : Nat) (H_iBitsChanged (b) (c) (IntKind.i64.wrap
  ((8 : Int) * IntKind.i64.wrap (imax (↑b.length : Int) (↑c.length : Int) - imin (↑b.length : Int) (↑c.length : Int)))) (imin (↑b.length : Int) (↑c.length : Int)) ((0 : Int))))) := by kernel_rfl
theorem iBitsChanged_round0 (H : List Pt → Nat → St → T (List C)) (b : List UInt8) (c : List UInt8) (s : Int) (q : Int) (i : Int) (k : Nat) : vRound E_iBitsChanged noInl (sg [pS, pS] [rI]) Try.f28 H [Pt.r, Pt.r, Pt.r, Pt.l, Pt.r, Pt.b] k
  (H_iBitsChanged b c s q i) =
 (.ask (decide (i < q))
 (.must (decide ((0 : Int) ≤ i) && decide (i < (↑b.length : Int)))
  (.must (decide ((0 : Int) ≤ i) && decide (i < (↑c.length : Int)))
   (.must true
    (.must (decide
  ((0 : Int) ≤ ixor IntKind.u8 (↑(b.getD i.toNat (0 : UInt8)).toNat : Int) (↑(c.getD i.toNat (0 : UInt8)).toNat : Int) ∧
    ixor IntKind.u8 (↑(b.getD i.toNat (0 : UInt8)).toNat : Int) (↑(c.getD i.toNat (0 : UInt8)).toNat : Int) ≤
      (255 : Int)))
     (.must true
      (H [Pt.r, Pt.r, Pt.r, Pt.l, Pt.r, Pt.b] k (H_iBitsChanged (b) (c) (IntKind.i64.wrap
  (s + onesOf (ixor IntKind.u8 (↑(b.getD i.toNat (0 : UInt8)).toNat : Int) (↑(c.getD i.toNat (0 : UInt8)).toNat : Int)))) (q) (IntKind.i64.wrap (i + (1 : Int))))))))))
 (.must true
  (.ret [C.int IntKind.i64 s]))) := by kernel_rfl
theorem ones8_tree (H : List Pt → Nat → St → T (List C)) (x : Int) : vBodyL E_ones8 noInl (sg [pU8] [rI]) Try.f98 H [C.int IntKind.u8 x] =
 (.must true
 (.must (decide ((0 : Int) ≤ x) && decide (x < (↑(256 : Nat) : Int)))
  (.must true
   (.ret [C.int IntKind.i64 (IntKind.i64.wrap (↑(pop8.getD x.toNat (0 : UInt8)).toNat : Int))])))) := by kernel_rfl
theorem sChangeEnd_tree (H : List Pt → Nat → St → T (List C)) (b : List UInt8) (c : List UInt8) : vBodyL E_sChangeEnd noInl (sg [pS, pS] [rI]) Try.f53 H [C.str b, C.str c] =
 (.must true
 (.ask ((↑b.length : Int) != (↑c.length : Int))
  (.ask (decide ((↑c.length : Int) < (↑b.length : Int)))
   (.must true
    (.ret [C.int IntKind.i64 (↑b.length : Int)]))
   (.must true
    (.ret [C.int IntKind.i64 (↑c.length : Int)])))
  (H [Pt.r, Pt.r, Pt.r, Pt.l, Pt.r, Pt.b] (9223372036854775808 : Nat) (H_sChangeEnd (b) (c) ((0 : Int)) ((0 : Int)))))) := by kernel_rfl
theorem sChangeEnd_round0 (H : List Pt → Nat → St → T (List C)) (b : List UInt8) (c : List UInt8) (n : Int) (i : Int) (k : Nat) : vRound E_sChangeEnd noInl (sg [pS, pS] [rI]) Try.f53 H [Pt.r, Pt.r, Pt.r, Pt.l, Pt.r, Pt.b] k (H_sChangeEnd b c n i) =
 (.ask (decide (i < (↑b.length : Int)))
 (.must (decide ((0 : Int) ≤ i) && decide (i < (↑b.length : Int)))
  (.must (decide ((0 : Int) ≤ i) && decide (i < (↑c.length : Int)))
   (.ask ((↑(b.getD i.toNat (0 : UInt8)).toNat : Int) != (↑(c.getD i.toNat (0 : UInt8)).toNat : Int))
    (H [Pt.r, Pt.r, Pt.r, Pt.l, Pt.r, Pt.b] k (H_sChangeEnd (b) (c) (IntKind.i64.wrap (i + (1 : Int))) (IntKind.i64.wrap (i + (1 : Int)))))
    (H [Pt.r, Pt.r, Pt.r, Pt.l, Pt.r, Pt.b] k (H_sChangeEnd (b) (c) (n) (IntKind.i64.wrap (i + (1 : Int))))))))
 (.must true
  (.ret [C.int IntKind.i64 n]))) := by kernel_rfl
theorem iChangeEnd_tree (H : List Pt → Nat → St → T (List C)) (b : List UInt8) (c : List UInt8) : vBodyL E_iChangeEnd noInl (sg [pS, pS] [rI]) Try.f51 H [C.str b, C.str c] =
 (.must true
 (.ask ((↑b.length : Int) != (↑c.length : Int))
  (.must true
   (.ret [C.int IntKind.i64 (imax (↑b.length : Int) (↑c.length : Int))]))
  (H [Pt.r, Pt.r, Pt.r, Pt.l, Pt.b] (9223372036854775808 : Nat) (H_iChangeEnd (b) (c) ((↑b.length : Int)))))) := by kernel_rfl
theorem iChangeEnd_round0 (H : List Pt → Nat → St → T (List C)) (b : List UInt8) (c : List UInt8) (n : Int) (k : Nat) : vRound E_iChangeEnd noInl (sg [pS, pS] [rI]) Try.f51 H [Pt.r, Pt.r, Pt.r, Pt.l, Pt.b] k (H_iChangeEnd b c n) =
 (.ask (decide ((0 : Int) < n))
 (.must (decide ((0 : Int) ≤ IntKind.i64.wrap (n - (1 : Int))) && decide (IntKind.i64.wrap (n - (1 : Int)) < (↑b.length : Int)))
  (.must (decide ((0 : Int) ≤ IntKind.i64.wrap (n - (1 : Int))) && decide (IntKind.i64.wrap (n - (1 : Int)) < (↑c.length : Int)))
   (.ask (decide
  ((↑(b.getD (IntKind.i64.wrap (n - (1 : Int))).toNat (0 : UInt8)).toNat : Int) =
    (↑(c.getD (IntKind.i64.wrap (n - (1 : Int))).toNat (0 : UInt8)).toNat : Int)))
    (H [Pt.r, Pt.r, Pt.r, Pt.l, Pt.b] k (H_iChangeEnd (b) (c) (IntKind.i64.wrap (n - (1 : Int)))))
    (.must true
     (.ret [C.int IntKind.i64 n])))))
 (.must true
  (.ret [C.int IntKind.i64 n]))) := by kernel_rfl
theorem sFirstChange_tree (H : List Pt → Nat → St → T (List C)) (b : List UInt8) (c : List UInt8) : vBodyL E_sFirstChange noInl (sg [pS, pS] [rI]) Try.f52 H [C.str b, C.str c] =
 (.must true
 (H [Pt.r, Pt.l, Pt.r, Pt.b] (9223372036854775808 : Nat) (H_sFirstChange (b) (c) ((0 : Int))))) := by kernel_rfl
theorem sFirstChange_round0 (H : List Pt → Nat → St → T (List C)) (b : List UInt8) (c : List UInt8) (i : Int) (k : Nat) : vRound E_sFirstChange noInl (sg [pS, pS] [rI]) Try.f52 H [Pt.r, Pt.l, Pt.r, Pt.b] k (H_sFirstChange b c i) =
 (.ask (decide (i < (↑b.length : Int)))
 (.ask (decide (i < (↑c.length : Int)))
  (.must (decide ((0 : Int) ≤ i) && decide (i < (↑b.length : Int)))
   (.must (decide ((0 : Int) ≤ i) && decide (i < (↑c.length : Int)))
    (.ask ((↑(b.getD i.toNat (0 : UInt8)).toNat : Int) != (↑(c.getD i.toNat (0 : UInt8)).toNat : Int))
     (.must true
      (.ret [C.int IntKind.i64 i]))
     (H [Pt.r, Pt.l, Pt.r, Pt.b] k (H_sFirstChange (b) (c) (IntKind.i64.wrap (i + (1 : Int))))))))
  (.ask (decide ((↑b.length : Int) < (↑c.length : Int)))
   (.must true
    (.ret [C.int IntKind.i64 (↑b.length : Int)]))
   (.ask (decide ((↑c.length : Int) < (↑b.length : Int)))
    (.must true
     (.ret [C.int IntKind.i64 (↑c.length : Int)]))
    (.must true
     (.ret [C.int IntKind.i64 (-1 : Int)])))))
 (.ask (decide ((↑b.length : Int) < (↑c.length : Int)))
  (.must true
   (.ret [C.int IntKind.i64 (↑b.length : Int)]))
  (.ask (decide ((↑c.length : Int) < (↑b.length : Int)))
   (.must true
    (.ret [C.int IntKind.i64 (↑c.length : Int)]))
   (.must true
    (.ret [C.int IntKind.i64 (-1 : Int)]))))) := by kernel_rfl
theorem iFirstChange_tree (H : List Pt → Nat → St → T (List C)) (b : List UInt8) (c : List UInt8) : vBodyL E_iFirstChange noInl (sg [pS, pS] [rI]) Try.f50 H [C.str b, C.str c] =
 (.must true
 (H [Pt.r, Pt.r, Pt.l, Pt.r, Pt.b] (9223372036854775808 : Nat) (H_iFirstChange (b) (c) (imin (↑b.length : Int) (↑c.length : Int)) (imin (↑b.length : Int) (↑c.length : Int)) ((0 : Int))))) := by kernel_rfl
theorem iFirstChange_round0 (H : List Pt → Nat → St → T (List C)) (b : List UInt8) (c : List UInt8) (n : Int) (q : Int) (i : Int) (k : Nat) : vRound E_iFirstChange noInl (sg [pS, pS] [rI]) Try.f50 H [Pt.r, Pt.r, Pt.l, Pt.r, Pt.b] k (H_iFirstChange b c n q i) =
 (.ask (decide (i < q))
 (.must (decide ((0 : Int) ≤ i) && decide (i < (↑b.length : Int)))
  (.must (decide ((0 : Int) ≤ i) && decide (i < (↑c.length : Int)))
   (.ask ((↑(b.getD i.toNat (0 : UInt8)).toNat : Int) != (↑(c.getD i.toNat (0 : UInt8)).toNat : Int))
    (.must true
     (.ret [C.int IntKind.i64 i]))
    (H [Pt.r, Pt.r, Pt.l, Pt.r, Pt.b] k (H_iFirstChange (b) (c) (n) (q) (IntKind.i64.wrap (i + (1 : Int))))))))
 (.ask (decide ((↑b.length : Int) = (↑c.length : Int)))
  (.must true
   (.ret [C.int IntKind.i64 (-1 : Int)]))
  (.must true
   (.ret [C.int IntKind.i64 n])))) := by kernel_rfl
end Go.Proofs.Ythpamcbipmkimaa.V

namespace Go.Proofs.Ythpamcbipmkimaa.V

theorem u8_ne (x y : UInt8) : (((x.toNat : Int) != (y.toNat : Int)) = true) ↔ x ≠ y := by
  rw [bne_iff_ne, ne_eq, Int.ofNat_inj, UInt8.toNat_inj]
theorem u8_eq (x y : UInt8) : ((x.toNat : Int) = (y.toNat : Int)) ↔ x = y := by
  rw [Int.ofNat_inj, UInt8.toNat_inj]
theorem imin_nat (a b : Nat) : imin (a : Int) (b : Int) = ((min a b : Nat) : Int) := by unfold imin; split <;> omega
theorem imax_nat (a b : Nat) : imax (a : Int) (b : Int) = ((max a b : Nat) : Int) := by unfold imax; split <;> omega
theorem iand_one (x : Int) : iand .i64 x 1 = x % 2 := by
  show IntKind.i64.wrap (((BitVec.ofInt 64 x &&& BitVec.ofInt 64 1).toNat : Nat) : Int) = _
  rw [BitVec.toNat_and]
  have h1 : (BitVec.ofInt 64 1).toNat = 1 := by decide
  have h2 : (BitVec.ofInt 64 x).toNat = (x % 18446744073709551616).toNat := by simp [BitVec.toNat_ofInt]
  rw [h1, h2, Nat.and_one_is_mod, wrap64] <;> omega
theorem ishr_one (x : Int) : ishr .i64 x 1 = x / 2 := by
  show x.fdiv (2 ^ (min (Int.toNat 1) 64)) = _
  rw [Int.fdiv_eq_ediv_of_nonneg] <;> simp

theorem sBrought_E : EnvSound Try.prog E_sBrought := mkE_sound (by simp [])
theorem sBrought_sound : Sound Try.prog 110 (sg [pI, pI, pI] [rI]) broughtSpec := vBody_sound sBrought_E noInl_ok Try.func110 (by kernel_rfl) fun cs outs hk h => by
  unfold broughtSpec at h
  split at h
  · simp only [Option.some.injEq, Prod.mk.injEq, true_and] at h
    rw [← h, vBody_L, sBrought_tree]
    simp only [eval_must', eval_ask', eval_ret', decide_eq_true_eq, if_true, broughtOf]
    repeat' split
    all_goals first | rfl | omega
  · cases h
theorem iBrought_E : EnvSound Try.prog E_iBrought := mkE_sound (by simp [])
theorem iBrought_sound : Sound Try.prog 109 (sg [pI, pI, pI] [rI]) broughtSpec := vBody_sound iBrought_E noInl_ok Try.func109 (by kernel_rfl) fun cs outs hk h => by
  unfold broughtSpec at h
  split at h
  · simp only [Option.some.injEq, Prod.mk.injEq, true_and] at h
    rw [← h, vBody_L, iBrought_tree]
    simp only [eval_must', eval_ask', eval_ret', decide_eq_true_eq, if_true, broughtOf, imin, imax]
    repeat' split
    all_goals first | rfl | omega | (congr 3; omega)
  · cases h
theorem brought_range (n : Int) (m : Nat) : 0 ≤ broughtOf n 0 m ∧ broughtOf n 0 m ≤ m := by unfold broughtOf; repeat' split <;> omega

theorem sCutText_E : EnvSound Try.prog E_sCutText := mkE_sound (by simp [sBrought_sound])
theorem sCutText_sound : Sound Try.prog 56 (sg [pS, pI] [rS]) cutSpec := vBody_sound sCutText_E noInl_ok Try.func56 (by kernel_rfl) fun cs outs hk h => by
  unfold cutSpec at h
  split at h
  · simp only [Option.some.injEq, Prod.mk.injEq, true_and] at h
    rw [← h, vBody_L, sCutText_tree]
    rename_i b n
    have := brought_range n b.length
    simp only [eval_must', eval_ask', eval_ret', decide_eq_true_eq, if_true, Bool.and_eq_true, this, and_self]
    rfl
  · cases h
theorem iCutText_E : EnvSound Try.prog E_iCutText := mkE_sound (by simp [iBrought_sound])
theorem iCutText_sound : Sound Try.prog 55 (sg [pS, pI] [rS]) cutSpec := vBody_sound iCutText_E noInl_ok Try.func55 (by kernel_rfl) fun cs outs hk h => by
  unfold cutSpec at h
  split at h
  · simp only [Option.some.injEq, Prod.mk.injEq, true_and] at h
    rw [← h, vBody_L, iCutText_tree]
    rename_i b n
    have := brought_range n b.length
    simp only [eval_must', eval_ask', eval_ret', decide_eq_true_eq, if_true, Bool.and_eq_true, this, and_self]
    rfl
  · cases h

theorem turnTo_succ (b : List UInt8) (a m : Int) (i : Nat) : turnTo b a m (i + 1) = turnStep a m (turnTo b a m i) i := by
  simp [turnTo, List.range_succ, List.foldl_append]
theorem turnStep_length (l : List UInt8) (a m : Int) (i : Nat) : (turnStep a m l i).length = l.length := by
  unfold turnStep; split <;> simp
theorem turnTo_length (b : List UInt8) (a m : Int) : ∀ i, (turnTo b a m i).length = b.length
  | 0 => rfl
  | i + 1 => by rw [turnTo_succ, turnStep_length, turnTo_length b a m i]
theorem turn_store (l : List UInt8) (a m : Int) (i : Nat) (h1 : iand .i64 (ishr .i64 m i) 1 = 1) (h2 : 0 ≤ a) (h3 : a + i < 8 * l.length) :
    (rowsOfStr l).set ((a + i) / 8).toNat (C.int .u8 (ixor .u8 (((rowsOfStr l).getD ((a + i) / 8).toNat []).getD 0 (C.fn 0 [])).toInt (ishl .u8 1 ((a + i) % 8))) :: List.drop (0 + 1) ((rowsOfStr l).getD ((a + i) / 8).toNat [])) = rowsOfStr (turnStep a m l i) := by
  have hj : ((a + i) / 8).toNat < l.length := by omega
  rw [rows_get l _ hj]
  simp only [List.getD_cons_zero, C.toInt, List.drop_succ_cons, List.drop_nil, Nat.zero_add]
  rw [rows_set _ _ _ (ixor8_range _ _).1 (ixor8_range _ _).2]
  simp only [turnStep, h1, h2, h3, and_self, if_true]
theorem sTurnBits_loop (b : List UInt8) (a m : Int) (ha : 0 ≤ a) (hb : b.length ≤ 1048576) (ha2 : a ≤ 9223372036854775807) : ∀ (n i : Nat), i ≤ 32 → 32 < i + n →
    (vLoop E_sTurnBits noInl (sg [pS, pI, pI] [rS]) Try.f31 [.r, .r, .r, .l, .r, .b] n (H_sTurnBits a m (rowsOfStr (turnTo b a m i)) b.length i)).eval = some [.str (turnOf b a m)] := by
  intro n
  induction n with
  | zero => intro i h1 h2; omega
  | succ n ih =>
    intro i h1 h2
    have hl := turnTo_length b a m i
    rw [vLoop_L _ _ _ _ _ _ _ (by kernel_rfl), sTurnBits_round0]
    by_cases hi : i < 32
    · have hi' : (i : Int) < 32 := by omega
      have e := ih (i + 1) (by omega) (by omega)
      rw [turnTo_succ] at e
      have w1 : IntKind.i64.wrap ((i : Int) + 1) = ((i + 1 : Nat) : Int) := by rw [wrap64] <;> omega
      have w2 : IntKind.u64.wrap (i : Int) = i := by rw [wrapU64] <;> omega
      have w3 : IntKind.i64.wrap (8 * (b.length : Int)) = 8 * (b.length : Int) := by rw [wrap64] <;> omega
      have w4 : IntKind.i64.wrap (8 * (b.length : Int) - i) = 8 * (b.length : Int) - i := by rw [wrap64] <;> omega
      have hz : (0 : Int) ≤ i := by omega
      simp only [eval_must', eval_ask', decide_eq_true_eq, if_true, w1, w2, w3, w4, hi', hz, rows_length, hl, Bool.and_eq_true, Nat.zero_add]
      by_cases h3 : iand .i64 (ishr .i64 m i) 1 = 1
      · by_cases h4 : a < 8 * (b.length : Int) - i
        · have w5 : IntKind.i64.wrap (a + i) = a + i := by rw [wrap64] <;> omega
          have w6 : (a + i).tdiv 8 = (a + i) / 8 := by rw [Int.tdiv_eq_ediv_of_nonneg (by omega)]
          have w7 : (a + i).tmod 8 = (a + i) % 8 := by rw [Int.tmod_eq_emod_of_nonneg (by omega)]
          have w8 : IntKind.i64.wrap ((a + i) / 8) = (a + i) / 8 := by rw [wrap64] <;> omega
          have w9 : IntKind.u64.wrap ((a + i) % 8) = (a + i) % 8 := by rw [wrapU64] <;> omega
          have c1 : (0 : Int) ≤ (a + i) / 8 := by omega
          have c2 : (a + i) / 8 < (b.length : Int) := by omega
          have c3 : ((a + i) / 8).toNat < b.length := by omega
          have c4 : (0 : Int) ≤ (a + i) % 8 := by omega
          have st := turn_store (turnTo b a m i) a m i h3 ha (by omega)
          have hg := rows_get (turnTo b a m i) ((a + i) / 8).toNat (by omega)
          have hg1 : 0 < ((rowsOfStr (turnTo b a m i)).getD ((a + i) / 8).toNat []).length := by rw [hg]; exact Nat.zero_lt_one
          have hg2 : C.is (K.int .u8) (((rowsOfStr (turnTo b a m i)).getD ((a + i) / 8).toNat []).getD 0 (C.fn 0 [])) = true := by rw [hg]; rfl
          simp only [Nat.zero_add] at st
          simp only [h3, h4, if_true, w5, w6, w7, w8, w9, c1, c2, c3, c4, hg1, hg2, and_self, st]
          exact e
        · have : turnStep a m (turnTo b a m i) i = turnTo b a m i := by
            unfold turnStep; rw [if_neg (by rw [hl]; omega)]
          rw [this] at e
          simp only [h3, h4, if_true, if_false]
          exact e
      · have : turnStep a m (turnTo b a m i) i = turnTo b a m i := by
          unfold turnStep; rw [if_neg (fun h => h3 h.1)]
        rw [this] at e
        simp only [h3, if_false]
        exact e
    · have hi2 : i = 32 := by omega
      subst hi2
      simp only [eval_must', eval_ask', eval_ret', decide_eq_true_eq]
      rw [if_neg (by omega), List.take_of_length_le (by rw [rows_length, hl]; omega), rows_bytes, str_rows]
      rfl
theorem iTurnBits_loop (b : List UInt8) (a m : Int) (hb : b.length ≤ 1048576) (ha1 : -9223372036854775808 ≤ a) (ha2 : a ≤ 9223372036854775807) : ∀ (n i : Nat), i ≤ 32 → 32 < i + n →
    (vLoop E_iTurnBits noInl (sg [pS, pI, pI] [rS]) Try.f48 [.r, .r, .l, .r, .b] n (H_iTurnBits a m (rowsOfStr (turnTo b a m i)) b.length i)).eval = some [.str (turnOf b a m)] := by
  intro n
  induction n with
  | zero => intro i h1 h2; omega
  | succ n ih =>
    intro i h1 h2
    have hl := turnTo_length b a m i
    rw [vLoop_L _ _ _ _ _ _ _ (by kernel_rfl), iTurnBits_round0]
    by_cases hi : i < 32
    · have hi' : (i : Int) < 32 := by omega
      have e := ih (i + 1) (by omega) (by omega)
      rw [turnTo_succ] at e
      have w1 : IntKind.i64.wrap ((i : Int) + 1) = ((i + 1 : Nat) : Int) := by rw [wrap64] <;> omega
      have w3 : IntKind.i64.wrap (8 * (b.length : Int)) = 8 * (b.length : Int) := by rw [wrap64] <;> omega
      have hz : (0 : Int) ≤ i := by omega
      simp only [eval_must', eval_ask', decide_eq_true_eq, if_true, w1, w3, hi', hz, rows_length, hl, Bool.and_eq_true, Nat.zero_add]
      by_cases h3 : iand .i64 (ishr .i64 m i) 1 = 1
      · by_cases h4 : 0 ≤ a ∧ a + i < 8 * (b.length : Int)
        · obtain ⟨ha, h4⟩ := h4
          have w5 : IntKind.i64.wrap (a + i) = a + i := by rw [wrap64] <;> omega
          have w6 : (a + i).tdiv 8 = (a + i) / 8 := by rw [Int.tdiv_eq_ediv_of_nonneg (by omega)]
          have w7 : (a + i).tmod 8 = (a + i) % 8 := by rw [Int.tmod_eq_emod_of_nonneg (by omega)]
          have w8 : IntKind.i64.wrap ((a + i) / 8) = (a + i) / 8 := by rw [wrap64] <;> omega
          have c0 : a < 8 * (b.length : Int) := by omega
          have c1 : (0 : Int) ≤ (a + i) / 8 := by omega
          have c2 : (a + i) / 8 < (b.length : Int) := by omega
          have c3 : ((a + i) / 8).toNat < b.length := by omega
          have c4 : (0 : Int) ≤ (a + i) % 8 := by omega
          have st := turn_store (turnTo b a m i) a m i h3 ha (by omega)
          have hg := rows_get (turnTo b a m i) ((a + i) / 8).toNat (by omega)
          have hg1 : 0 < ((rowsOfStr (turnTo b a m i)).getD ((a + i) / 8).toNat []).length := by rw [hg]; exact Nat.zero_lt_one
          have hg2 : C.is (K.int .u8) (((rowsOfStr (turnTo b a m i)).getD ((a + i) / 8).toNat []).getD 0 (C.fn 0 [])) = true := by rw [hg]; rfl
          simp only [Nat.zero_add] at st
          simp only [h3, h4, ha, c0, if_true, w5, w6, w7, w8, c1, c2, c3, c4, hg1, hg2, and_self, st]
          exact e
        · have : turnStep a m (turnTo b a m i) i = turnTo b a m i := by
            unfold turnStep; rw [if_neg (by rw [hl]; omega)]
          rw [this] at e
          simp only [h3, if_true]
          by_cases ha : 0 ≤ a
          · by_cases hc : a < 8 * (b.length : Int)
            · have w5 : IntKind.i64.wrap (a + i) = a + i := by rw [wrap64] <;> omega
              have h5 : ¬ (a + i < 8 * (b.length : Int)) := by omega
              simp only [ha, hc, w5, h5, if_true, if_false]
              exact e
            · simp only [ha, hc, if_true, if_false]
              exact e
          · simp only [ha, if_false]
            exact e
      · have : turnStep a m (turnTo b a m i) i = turnTo b a m i := by
          unfold turnStep; rw [if_neg (fun h => h3 h.1)]
        rw [this] at e
        simp only [h3, if_false]
        exact e
    · have hi2 : i = 32 := by omega
      subst hi2
      simp only [eval_must', eval_ask', eval_ret', decide_eq_true_eq]
      rw [if_neg (by omega), List.take_of_length_le (by rw [rows_length, hl]; omega), rows_bytes, str_rows]
      rfl
theorem turn_neg (b : List UInt8) (a m : Int) (h : a < 0) : turnOf b a m = b := by
  have : ∀ i, turnTo b a m i = b := by
    intro i
    induction i with
    | zero => rfl
    | succ i ih => rw [turnTo_succ, ih]; unfold turnStep; rw [if_neg (by omega)]
  exact this 32
theorem sTurnBits_E : EnvSound Try.prog E_sTurnBits := mkE_sound (by simp [])
theorem sTurnBits_sound : Sound Try.prog 31 (sg [pS, pI, pI] [rS]) turnSpec := vBody_sound sTurnBits_E noInl_ok Try.func31 (by kernel_rfl) fun cs outs hk h => by
  unfold turnSpec at h
  split at h
  · simp only [Option.some.injEq, Prod.mk.injEq, Bool.and_eq_true, decide_eq_true_eq] at h
    obtain ⟨⟨⟨h1, h2⟩, h3⟩, rfl⟩ := h
    rename_i b a m
    rw [vBody_L, sTurnBits_tree]
    simp only [eval_must', eval_ask', eval_ret', if_true, decide_eq_true_eq]
    split
    · rename_i h; rw [turn_neg b a m h]
    · exact sTurnBits_loop b a m (by omega) h1 h3 _ 0 (by omega) (by omega)
  · cases h
theorem iTurnBits_E : EnvSound Try.prog E_iTurnBits := mkE_sound (by simp [])
theorem iTurnBits_sound : Sound Try.prog 48 (sg [pS, pI, pI] [rS]) turnSpec := vBody_sound iTurnBits_E noInl_ok Try.func48 (by kernel_rfl) fun cs outs hk h => by
  unfold turnSpec at h
  split at h
  · simp only [Option.some.injEq, Prod.mk.injEq, Bool.and_eq_true, decide_eq_true_eq] at h
    obtain ⟨⟨⟨h1, h2⟩, h3⟩, rfl⟩ := h
    rename_i b a m
    rw [vBody_L, iTurnBits_tree]
    simp only [eval_must', eval_ask', eval_ret', if_true, decide_eq_true_eq]
    exact iTurnBits_loop b a m h1 h2 h3 _ 0 (by omega) (by omega)
  · cases h

theorem bitCount_range : ∀ (n : Nat) (x : Int), 0 ≤ bitCount n x ∧ bitCount n x ≤ n
  | 0, _ => by simp [bitCount]
  | n + 1, x => by simp only [bitCount]; have := bitCount_range n (x / 2); omega
theorem bitsTo_range (b c : List UInt8) : ∀ i : Nat, 0 ≤ bitsTo b c i ∧ bitsTo b c i ≤ 8 * i
  | 0 => by simp [bitsTo]
  | i + 1 => by simp only [bitsTo]; have := bitsTo_range b c i; have := bitCount_range 8 (ixor .u8 (b.getD i 0).toNat (c.getD i 0).toNat); omega
theorem bitCount_zero : ∀ n, bitCount n 0 = 0
  | 0 => rfl
  | n + 1 => by simp [bitCount, bitCount_zero n]
theorem ones_fin : ∀ x : Fin 256, onesOf ((x.val : Nat) : Int) = bitCount 8 ((x.val : Nat) : Int) := by decide +kernel
theorem ones_eq (x : Int) (h1 : 0 ≤ x) (h2 : x ≤ 255) : onesOf x = bitCount 8 x := by
  have := ones_fin ⟨x.toNat, by omega⟩
  simpa [Int.toNat_of_nonneg h1] using this
theorem pop8_length : pop8.length = 256 := by kernel_rfl
theorem ones8_E : EnvSound Try.prog E_ones8 := mkE_sound (by simp [])
theorem ones8_sound : Sound Try.prog 98 (sg [pU8] [rI]) onesSpec := vBody_sound ones8_E noInl_ok Try.func98 (by kernel_rfl) fun cs outs hk h => by
  unfold onesSpec at h
  split at h
  · simp only [Option.some.injEq, Prod.mk.injEq, Bool.and_eq_true, decide_eq_true_eq] at h
    obtain ⟨⟨h1, h2⟩, rfl⟩ := h
    rename_i x
    rw [vBody_L, ones8_tree]
    have h3 : x < ((256 : Nat) : Int) := by omega
    simp only [eval_must', eval_ret', if_true, Bool.and_eq_true, decide_eq_true_eq, h1, h3, and_self]
    rfl
  · cases h
theorem sBitsChanged_inner (b c : List UInt8) (m : Nat) (i : Int) : ∀ (k n : Nat) (x s : Int), 0 ≤ x → x < 2 ^ k → k < n → 0 ≤ s → s + k ≤ 9223372036854775807 →
    (vLoop E_sBitsChanged noInl (sg [pS, pS] [rI]) Try.f30 [.r, .r, .l, .r, .b, .lp m, .r, .l, .b, .r, .b] n (H_sBitsChangedb b c s i x)).eval = (vLoop E_sBitsChanged noInl (sg [pS, pS] [rI]) Try.f30 [.r, .r, .l, .r, .b] m (H_sBitsChangeda b c (s + bitCount k x) (IntKind.i64.wrap (i + 1)))).eval := by
  intro k
  induction k with
  | zero =>
    intro n x s h1 h2 h3 h4 h5
    have : x = 0 := by simp at h2; omega
    subst this
    cases n with
    | zero => omega
    | succ n =>
      rw [vLoop_L _ _ _ _ _ _ _ (by kernel_rfl), sBitsChanged_round1b]
      simp [eval_ask', bitCount]
  | succ k ih =>
    intro n x s h1 h2 h3 h4 h5
    cases n with
    | zero => omega
    | succ n =>
      rw [vLoop_L _ _ _ _ _ _ _ (by kernel_rfl), sBitsChanged_round1b]
      simp only [eval_ask', eval_must', if_true, decide_eq_true_eq, iand_one, ishr_one]
      by_cases hx : 0 < x
      · have hw : IntKind.i64.wrap (s + x % 2) = s + x % 2 := by rw [wrap64] <;> omega
        simp only [hx, if_true, hw]
        have h2' : x < 2 ^ k * 2 := by rw [← Int.pow_succ]; exact h2
        rw [ih n (x / 2) (s + x % 2) (by omega) (by omega) (by omega) (by omega) (by omega)]
        simp only [bitCount]
        congr 3
        omega
      · have : x = 0 := by omega
        subst this
        simp [bitCount_zero]
theorem sBitsChanged_loop (b c : List UInt8) (hb : b.length ≤ 1048576) (hc : c.length ≤ 1048576) : ∀ (n i : Nat), i ≤ min b.length c.length → min b.length c.length < i + n →
    (vLoop E_sBitsChanged noInl (sg [pS, pS] [rI]) Try.f30 [.r, .r, .l, .r, .b] n (H_sBitsChangeda b c (bitsTo b c i) i)).eval = some [.int .i64 (bitsOf b c)] := by
  intro n
  induction n with
  | zero => intro i h1 h2; omega
  | succ n ih =>
    intro i h1 h2
    rw [vLoop_L _ _ _ _ _ _ _ (by kernel_rfl), sBitsChanged_round0a]
    simp only [eval_must', eval_ask', eval_ret', decide_eq_true_eq, if_true, Bool.and_eq_true, Int.toNat_natCast, Int.ofNat_lt]
    have hz : (0 : Int) ≤ i := by omega
    have hr := bitsTo_range b c i
    by_cases hi : i < min b.length c.length
    · have hi1 : i < b.length := by omega
      have hi2 : i < c.length := by omega
      simp only [hi1, hi2, hz, if_true, and_self]
      have hx := ixor8_range ((b.getD i 0).toNat : Int) ((c.getD i 0).toNat : Int)
      rw [wrap64 (by omega) (by omega), sBitsChanged_inner b c n i 8 _ _ _ hx.1 (by have := hx.2; omega) (by omega) hr.1 (by omega)]
      have hw : IntKind.i64.wrap ((i : Int) + 1) = ((i + 1 : Nat) : Int) := by rw [wrap64] <;> omega
      rw [hw]
      exact ih (i + 1) (by omega) (by omega)
    · have hm : i = min b.length c.length := by omega
      have e : bitsOf b c = bitsTo b c i + 8 * ((max b.length c.length - min b.length c.length : Nat) : Int) := by rw [hm]; rfl
      have w1 : IntKind.i64.wrap ((b.length : Int) - c.length) = (b.length : Int) - c.length := by rw [wrap64] <;> omega
      have w2 : IntKind.i64.wrap ((c.length : Int) - b.length) = (c.length : Int) - b.length := by rw [wrap64] <;> omega
      have w3 : IntKind.i64.wrap (8 * ((b.length : Int) - c.length)) = 8 * ((b.length : Int) - c.length) := by rw [wrap64] <;> omega
      have w4 : IntKind.i64.wrap (8 * ((c.length : Int) - b.length)) = 8 * ((c.length : Int) - b.length) := by rw [wrap64] <;> omega
      simp only [w1, w2, w3, w4]
      have w5 : IntKind.i64.wrap (bitsTo b c i + 8 * ((b.length : Int) - c.length)) = bitsTo b c i + 8 * ((b.length : Int) - c.length) := by rw [wrap64] <;> omega
      have w6 : IntKind.i64.wrap (bitsTo b c i + 8 * ((c.length : Int) - b.length)) = bitsTo b c i + 8 * ((c.length : Int) - b.length) := by rw [wrap64] <;> omega
      simp only [w5, w6, e]
      repeat' split
      all_goals first | omega | (congr 3; omega)
theorem iBitsChanged_loop (b c : List UInt8) (m : Nat) (hm : m = min b.length c.length) (hb : b.length ≤ 1048576) (hc : c.length ≤ 1048576) : ∀ (n i : Nat), i ≤ m → m < i + n →
    (vLoop E_iBitsChanged noInl (sg [pS, pS] [rI]) Try.f28 [.r, .r, .r, .l, .r, .b] n (H_iBitsChanged b c (8 * ((max b.length c.length - m : Nat) : Int) + bitsTo b c i) m i)).eval = some [.int .i64 (bitsOf b c)] := by
  intro n
  induction n with
  | zero => intro i h1 h2; omega
  | succ n ih =>
    intro i h1 h2
    rw [vLoop_L _ _ _ _ _ _ _ (by kernel_rfl), iBitsChanged_round0]
    simp only [eval_must', eval_ask', eval_ret', decide_eq_true_eq, if_true, Bool.and_eq_true, Int.toNat_natCast, Int.ofNat_lt]
    have hz : (0 : Int) ≤ i := by omega
    have hr := bitsTo_range b c i
    by_cases hi : i < m
    · have hi1 : i < b.length := by omega
      have hi2 : i < c.length := by omega
      have hx := ixor8_range ((b.getD i 0).toNat : Int) ((c.getD i 0).toNat : Int)
      have hbc := bitCount_range 8 (ixor .u8 ((b.getD i 0).toNat : Int) ((c.getD i 0).toNat : Int))
      simp only [hi, hi1, hi2, hz, if_true, and_self, hx]
      rw [ones_eq _ hx.1 hx.2]
      have hw : IntKind.i64.wrap ((i : Int) + 1) = ((i + 1 : Nat) : Int) := by rw [wrap64] <;> omega
      rw [hw, wrap64 (by omega) (by omega), Int.add_assoc]
      exact ih (i + 1) (by omega) (by omega)
    · have hi' : i = m := by omega
      simp only [hi, if_false, bitsOf]
      subst hi'
      rw [← hm]
      congr 3
      omega
theorem sBitsChanged_E : EnvSound Try.prog E_sBitsChanged := mkE_sound (by simp [])
theorem sBitsChanged_sound : Sound Try.prog 30 (sg [pS, pS] [rI]) (ss_spec bitsOf) := vBody_sound sBitsChanged_E noInl_ok Try.func30 (by kernel_rfl) fun cs outs hk h => by
  unfold ss_spec at h
  split at h
  · simp only [Option.some.injEq, Prod.mk.injEq, Bool.and_eq_true, decide_eq_true_eq] at h
    obtain ⟨⟨h1, h2⟩, rfl⟩ := h
    rename_i b c
    rw [vBody_L, sBitsChanged_tree]
    simp only [eval_must', if_true]
    exact sBitsChanged_loop b c h1 h2 _ 0 (by omega) (by omega)
  · cases h
theorem iBitsChanged_E : EnvSound Try.prog E_iBitsChanged := mkE_sound (by simp [ones8_sound])
theorem iBitsChanged_sound : Sound Try.prog 28 (sg [pS, pS] [rI]) (ss_spec bitsOf) := vBody_sound iBitsChanged_E noInl_ok Try.func28 (by kernel_rfl) fun cs outs hk h => by
  unfold ss_spec at h
  split at h
  · simp only [Option.some.injEq, Prod.mk.injEq, Bool.and_eq_true, decide_eq_true_eq] at h
    obtain ⟨⟨h1, h2⟩, rfl⟩ := h
    rename_i b c
    rw [vBody_L, iBitsChanged_tree]
    simp only [eval_must', if_true, imin_nat, imax_nat]
    have w1 : IntKind.i64.wrap (((max b.length c.length : Nat) : Int) - ((min b.length c.length : Nat) : Int)) = ((max b.length c.length - min b.length c.length : Nat) : Int) := by rw [wrap64] <;> omega
    rw [w1, wrap64 (by omega) (by omega)]
    have := iBitsChanged_loop b c _ rfl h1 h2 9223372036854775808 0 (by omega) (by omega)
    simpa [bitsTo] using this
  · cases h

theorem lastDiff_le (b c : List UInt8) : ∀ i, lastDiff b c i ≤ i
  | 0 => Nat.le_refl _
  | i + 1 => by simp only [lastDiff]; have := lastDiff_le b c i; split <;> omega
theorem sChangeEnd_loop (b c : List UInt8) (hl : b.length = c.length) (hb : b.length ≤ 1048576) : ∀ (n i : Nat), i ≤ b.length → b.length < i + n →
    (vLoop E_sChangeEnd noInl (sg [pS, pS] [rI]) Try.f53 [.r, .r, .r, .l, .r, .b] n (H_sChangeEnd b c (lastDiff b c i) i)).eval = some [.int .i64 (endOf b c)] := by
  intro n
  induction n with
  | zero => intro i h1 h2; omega
  | succ n ih =>
    intro i h1 h2
    rw [vLoop_L _ _ _ _ _ _ _ (by kernel_rfl), sChangeEnd_round0]
    simp only [eval_must', eval_ask', eval_ret', decide_eq_true_eq, if_true, Bool.and_eq_true, u8_ne, Int.toNat_natCast, Int.ofNat_lt, Int.ofNat_inj]
    have hz : (0 : Int) ≤ i := by omega
    by_cases hi : i < b.length
    · have hi2 : i < c.length := by omega
      have hw : IntKind.i64.wrap ((i : Int) + 1) = ((i + 1 : Nat) : Int) := by rw [wrap64] <;> omega
      have e := ih (i + 1) (by omega) (by omega)
      simp only [hi, hi2, hz, if_true, and_self, hw]
      by_cases hx : b.getD i 0 = c.getD i 0
      · simp only [lastDiff, hx, if_true] at e
        simp only [hx, ne_eq, not_true_eq_false, if_false]
        exact e
      · simp only [lastDiff, hx, if_false] at e
        simp only [hx, ne_eq, not_false_eq_true, if_true]
        exact e
    · have : i = b.length := by omega
      subst this
      simp only [Nat.lt_irrefl, if_false, endOf, hl, if_true]
theorem iChangeEnd_loop (b c : List UInt8) (hl : b.length = c.length) (hb : b.length ≤ 1048576) : ∀ (n i : Nat), i ≤ b.length → i < n → lastDiff b c i = lastDiff b c b.length →
    (vLoop E_iChangeEnd noInl (sg [pS, pS] [rI]) Try.f51 [.r, .r, .r, .l, .b] n (H_iChangeEnd b c i)).eval = some [.int .i64 (endOf b c)] := by
  intro n
  induction n with
  | zero => intro i h1 h2; omega
  | succ n ih =>
    intro i h1 h2 h3
    rw [vLoop_L _ _ _ _ _ _ _ (by kernel_rfl), iChangeEnd_round0]
    simp only [eval_must', eval_ask', eval_ret', decide_eq_true_eq, if_true, Bool.and_eq_true, u8_eq]
    cases i with
    | zero =>
      simp only [lastDiff] at h3
      have e : endOf b c = 0 := by simp only [endOf, hl, if_true]; rw [hl] at h3; omega
      rw [e]
      rfl
    | succ j =>
      have hw : IntKind.i64.wrap (((j + 1 : Nat) : Int) - 1) = (j : Int) := by rw [wrap64] <;> omega
      have h0 : (0 : Int) < ((j + 1 : Nat) : Int) := by omega
      have hz : (0 : Int) ≤ j := by omega
      have hj : (j : Int) < b.length := by omega
      have hj2 : (j : Int) < c.length := by omega
      simp only [hw, h0, hz, hj, hj2, if_true, and_self, Int.toNat_natCast]
      by_cases hx : b.getD j 0 = c.getD j 0
      · simp only [lastDiff, hx, if_true] at h3
        simp only [hx, if_true]
        exact ih j (by omega) (by omega) h3
      · simp only [lastDiff, hx, if_false] at h3
        simp only [hx, if_false]
        have e : endOf b c = ((j + 1 : Nat) : Int) := by simp only [endOf, hl, if_true]; rw [hl] at h3; omega
        rw [e]
theorem sChangeEnd_E : EnvSound Try.prog E_sChangeEnd := mkE_sound (by simp [])
theorem sChangeEnd_sound : Sound Try.prog 53 (sg [pS, pS] [rI]) (ss_spec endOf) := vBody_sound sChangeEnd_E noInl_ok Try.func53 (by kernel_rfl) fun cs outs hk h => by
  unfold ss_spec at h
  split at h
  · simp only [Option.some.injEq, Prod.mk.injEq, Bool.and_eq_true, decide_eq_true_eq] at h
    obtain ⟨⟨h1, h2⟩, rfl⟩ := h
    rename_i b c
    rw [vBody_L, sChangeEnd_tree]
    simp only [eval_must', eval_ask', eval_ret', if_true, bne_iff_ne, ne_eq, decide_eq_true_eq, Int.ofNat_inj, Int.ofNat_lt]
    by_cases hl : b.length = c.length
    · simp only [hl, not_true_eq_false, if_false]
      exact sChangeEnd_loop b c hl h1 _ 0 (by omega) (by omega)
    · simp only [hl, not_false_eq_true, if_true, endOf, if_false, imax]
      repeat' split
      all_goals first | rfl | omega
  · cases h
theorem iChangeEnd_E : EnvSound Try.prog E_iChangeEnd := mkE_sound (by simp [])
theorem iChangeEnd_sound : Sound Try.prog 51 (sg [pS, pS] [rI]) (ss_spec endOf) := vBody_sound iChangeEnd_E noInl_ok Try.func51 (by kernel_rfl) fun cs outs hk h => by
  unfold ss_spec at h
  split at h
  · simp only [Option.some.injEq, Prod.mk.injEq, Bool.and_eq_true, decide_eq_true_eq] at h
    obtain ⟨⟨h1, h2⟩, rfl⟩ := h
    rename_i b c
    rw [vBody_L, iChangeEnd_tree]
    simp only [eval_must', eval_ask', eval_ret', if_true, bne_iff_ne, ne_eq, decide_eq_true_eq, Int.ofNat_inj, Int.ofNat_lt]
    by_cases hl : b.length = c.length
    · simp only [hl, not_true_eq_false, if_false]
      rw [← hl]
      exact iChangeEnd_loop b c hl h1 _ b.length (by omega) (by omega) rfl
    · simp only [hl, not_false_eq_true, if_true, endOf, if_false]
  · cases h

theorem common_le : ∀ (b c : List UInt8), common b c ≤ b.length ∧ common b c ≤ c.length
  | [], _ => by simp [common]
  | _ :: _, [] => by simp [common]
  | x :: xs, y :: ys => by
    simp only [common]
    have := common_le xs ys
    split <;> simp <;> omega
theorem common_lt : ∀ (b c : List UInt8) (i : Nat), i < common b c → b.getD i 0 = c.getD i 0
  | [], _, i => by simp [common]
  | _ :: _, [], i => by simp [common]
  | x :: xs, y :: ys, i => by
    simp only [common]
    split
    · rename_i h
      cases i with
      | zero => intro _; simpa using h
      | succ i => intro hi; have := common_lt xs ys i (by omega); simpa using this
    · intro h; omega
theorem common_ne : ∀ (b c : List UInt8), common b c < b.length → common b c < c.length → b.getD (common b c) 0 ≠ c.getD (common b c) 0
  | [], _ => by simp [common]
  | _ :: _, [] => by simp [common]
  | x :: xs, y :: ys => by
    simp only [common]
    split
    · intro h1 h2
      have := common_ne xs ys (by simpa using h1) (by simpa using h2)
      simpa using this
    · rename_i h; intro _ _; simpa using h
theorem common_self : ∀ (b : List UInt8), common b b = b.length
  | [] => rfl
  | x :: xs => by simp [common, common_self xs]
theorem common_eq : ∀ (b c : List UInt8), common b c = b.length → b.length = c.length → b = c
  | [], [] => by simp
  | [], _ :: _ => by simp
  | _ :: _, [] => by simp
  | x :: xs, y :: ys => by
    simp only [common]
    split
    · rename_i h
      intro h1 h2
      rw [h, common_eq xs ys (by simpa using h1) (by simpa using h2)]
    · intro h; simp at h
theorem sFirstChange_loop (b c : List UInt8) (hb : b.length ≤ 1048576) : ∀ (n i : Nat), i ≤ common b c → b.length < i + n →
    (vLoop E_sFirstChange noInl (sg [pS, pS] [rI]) Try.f52 [.r, .l, .r, .b] n (H_sFirstChange b c i)).eval = some [.int .i64 (firstOf b c)] := by
  intro n
  induction n with
  | zero => intro i h1 h2; have := common_le b c; omega
  | succ n ih =>
    intro i h1 h2
    have hle := common_le b c
    rw [vLoop_L _ _ _ _ _ _ _ (by kernel_rfl), sFirstChange_round0]
    simp only [eval_must', eval_ask', eval_ret', decide_eq_true_eq, if_true, Bool.and_eq_true, u8_ne, Int.toNat_natCast, Int.ofNat_lt]
    have hself := common_self b
    have heq := common_eq b c
    have hne := common_ne b c
    by_cases hbc : b = c
    · subst hbc
      have e1 : firstOf b b = -1 := by simp [firstOf]
      rw [e1]
      split
      · rename_i hi
        have hw : IntKind.i64.wrap ((i : Int) + 1) = ((i + 1 : Nat) : Int) := by rw [wrap64] <;> omega
        have e := ih (i + 1) (by omega) (by omega)
        rw [e1] at e
        rw [hw, e]
        simp [hi]
      · simp
    · have e1 : firstOf b c = common b c := by simp [firstOf, hbc]
      have hlt : ¬ (common b c = b.length ∧ b.length = c.length) := fun h => hbc (heq h.1 h.2)
      have hz : (0 : Int) ≤ i := by omega
      rw [e1]
      by_cases hi : i < b.length
      · by_cases hj : i < c.length
        · simp only [hi, hj, if_true, hz, true_and]
          by_cases hx : b.getD i 0 = c.getD i 0
          · have : i ≠ common b c := fun h => by rw [h] at hx; exact hne (by omega) (by omega) hx
            have hw : IntKind.i64.wrap ((i : Int) + 1) = ((i + 1 : Nat) : Int) := by rw [wrap64] <;> omega
            simp only [hx, ne_eq, not_true_eq_false, if_false, hw]
            rw [ih (i + 1) (by omega) (by omega), e1]
          · have : i = common b c := by
              by_cases h : i < common b c
              · exact absurd (common_lt b c i h) hx
              · omega
            simp only [hx, ne_eq, not_false_eq_true, if_true]
            rw [this]
        · simp only [hi, hj, if_true, if_false]
          repeat' split
          all_goals first | omega | (congr 3; omega)
      · simp only [hi, if_false]
        repeat' split
        all_goals first | omega | (congr 3; omega)
theorem iFirstChange_loop (b c : List UInt8) (m : Nat) (hm : m = min b.length c.length) (hb : b.length ≤ 1048576) : ∀ (n i : Nat), i ≤ common b c → b.length < i + n →
    (vLoop E_iFirstChange noInl (sg [pS, pS] [rI]) Try.f50 [.r, .r, .l, .r, .b] n (H_iFirstChange b c m m i)).eval = some [.int .i64 (firstOf b c)] := by
  intro n
  induction n with
  | zero => intro i h1 h2; have := common_le b c; omega
  | succ n ih =>
    intro i h1 h2
    have hle := common_le b c
    rw [vLoop_L _ _ _ _ _ _ _ (by kernel_rfl), iFirstChange_round0]
    simp only [eval_must', eval_ask', eval_ret', decide_eq_true_eq, if_true, Bool.and_eq_true, u8_ne, Int.toNat_natCast, Int.ofNat_lt, Int.ofNat_inj]
    have hself := common_self b
    have heq := common_eq b c
    have hne := common_ne b c
    have hz : (0 : Int) ≤ i := by omega
    by_cases hi : i < m
    · have hi1 : i < b.length := by omega
      have hi2 : i < c.length := by omega
      simp only [hi, hi1, hi2, hz, if_true, and_self]
      by_cases hx : b.getD i 0 = c.getD i 0
      · have : i ≠ common b c := fun h => by rw [h] at hx; exact hne (by omega) (by omega) hx
        have hw : IntKind.i64.wrap ((i : Int) + 1) = ((i + 1 : Nat) : Int) := by rw [wrap64] <;> omega
        simp only [hx, ne_eq, not_true_eq_false, if_false, hw]
        exact ih (i + 1) (by omega) (by omega)
      · have : i = common b c := by
          by_cases h : i < common b c
          · exact absurd (common_lt b c i h) hx
          · omega
        have hbc : b ≠ c := fun h => by subst h; exact hx rfl
        simp only [hx, ne_eq, not_false_eq_true, if_true, firstOf, hbc, if_false]
        rw [this]
    · simp only [hi, if_false]
      by_cases hbc : b = c
      · simp [firstOf, hbc]
      · have hlt : b.length ≠ c.length := fun h => hbc (heq (by omega) h)
        simp only [hlt, if_false, firstOf, hbc]
        congr 3; omega
theorem sFirstChange_E : EnvSound Try.prog E_sFirstChange := mkE_sound (by simp [])
theorem sFirstChange_sound : Sound Try.prog 52 (sg [pS, pS] [rI]) (ss_spec firstOf) := vBody_sound sFirstChange_E noInl_ok Try.func52 (by kernel_rfl) fun cs outs hk h => by
  unfold ss_spec at h
  split at h
  · simp only [Option.some.injEq, Prod.mk.injEq, Bool.and_eq_true, decide_eq_true_eq] at h
    obtain ⟨⟨h1, h2⟩, rfl⟩ := h
    rename_i b c
    rw [vBody_L, sFirstChange_tree]
    simp only [eval_must', if_true]
    exact sFirstChange_loop b c h1 _ 0 (by omega) (by omega)
  · cases h
theorem iFirstChange_E : EnvSound Try.prog E_iFirstChange := mkE_sound (by simp [])
theorem iFirstChange_sound : Sound Try.prog 50 (sg [pS, pS] [rI]) (ss_spec firstOf) := vBody_sound iFirstChange_E noInl_ok Try.func50 (by kernel_rfl) fun cs outs hk h => by
  unfold ss_spec at h
  split at h
  · simp only [Option.some.injEq, Prod.mk.injEq, Bool.and_eq_true, decide_eq_true_eq] at h
    obtain ⟨⟨h1, h2⟩, rfl⟩ := h
    rename_i b c
    rw [vBody_L, iFirstChange_tree]
    simp only [eval_must', if_true, imin_nat]
    exact iFirstChange_loop b c _ rfl h1 _ 0 (by omega) (by omega)
  · cases h

end Go.Proofs.Ythpamcbipmkimaa.V

namespace Go.Proofs.Ythpamcbipmkimaa.V
noncomputable section

def tz8 : List UInt8 := match Try.f90.body with | some c => (strConst c).getD [] | none => []
def len8 : List UInt8 := match Try.f91.body with | some c => (strConst c).getD [] | none => []
def tzOf (x : Int) : Int := IntKind.i64.wrap ((tz8.getD x.toNat 0).toNat : Int)
def lenOf (x : Int) : Int := IntKind.i64.wrap ((len8.getD x.toNat 0).toNat : Int)
def tabSpec (f : Int → Int) : Spec := fun cs => match cs with
  | [.int .u8 x] => some (decide (0 ≤ x ∧ x ≤ 255), [.int .i64 (f x)])
  | _ => none
def E_tz8 : Env := mkE [] []
def E_len8 : Env := mkE [] []
/-- the bits that are not the same -/
def dbit (b c : List UInt8) (k : Nat) : Bool := decide (ixor .u8 (b.getD (k / 8) 0).toNat (c.getD (k / 8) 0).toNat / 2 ^ (k % 8) % 2 = 1)
def firstBit (b c : List UInt8) : Nat → Int
  | 0 => -1
  | n + 1 => if firstBit b c n < 0 ∧ dbit b c n then n else firstBit b c n
def lastBit (b c : List UInt8) : Nat → Int
  | 0 => 0
  | n + 1 => if dbit b c n then n else lastBit b c n
def isBurst (b c : List UInt8) : Bool := decide (b.length = c.length ∧ b ≠ c ∧ lastBit b c (8 * b.length) - firstBit b c (8 * b.length) < 32)
def H_sIsBurst (b c : List UInt8) (first last k : Int) : St := st0 [(0, wstr b), (1, wstr c), (5, int64 first), (6, int64 last), (7, int64 k)]
def burstSpec : Spec := fun cs => match cs with
  | [.str b, .str c] => some (decide (b.length ≤ 1048576) && decide (c.length ≤ 1048576), [.bool (isBurst b c)])
  | _ => none
def E_sIsBurst : Env := mkE [(6, [0, 1, 5, 6, 7])] []
def E_iIsBurst : Env := mkE [] [(51, (sg [pS, pS] [rI]), (ss_spec endOf)), (50, (sg [pS, pS] [rI]), (ss_spec firstOf)), (90, (sg [pU8] [rI]), (tabSpec tzOf)), (91, (sg [pU8] [rI]), (tabSpec lenOf))]

def E_lIsBurst : Env := mkE [] [(19, (sg [pS, pS] [rB]), burstSpec), (20, (sg [pS, pS] [rB]), burstSpec)]

end
end Go.Proofs.Ythpamcbipmkimaa.V

namespace Go.Proofs.Ythpamcbipmkimaa.V
set_option maxRecDepth 100000
theorem tz8_tree (H : List Pt → Nat → St → T (List C)) (x : Int) : vBodyL E_tz8 noInl (sg [pU8] [rI]) Try.f90 H [C.int IntKind.u8 x] =
 (.must true
 (.must (decide ((0 : Int) ≤ x) && decide (x < (↑(256 : Nat) : Int)))
  (.must true
   (.ret [C.int IntKind.i64 (IntKind.i64.wrap (↑(tz8.getD x.toNat (0 : UInt8)).toNat : Int))])))) := by kernel_rfl
theorem len8_tree (H : List Pt → Nat → St → T (List C)) (x : Int) : vBodyL E_len8 noInl (sg [pU8] [rI]) Try.f91 H [C.int IntKind.u8 x] =
 (.must true
 (.must (decide ((0 : Int) ≤ x) && decide (x < (↑(256 : Nat) : Int)))
  (.must true
   (.ret [C.int IntKind.i64 (IntKind.i64.wrap (↑(len8.getD x.toNat (0 : UInt8)).toNat : Int))])))) := by kernel_rfl
theorem sIsBurst_tree (H : List Pt → Nat → St → T (List C)) (b : List UInt8) (c : List UInt8) : vBodyL E_sIsBurst noInl (sg [pS, pS] [rB]) Try.f19 H [C.str b, C.str c] =
 (.must true
 (.ask ((↑b.length : Int) != (↑c.length : Int))
  (.must true
   (.ret [C.bool false]))
  (.ask (b == c)
   (.must true
    (.ret [C.bool false]))
   (H [Pt.r, Pt.r, Pt.r, Pt.r, Pt.l, Pt.r, Pt.b] (9223372036854775808 : Nat) (H_sIsBurst (b) (c) ((-1 : Int)) ((0 : Int)) ((0 : Int))))))) := by kernel_rfl
theorem sIsBurst_round0 (H : List Pt → Nat → St → T (List C)) (b : List UInt8) (c : List UInt8) (f : Int) (l : Int) (i : Int) (k : Nat) : vRound E_sIsBurst noInl (sg [pS, pS] [rB]) Try.f19 H [Pt.r, Pt.r, Pt.r, Pt.r, Pt.l, Pt.r, Pt.b] k (H_sIsBurst b c f l i) =
 (.ask (decide (i < IntKind.i64.wrap ((8 : Int) * (↑b.length : Int))))
 (.must true
  (.must (decide ((0 : Int) ≤ IntKind.i64.wrap (i.tdiv (8 : Int))) &&
  decide (IntKind.i64.wrap (i.tdiv (8 : Int)) < (↑b.length : Int)))
   (.must true
    (.must (decide ((0 : Int) ≤ IntKind.i64.wrap (i.tdiv (8 : Int))) &&
  decide (IntKind.i64.wrap (i.tdiv (8 : Int)) < (↑c.length : Int)))
     (.must true
      (.must (decide ((0 : Int) ≤ IntKind.u64.wrap (i.tmod (8 : Int))))
       (.ask (decide
  (iand IntKind.u8
      (ishr IntKind.u8
        (ixor IntKind.u8 (↑(b.getD (IntKind.i64.wrap (i.tdiv (8 : Int))).toNat (0 : UInt8)).toNat : Int)
          (↑(c.getD (IntKind.i64.wrap (i.tdiv (8 : Int))).toNat (0 : UInt8)).toNat : Int))
        (IntKind.u64.wrap (i.tmod (8 : Int))))
      (1 : Int) =
    (1 : Int)))
        (.ask (decide (f < (0 : Int)))
         (H [Pt.r, Pt.r, Pt.r, Pt.r, Pt.l, Pt.r, Pt.b] k (H_sIsBurst (b) (c) (i) (i) (IntKind.i64.wrap (i + (1 : Int)))))
         (H [Pt.r, Pt.r, Pt.r, Pt.r, Pt.l, Pt.r, Pt.b] k (H_sIsBurst (b) (c) (f) (i) (IntKind.i64.wrap (i + (1 : Int))))))
        (H [Pt.r, Pt.r, Pt.r, Pt.r, Pt.l, Pt.r, Pt.b] k (H_sIsBurst (b) (c) (f) (l) (IntKind.i64.wrap (i + (1 : Int))))))))))))
 (.ask (decide (IntKind.i64.wrap (l - f) < (32 : Int)))
  (.must true
   (.ret [C.bool true]))
  (.must true
   (.ret [C.bool false])))) := by kernel_rfl
theorem iIsBurst_tree (H : List Pt → Nat → St → T (List C)) (b : List UInt8) (c : List UInt8) : vBodyL E_iIsBurst noInl (sg [pS, pS] [rB]) Try.f20 H [C.str b, C.str c] =
 (.must true
 (.ask ((↑b.length : Int) != (↑c.length : Int))
  (.must true
   (.ret [C.bool false]))
  (.ask (b == c)
   (.must true
    (.ret [C.bool false]))
   (.must true
    (.must (decide (b.length ≤ (1048576 : Nat)) && decide (c.length ≤ (1048576 : Nat)))
     (.must true
      (.must true
       (.must (decide (b.length ≤ (1048576 : Nat)) && decide (c.length ≤ (1048576 : Nat)))
        (.must true
         (.must (decide ((0 : Int) ≤ firstOf b c) && decide (firstOf b c < (↑b.length : Int)))
          (.must (decide ((0 : Int) ≤ firstOf b c) && decide (firstOf b c < (↑c.length : Int)))
           (.must true
            (.must (decide
  ((0 : Int) ≤
      ixor IntKind.u8 (↑(b.getD (firstOf b c).toNat (0 : UInt8)).toNat : Int)
        (↑(c.getD (firstOf b c).toNat (0 : UInt8)).toNat : Int) ∧
    ixor IntKind.u8 (↑(b.getD (firstOf b c).toNat (0 : UInt8)).toNat : Int)
        (↑(c.getD (firstOf b c).toNat (0 : UInt8)).toNat : Int) ≤
      (255 : Int)))
             (.must true
              (.must (decide ((0 : Int) ≤ IntKind.i64.wrap (endOf b c - (1 : Int))) &&
  decide (IntKind.i64.wrap (endOf b c - (1 : Int)) < (↑b.length : Int)))
               (.must (decide ((0 : Int) ≤ IntKind.i64.wrap (endOf b c - (1 : Int))) &&
  decide (IntKind.i64.wrap (endOf b c - (1 : Int)) < (↑c.length : Int)))
                (.must true
                 (.must (decide
  ((0 : Int) ≤
      ixor IntKind.u8 (↑(b.getD (IntKind.i64.wrap (endOf b c - (1 : Int))).toNat (0 : UInt8)).toNat : Int)
        (↑(c.getD (IntKind.i64.wrap (endOf b c - (1 : Int))).toNat (0 : UInt8)).toNat : Int) ∧
    ixor IntKind.u8 (↑(b.getD (IntKind.i64.wrap (endOf b c - (1 : Int))).toNat (0 : UInt8)).toNat : Int)
        (↑(c.getD (IntKind.i64.wrap (endOf b c - (1 : Int))).toNat (0 : UInt8)).toNat : Int) ≤
      (255 : Int)))
                  (.must true
                   (.ask (decide
  (IntKind.i64.wrap
      (IntKind.i64.wrap
          (IntKind.i64.wrap
              (IntKind.i64.wrap ((8 : Int) * IntKind.i64.wrap (endOf b c - (1 : Int))) +
                lenOf
                  (ixor IntKind.u8 (↑(b.getD (IntKind.i64.wrap (endOf b c - (1 : Int))).toNat (0 : UInt8)).toNat : Int)
                    (↑(c.getD (IntKind.i64.wrap (endOf b c - (1 : Int))).toNat (0 : UInt8)).toNat : Int))) -
            (1 : Int)) -
        IntKind.i64.wrap
          (IntKind.i64.wrap ((8 : Int) * firstOf b c) +
            tzOf
              (ixor IntKind.u8 (↑(b.getD (firstOf b c).toNat (0 : UInt8)).toNat : Int)
                (↑(c.getD (firstOf b c).toNat (0 : UInt8)).toNat : Int)))) <
    (32 : Int)))
                    (.must true
                     (.ret [C.bool true]))
                    (.must true
                     (.ret [C.bool false])))))))))))))))))))))) := by kernel_rfl
theorem lIsBurst_tree (H : List Pt → Nat → St → T (List C)) (b : List UInt8) (c : List UInt8) : vBodyL E_lIsBurst noInl (sg [pS, pS] [rB]) Try.f3 H [C.str b, C.str c] =
 (.must true
 (.ask (decide ((1048576 : Int) < (↑b.length : Int)))
  (.must true
   (.ret [C.bool true]))
  (.ask (decide ((1048576 : Int) < (↑c.length : Int)))
   (.must true
    (.ret [C.bool true]))
   (.must true
    (.must (decide (b.length ≤ (1048576 : Nat)) && decide (c.length ≤ (1048576 : Nat)))
     (.must true
      (.ask (isBurst b c)
       (.must true
        (.must (decide (b.length ≤ (1048576 : Nat)) && decide (c.length ≤ (1048576 : Nat)))
         (.must true
          (.ask (isBurst b c)
           (.ask (!true)
            (.must true
             (.ret [C.bool false]))
            (.must true
             (.ret [C.bool true])))
           (.ask true
            (.must true
             (.ret [C.bool false]))
            (.must true
             (.ret [C.bool true])))))))
       (.must true
        (.must (decide (b.length ≤ (1048576 : Nat)) && decide (c.length ≤ (1048576 : Nat)))
         (.must true
          (.ask (isBurst b c)
           (.ask true
            (.must true
             (.ret [C.bool false]))
            (.must true
             (.ret [C.bool true])))
           (.ask (!true)
            (.must true
             (.ret [C.bool false]))
            (.must true
             (.ret [C.bool true])))))))))))))) := by kernel_rfl
end Go.Proofs.Ythpamcbipmkimaa.V

namespace Go.Proofs.Ythpamcbipmkimaa.V

theorem iand8_one (x : Int) : iand .u8 x 1 = x % 2 := by
  show IntKind.u8.wrap (((BitVec.ofInt 8 x &&& BitVec.ofInt 8 1).toNat : Nat) : Int) = _
  rw [BitVec.toNat_and]
  have h1 : (BitVec.ofInt 8 1).toNat = 1 := by decide
  have h2 : (BitVec.ofInt 8 x).toNat = (x % 256).toNat := by simp [BitVec.toNat_ofInt]
  rw [h1, h2, Nat.and_one_is_mod, wrapU8] <;> omega
theorem ishr8 (x : Int) (n : Nat) (hn : n < 8) : ishr .u8 x (n : Int) = x / 2 ^ n := by
  show x.fdiv (2 ^ (min ((n : Int).toNat) 8)) = _
  have : min ((n : Int).toNat) 8 = n := by omega
  rw [this, Int.fdiv_eq_ediv_of_nonneg]
  exact Int.pow_nonneg (by omega)
theorem ixor8_nat (a b : Nat) (ha : a < 256) (hb : b < 256) : ixor .u8 (a : Int) (b : Int) = ((a ^^^ b : Nat) : Int) := by
  show IntKind.u8.wrap (((BitVec.ofInt 8 (a : Int) ^^^ BitVec.ofInt 8 (b : Int)).toNat : Nat) : Int) = _
  rw [BitVec.toNat_xor]
  have h1 : (BitVec.ofInt 8 (a : Int)).toNat = a := by simp [BitVec.toNat_ofInt]; omega
  have h2 : (BitVec.ofInt 8 (b : Int)).toNat = b := by simp [BitVec.toNat_ofInt]; omega
  have h3 : a ^^^ b < 256 := Nat.xor_lt_two_pow (n := 8) ha hb
  rw [h1, h2, wrapU8] <;> omega
theorem byte_lt (l : List UInt8) (j : Nat) : (l.getD j 0).toNat < 256 := (l.getD j 0).toNat_lt
theorem ixor8_zero (x y : UInt8) : ixor .u8 (x.toNat : Int) (y.toNat : Int) = 0 ↔ x = y := by
  rw [ixor8_nat _ _ x.toNat_lt y.toNat_lt, Int.natCast_eq_zero]
  constructor
  · intro h
    have h2 : (x.toNat ^^^ y.toNat) ^^^ y.toNat = 0 ^^^ y.toNat := by rw [h]
    rw [Nat.xor_assoc, Nat.xor_self, Nat.xor_zero, Nat.zero_xor] at h2
    exact UInt8.toNat_inj.1 h2
  · rintro rfl; exact Nat.xor_self _

theorem firstBit_none (b c : List UInt8) : ∀ n, (∀ j, j < n → dbit b c j = false) → firstBit b c n = -1
  | 0, _ => rfl
  | n + 1, h => by simp [firstBit, firstBit_none b c n (fun j hj => h j (by omega)), h n (by omega)]
theorem firstBit_eq (b c : List UInt8) (k : Nat) (hk : dbit b c k = true) (hj : ∀ j, j < k → dbit b c j = false) : ∀ n, k < n → firstBit b c n = k
  | 0, h => by omega
  | n + 1, h => by
    by_cases hkn : k = n
    · subst hkn; simp [firstBit, firstBit_none b c k hj, hk]
    · have := firstBit_eq b c k hk hj n (by omega)
      simp only [firstBit, this]
      rw [if_neg (by omega)]
theorem lastBit_eq (b c : List UInt8) (k : Nat) (hk : dbit b c k = true) : ∀ n, k < n → (∀ j, k < j → j < n → dbit b c j = false) → lastBit b c n = k
  | 0, h, _ => by omega
  | n + 1, h, hj => by
    by_cases hkn : k = n
    · subst hkn; simp [lastBit, hk]
    · simp only [lastBit, hj n (by omega) (by omega), Bool.false_eq_true, if_false]
      exact lastBit_eq b c k hk n (by omega) fun j h1 h2 => hj j h1 (by omega)
theorem firstBit_range (b c : List UInt8) : ∀ n : Nat, -1 ≤ firstBit b c n ∧ firstBit b c n < n
  | 0 => by simp [firstBit]
  | n + 1 => by simp only [firstBit]; have := firstBit_range b c n; split <;> omega
theorem lastBit_range (b c : List UInt8) : ∀ n : Nat, 0 ≤ lastBit b c n ∧ lastBit b c n ≤ n
  | 0 => by simp [lastBit]
  | n + 1 => by simp only [lastBit]; have := lastBit_range b c n; split <;> omega

theorem tz8_E : EnvSound Try.prog E_tz8 := mkE_sound (by simp [])
theorem tz8_sound : Sound Try.prog 90 (sg [pU8] [rI]) (tabSpec tzOf) := vBody_sound tz8_E noInl_ok Try.func90 (by kernel_rfl) fun cs outs hk h => by
  unfold tabSpec at h
  split at h
  · simp only [Option.some.injEq, Prod.mk.injEq, Bool.and_eq_true, decide_eq_true_eq] at h
    obtain ⟨⟨h1, h2⟩, rfl⟩ := h
    rw [vBody_L, tz8_tree]
    rename_i x
    have h3 : x < ((256 : Nat) : Int) := by omega
    simp only [eval_must', eval_ret', if_true, Bool.and_eq_true, decide_eq_true_eq, h1, h3, and_self]
    rfl
  · cases h
theorem len8_E : EnvSound Try.prog E_len8 := mkE_sound (by simp [])
theorem len8_sound : Sound Try.prog 91 (sg [pU8] [rI]) (tabSpec lenOf) := vBody_sound len8_E noInl_ok Try.func91 (by kernel_rfl) fun cs outs hk h => by
  unfold tabSpec at h
  split at h
  · simp only [Option.some.injEq, Prod.mk.injEq, Bool.and_eq_true, decide_eq_true_eq] at h
    obtain ⟨⟨h1, h2⟩, rfl⟩ := h
    rw [vBody_L, len8_tree]
    rename_i x
    have h3 : x < ((256 : Nat) : Int) := by omega
    simp only [eval_must', eval_ret', if_true, Bool.and_eq_true, decide_eq_true_eq, h1, h3, and_self]
    rfl
  · cases h

theorem tz_fin : ∀ x : Fin 256, x.val ≠ 0 → 0 ≤ tzOf x.val ∧ tzOf x.val < 8 ∧ ((x.val : Nat) : Int) / 2 ^ (tzOf x.val).toNat % 2 = 1 ∧ ∀ i : Fin 8, ((i.val : Nat) : Int) < tzOf x.val → ((x.val : Nat) : Int) / 2 ^ i.val % 2 ≠ 1 := by decide +kernel
theorem len_fin : ∀ x : Fin 256, x.val ≠ 0 → 1 ≤ lenOf x.val ∧ lenOf x.val ≤ 8 ∧ ((x.val : Nat) : Int) / 2 ^ (lenOf x.val - 1).toNat % 2 = 1 ∧ ∀ i : Fin 8, lenOf x.val ≤ ((i.val : Nat) : Int) → ((x.val : Nat) : Int) / 2 ^ i.val % 2 ≠ 1 := by decide +kernel
theorem tz_of (x : Int) (h1 : 0 ≤ x) (h2 : x ≤ 255) (h0 : x ≠ 0) : ∃ t : Nat, tzOf x = t ∧ t < 8 ∧ x / 2 ^ t % 2 = 1 ∧ ∀ i : Nat, i < t → x / 2 ^ i % 2 ≠ 1 := by
  obtain ⟨n, rfl⟩ := Int.eq_ofNat_of_zero_le h1
  obtain ⟨a1, a2, a3, a4⟩ := tz_fin ⟨n, by omega⟩ (by simp; omega)
  obtain ⟨t, ht⟩ := Int.eq_ofNat_of_zero_le a1
  simp only [] at ht a2 a3 a4
  refine ⟨t, ht, by omega, by rw [ht] at a3; simpa using a3, fun i hi => a4 ⟨i, by omega⟩ (by simp only [ht]; omega)⟩
theorem len_of (x : Int) (h1 : 0 ≤ x) (h2 : x ≤ 255) (h0 : x ≠ 0) : ∃ t : Nat, lenOf x = t + 1 ∧ t < 8 ∧ x / 2 ^ t % 2 = 1 ∧ ∀ i : Nat, t < i → i < 8 → x / 2 ^ i % 2 ≠ 1 := by
  obtain ⟨n, rfl⟩ := Int.eq_ofNat_of_zero_le h1
  obtain ⟨a1, a2, a3, a4⟩ := len_fin ⟨n, by omega⟩ (by simp; omega)
  obtain ⟨t, ht⟩ := Int.eq_ofNat_of_zero_le (a := lenOf (n : Int) - 1) (by simp only [] at a1; omega)
  simp only [] at a1 a2 a3 a4
  refine ⟨t, by omega, by omega, by rw [ht] at a3; simpa using a3, fun i hi hi8 => a4 ⟨i, hi8⟩ (by simp only []; omega)⟩

theorem sIsBurst_loop (b c : List UInt8) (hl : b.length = c.length) (hb : b.length ≤ 1048576) (hne : b ≠ c) : ∀ (n i : Nat), i ≤ 8 * b.length → 8 * b.length < i + n →
    (vLoop E_sIsBurst noInl (sg [pS, pS] [rB]) Try.f19 [.r, .r, .r, .r, .l, .r, .b] n (H_sIsBurst b c (firstBit b c i) (lastBit b c i) i)).eval = some [.bool (isBurst b c)] := by
  intro n
  induction n with
  | zero => intro i h1 h2; omega
  | succ n ih =>
    intro i h1 h2
    rw [vLoop_L _ _ _ _ _ _ _ (by kernel_rfl), sIsBurst_round0]
    have w1 : IntKind.i64.wrap (8 * (b.length : Int)) = 8 * (b.length : Int) := by rw [wrap64] <;> omega
    have w2 : (i : Int).tdiv 8 = ((i / 8 : Nat) : Int) := by rw [Int.tdiv_eq_ediv_of_nonneg (by omega)]; omega
    have w3 : (i : Int).tmod 8 = ((i % 8 : Nat) : Int) := by rw [Int.tmod_eq_emod_of_nonneg (by omega)]; omega
    have w4 : IntKind.i64.wrap ((i / 8 : Nat) : Int) = ((i / 8 : Nat) : Int) := by rw [wrap64] <;> omega
    have w5 : IntKind.u64.wrap ((i % 8 : Nat) : Int) = ((i % 8 : Nat) : Int) := by rw [wrapU64] <;> omega
    have w6 : IntKind.i64.wrap ((i : Int) + 1) = ((i + 1 : Nat) : Int) := by rw [wrap64] <;> omega
    have fr := firstBit_range b c i
    have lr := lastBit_range b c i
    have w7 : IntKind.i64.wrap (lastBit b c i - firstBit b c i) = lastBit b c i - firstBit b c i := by rw [wrap64] <;> omega
    have hz : (0 : Int) ≤ ((i / 8 : Nat) : Int) := by omega
    have hz2 : (0 : Int) ≤ ((i % 8 : Nat) : Int) := by omega
    simp only [eval_must', eval_ask', eval_ret', decide_eq_true_eq, if_true, Bool.and_eq_true, w1, w2, w3, w4, w5, w6, w7, hz, hz2, true_and, Int.toNat_natCast, Int.ofNat_lt]
    by_cases hi : i < 8 * b.length
    · have hi' : (i : Int) < 8 * (b.length : Int) := by omega
      have c1 : i / 8 < b.length := by omega
      have c2 : i / 8 < c.length := by omega
      simp only [hi', c1, c2, if_true, iand8_one, ishr8 _ _ (show i % 8 < 8 by omega)]
      have e := ih (i + 1) (by omega) (by omega)
      have hd : dbit b c i = true ↔ ixor .u8 ((b.getD (i / 8) 0).toNat : Int) ((c.getD (i / 8) 0).toNat : Int) / 2 ^ (i % 8) % 2 = 1 := by simp [dbit]
      by_cases hx : ixor .u8 ((b.getD (i / 8) 0).toNat : Int) ((c.getD (i / 8) 0).toNat : Int) / 2 ^ (i % 8) % 2 = 1
      · have hd' := hd.2 hx
        simp only [firstBit, lastBit, hd', and_true, if_true] at e
        simp only [hx, if_true]
        by_cases hf : firstBit b c i < 0
        · simp only [hf, if_true] at e ⊢; exact e
        · simp only [hf, if_false] at e ⊢; exact e
      · have hd' : dbit b c i = false := by cases h : dbit b c i with | true => exact absurd (hd.1 h) hx | false => rfl
        simp only [firstBit, lastBit, hd', Bool.false_eq_true, and_false, if_false] at e
        simp only [hx, if_false]
        exact e
    · have : i = 8 * b.length := by omega
      subst this
      rw [if_neg (by omega)]
      simp only [isBurst, hl, ne_eq, hne, not_false_eq_true, true_and]
      split <;> simp [*]

theorem sIsBurst_E : EnvSound Try.prog E_sIsBurst := mkE_sound (by simp [])
theorem sIsBurst_sound : Sound Try.prog 19 (sg [pS, pS] [rB]) burstSpec := vBody_sound sIsBurst_E noInl_ok Try.func19 (by kernel_rfl) fun cs outs hk h => by
  unfold burstSpec at h
  split at h
  · simp only [Option.some.injEq, Prod.mk.injEq, Bool.and_eq_true, decide_eq_true_eq] at h
    obtain ⟨⟨h1, h2⟩, rfl⟩ := h
    rename_i b c
    rw [vBody_L, sIsBurst_tree]
    simp only [eval_must', eval_ask', eval_ret', if_true, bne_iff_ne, ne_eq, beq_iff_eq, Int.ofNat_inj]
    by_cases hl : b.length = c.length
    · by_cases hbc : b = c
      · simp only [hl, not_true_eq_false, if_false, hbc, if_true]; simp [isBurst]
      · simp only [hl, not_true_eq_false, if_false, hbc]
        exact sIsBurst_loop b c hl h1 hbc _ 0 (by omega) (by omega)
    · simp only [hl, not_false_eq_true, if_true]; simp [isBurst, hl]
  · cases h

theorem lastDiff_spec (b c : List UInt8) : ∀ n, (∀ j, lastDiff b c n ≤ j → j < n → b.getD j 0 = c.getD j 0) ∧ (lastDiff b c n ≠ 0 → b.getD (lastDiff b c n - 1) 0 ≠ c.getD (lastDiff b c n - 1) 0)
  | 0 => ⟨fun j h1 h2 => by omega, fun h => absurd rfl h⟩
  | n + 1 => by
    obtain ⟨h1, h2⟩ := lastDiff_spec b c n
    simp only [lastDiff]
    split
    · rename_i h
      refine ⟨fun j hj hn => ?_, h2⟩
      by_cases hjn : j = n
      · subst hjn; exact h
      · exact h1 j hj (by omega)
    · rename_i h
      exact ⟨fun j hj hn => by omega, fun _ => h⟩

theorem dbit_same (b c : List UInt8) (k : Nat) (h : b.getD (k / 8) 0 = c.getD (k / 8) 0) : dbit b c k = false := by
  have := (ixor8_zero (b.getD (k / 8) 0) (c.getD (k / 8) 0)).2 h
  unfold dbit
  rw [this]
  simp

theorem iIsBurst_E : EnvSound Try.prog E_iIsBurst := mkE_sound (by simp [iChangeEnd_sound, iFirstChange_sound, tz8_sound, len8_sound])
theorem iIsBurst_sound : Sound Try.prog 20 (sg [pS, pS] [rB]) burstSpec := vBody_sound iIsBurst_E noInl_ok Try.func20 (by kernel_rfl) fun cs outs hk h => by
  unfold burstSpec at h
  split at h
  · simp only [Option.some.injEq, Prod.mk.injEq, Bool.and_eq_true, decide_eq_true_eq] at h
    obtain ⟨⟨h1, h2⟩, rfl⟩ := h
    rename_i b c
    rw [vBody_L, iIsBurst_tree]
    by_cases hl : b.length = c.length
    · by_cases hbc : b = c
      · subst hbc; simp [eval_must', eval_ask', eval_ret', isBurst]
      · have hcl := common_le b c
        have hp : common b c < b.length := by
          have := common_eq b c
          by_cases h : common b c = b.length
          · exact absurd (this h hl) hbc
          · omega
        have hpx := common_ne b c hp (by omega)
        have ef : firstOf b c = (common b c : Int) := by simp [firstOf, hbc]
        obtain ⟨d1, d2⟩ := lastDiff_spec b c b.length
        have dl := lastDiff_le b c b.length
        have hq : lastDiff b c b.length ≠ 0 := fun h0 => hpx (d1 _ (by omega) hp)
        obtain ⟨q, hq⟩ := Nat.exists_eq_succ_of_ne_zero hq
        rw [hq] at d1 d2 dl
        have hqx := d2 (by omega)
        simp only [Nat.succ_sub_one] at hqx
        have ee : endOf b c = (q : Int) + 1 := by simp only [endOf, hl, if_true]; rw [← hl, hq]; omega
        have w1 : IntKind.i64.wrap ((q : Int) + 1 - 1) = q := by rw [wrap64] <;> omega
        have x1 := ixor8_range ((b.getD (common b c) 0).toNat : Int) ((c.getD (common b c) 0).toNat : Int)
        have x2 := ixor8_range ((b.getD q 0).toNat : Int) ((c.getD q 0).toNat : Int)
        obtain ⟨t, t1, t2, t3, t4⟩ := tz_of _ x1.1 x1.2 (fun h => hpx ((ixor8_zero _ _).1 h))
        obtain ⟨u, u1, u2, u3, u4⟩ := len_of _ x2.1 x2.2 (fun h => hqx ((ixor8_zero _ _).1 h))
        have fb : firstBit b c (8 * b.length) = ((8 * common b c + t : Nat) : Int) := by
          refine firstBit_eq b c _ ?_ (fun j hj => ?_) _ (by omega)
          · have e1 : (8 * common b c + t) / 8 = common b c := by omega
            have e2 : (8 * common b c + t) % 8 = t := by omega
            simp only [dbit, e1, e2, t3, decide_true]
          · by_cases hjp : j / 8 < common b c
            · exact dbit_same b c j (common_lt b c _ hjp)
            · have e1 : j / 8 = common b c := by omega
              simp only [dbit, e1, decide_eq_false_iff_not]
              exact t4 _ (by omega)
        have lb : lastBit b c (8 * b.length) = ((8 * q + u : Nat) : Int) := by
          refine lastBit_eq b c _ ?_ _ (by omega) (fun j hj hn => ?_)
          · have e1 : (8 * q + u) / 8 = q := by omega
            have e2 : (8 * q + u) % 8 = u := by omega
            simp only [dbit, e1, e2, u3, decide_true]
          · by_cases hjp : q < j / 8
            · exact dbit_same b c j (d1 _ (by omega) (by omega))
            · have e1 : j / 8 = q := by omega
              simp only [dbit, e1, decide_eq_false_iff_not]
              exact u4 _ (by omega) (by omega)
        have hlb : ¬ ((b.length : Int) ≠ c.length) := by simp [hl]
        have c1 : (0 : Int) ≤ common b c := by omega
        have c2 : (common b c : Int) < b.length := by omega
        have c3 : (common b c : Int) < c.length := by omega
        have c4 : (0 : Int) ≤ q := by omega
        have c5 : (q : Int) < b.length := by omega
        have c6 : (q : Int) < c.length := by omega
        have w2 : IntKind.i64.wrap (8 * (q : Int)) = 8 * (q : Int) := by rw [wrap64] <;> omega
        have w3 : IntKind.i64.wrap (8 * (common b c : Int)) = 8 * (common b c : Int) := by rw [wrap64] <;> omega
        have w4 : IntKind.i64.wrap (8 * (q : Int) + (u + 1)) = 8 * (q : Int) + (u + 1) := by rw [wrap64] <;> omega
        have w5 : IntKind.i64.wrap (8 * (q : Int) + (u + 1) - 1) = 8 * (q : Int) + u := by rw [wrap64] <;> omega
        have w6 : IntKind.i64.wrap (8 * (common b c : Int) + t) = 8 * (common b c : Int) + t := by rw [wrap64] <;> omega
        have w7 : IntKind.i64.wrap (8 * (q : Int) + u - (8 * (common b c : Int) + t)) = 8 * (q : Int) + u - (8 * (common b c : Int) + t) := by rw [wrap64] <;> omega
        simp only [eval_must', eval_ask', eval_ret', if_true, bne_iff_ne, hlb, if_false, beq_iff_eq, hbc, ef, ee, w1, Bool.and_eq_true, decide_eq_true_eq, h1, h2, and_self, c1, c2, c3, c4, c5, c6, Int.toNat_natCast, x1, x2, t1, u1, w2, w3, w4, w5, w6, w7]
        simp only [isBurst, hl, ne_eq, hbc, not_false_eq_true, true_and]
        rw [← hl, fb, lb]
        split
        · rename_i h; simp; omega
        · rename_i h; simp; omega
    · simp [eval_must', eval_ask', eval_ret', isBurst, hl]
      intro h; omega
  · cases h

theorem lIsBurst_E : EnvSound Try.prog E_lIsBurst := mkE_sound (by simp [sIsBurst_sound, iIsBurst_sound])
theorem lIsBurst_sound : Sound Try.prog 3 (sg [pS, pS] [rB]) ssLaw := vBody_sound lIsBurst_E noInl_ok Try.func3 (by kernel_rfl) fun cs outs hk h => by
  unfold ssLaw at h
  split at h
  · simp only [Option.some.injEq, Prod.mk.injEq, true_and] at h
    rw [← h, vBody_L, lIsBurst_tree]
    rename_i b c
    simp only [eval_must', eval_ask', eval_ret', decide_eq_true_eq, if_true, Bool.and_eq_true]
    by_cases hb : isBurst b c = true <;> simp [hb] <;> intros <;> omega
  · cases h

end Go.Proofs.Ythpamcbipmkimaa.V

namespace Go.Proofs.Ythpamcbipmkimaa.V
noncomputable section

def szOf (n : Nat) (left : Int) : Int := if left - n < 0 then -1 else left - n
def szIntsSpec : Spec := fun cs => match cs with
  | [.sl rows, .int .i64 left] => some (decide (0 ≤ left) && decide (left ≤ 1048576) && decide (rows.length ≤ 281474976710656), [.int .i64 (szOf rows.length left)])
  | _ => none
def toIntsSpec : Spec := fun cs => match cs with
  | [.sl rows] => some (decide (rows.length ≤ 1048576) && rowsOk [.int .i64] rows, [.sl rows])
  | _ => none
def eqIntsSpec : Spec := fun cs => match cs with
  | [.sl x, .sl y] => some (decide (x.length ≤ 1048576) && (rowsOk [.int .i64] x && rowsOk [.int .i64] y), [.bool (decide (ints x = ints y))])
  | _ => none
def H_toIntS (r : List (List C)) (n : Nat) (out : List (List C)) (i : Int) : St := st1 [(0, .l (.sl r)), (3, .l (.ref 0 0 n)), (4, int64 i)] 1 out
def H_eqIntS (x y : List (List C)) (i : Int) : St := st0 [(0, .l (.sl x)), (1, .l (.sl y)), (5, int64 i)]
def E_szIntS : Env := mkE [] []
def E_toIntS : Env := mkE [(3, [0, 3, 4])] []
def E_eqIntS : Env := mkE [(4, [0, 1, 5])] []

def actOk (kind : Int) (text : List UInt8) (n : Int) (keeps : Nat) : Bool := inB kind 1 8 && decide (text.length ≤ 200) && decide (0 ≤ n) && decide (keeps ≤ 8)
def actOkSpec : Spec := fun cs => match cs with
  | [.int .i64 kind, .str text, .int .i64 n, .sl keeps] => some (true, [.bool (actOk kind text n keeps.length)])
  | _ => none
def pAct : PTy := .val true [.int .i64, .str, .int .i64, .slice 3]
def szAct (text : Nat) (keeps : Nat) (left : Int) : Int := if left - text < 0 then -1 else szOf keeps (left - text)
def szActSpec : Spec := fun cs => match cs with
  | [.int .i64 _, .str text, .int .i64 _, .sl keeps, .int .i64 left] => some (decide (0 ≤ left) && decide (left ≤ 1048576) && (decide (text.length ≤ 281474976710656) && decide (keeps.length ≤ 281474976710656)), [.int .i64 (szAct text.length keeps.length left)])
  | _ => none
def toActSpec : Spec := fun cs => match cs with
  | [.int .i64 kind, .str text, .int .i64 n, .sl keeps] => some (decide (keeps.length ≤ 1048576) && rowsOk [.int .i64] keeps, [.int .i64 kind, .str text, .int .i64 n, .sl keeps])
  | _ => none
def eqActSpec : Spec := fun cs => match cs with
  | [.int .i64 k1, .str t1, .int .i64 n1, .sl x, .int .i64 k2, .str t2, .int .i64 n2, .sl y] => some (decide (x.length ≤ 1048576) && (rowsOk [.int .i64] x && rowsOk [.int .i64] y), [.bool (decide (k1 = k2 ∧ t1 = t2 ∧ n1 = n2 ∧ ints x = ints y))])
  | _ => none
def actLaw : Spec := fun cs => match cs with
  | [.int .i64 _, .str text, .int .i64 _, .sl keeps] => some (decide (text.length ≤ 281474976710656) && decide (keeps.length ≤ 281474976710656) && rowsOk [.int .i64] keeps, [.bool true])
  | _ => none
def E_sActOk : Env := mkE [] [(93, (sg [pI, pI, pI] [rB]), inSpec)]
def E_iActOk : Env := mkE [] [(95, (sg [pI, pI, pI] [rB]), inSpec)]
def E_szActF : Env := mkE [] [(92, (sg [pSl 3, pI] [rI]), szIntsSpec)]
def E_toAct : Env := mkE [] [(94, (sg [pSl 3] [rSl 3]), toIntsSpec)]
def E_eqAct : Env := mkE [] [(96, (sg [pSl 3, pSl 3] [rB]), eqIntsSpec)]
def E_lActOk : Env := mkE [] [(22, (sg [pAct] [rB]), actOkSpec), (24, (sg [pAct] [rB]), actOkSpec), (21, (sg [pAct, pI] [rI]), szActSpec), (23, (sg [pAct] [⟨true, [(.int .i64, false), (.str, false), (.int .i64, false), (.slice 3, true)]⟩]), toActSpec), (25, (sg [pAct, pAct] [rB]), eqActSpec)]

end
end Go.Proofs.Ythpamcbipmkimaa.V

namespace Go.Proofs.Ythpamcbipmkimaa.V
set_option maxRecDepth 100000
theorem szIntS_tree (H : List Pt → Nat → St → T (List C)) (r : List (List C)) (n : Int) : vBodyL E_szIntS noInl (sg [pSl (3 : TypeId), pI] [rI]) Try.f92 H [C.sl r, C.int IntKind.i64 n] =
 (.must true
 (.ask (decide (IntKind.i64.wrap (n - (↑r.length : Int)) < (0 : Int)))
  (.must true
   (.ret [C.int IntKind.i64 (-1 : Int)]))
  (.must true
   (.ret [C.int IntKind.i64 (IntKind.i64.wrap (n - (↑r.length : Int)))])))) := by kernel_rfl
theorem toIntS_tree (H : List Pt → Nat → St → T (List C)) (r : List (List C)) : vBodyL E_toIntS noInl (sg [pSl (3 : TypeId)] [rSl (3 : TypeId)]) Try.f94 H [C.sl r] =
 (.must true
 (.must (decide ((0 : Int) ≤ (↑r.length : Int)) && decide ((↑r.length : Int) ≤ (↑r.length : Int)) &&
  decide ((↑(8 : Nat) : Int) * (↑r.length : Int) ≤ (281474976710656 : Int)))
  (H [Pt.r, Pt.r, Pt.l, Pt.r, Pt.b] (9223372036854775808 : Nat) (H_toIntS (r) ((↑r.length : Int).toNat) (List.replicate (↑r.length : Int).toNat [C.int IntKind.i64 (0 : Int)]) ((0 : Int)))))) := by kernel_rfl
theorem toIntS_round0 (H : List Pt → Nat → St → T (List C)) (r : List (List C)) (n : Nat) (o : List (List C)) (i : Int) (k : Nat) : vRound E_toIntS noInl (sg [pSl (3 : TypeId)] [rSl (3 : TypeId)]) Try.f94 H [Pt.r, Pt.r, Pt.l, Pt.r, Pt.b] k
  (H_toIntS r n o i) =
 (.ask (decide (i < (↑r.length : Int)))
 (.must (decide ((0 : Int) ≤ i) && decide (i < (↑r.length : Int)) && decide ((r.getD i.toNat []).length = (1 : Nat)))
  (.must (decide ((0 : Nat) < (r.getD i.toNat []).length) &&
    C.is (K.int IntKind.i64) ((r.getD i.toNat []).getD (0 : Nat) (C.fn (0 : FuncId) [])) &&
  true)
   (.must (decide ((0 : Int) ≤ i) && decide (i < (↑n : Int)))
    (.must (decide ((0 : Nat) + i.toNat < o.length))
     (H [Pt.r, Pt.r, Pt.l, Pt.r, Pt.b] k (H_toIntS (r) (n) (o.set ((0 : Nat) + i.toNat)
  (C.int IntKind.i64 ((r.getD i.toNat []).getD (0 : Nat) (C.fn (0 : FuncId) [])).toInt ::
    List.drop ((0 : Nat) + (1 : Nat)) (o.getD ((0 : Nat) + i.toNat) []))) (IntKind.i64.wrap (i + (1 : Int)))))))))
 (.must (decide (n = o.length) && (false || o.all fun r => r.all C.flat) && true && true && true)
  (.ret [C.sl o]))) := by kernel_rfl
theorem eqIntS_tree (H : List Pt → Nat → St → T (List C)) (x : List (List C)) (y : List (List C)) : vBodyL E_eqIntS noInl (sg [pSl (3 : TypeId), pSl (3 : TypeId)] [rB]) Try.f96 H [C.sl x, C.sl y] =
 (.must true
 (.ask ((↑x.length : Int) != (↑y.length : Int))
  (.must true
   (.ret [C.bool false]))
  (H [Pt.r, Pt.r, Pt.l, Pt.r, Pt.b] (9223372036854775808 : Nat) (H_eqIntS (x) (y) ((0 : Int)))))) := by kernel_rfl
theorem eqIntS_round0 (H : List Pt → Nat → St → T (List C)) (x : List (List C)) (y : List (List C)) (i : Int) (k : Nat) : vRound E_eqIntS noInl (sg [pSl (3 : TypeId), pSl (3 : TypeId)] [rB]) Try.f96 H [Pt.r, Pt.r, Pt.l, Pt.r, Pt.b] k
  (H_eqIntS x y i) =
 (.ask (decide (i < (↑x.length : Int)))
 (.must (decide ((0 : Int) ≤ i) && decide (i < (↑x.length : Int)) && decide ((x.getD i.toNat []).length = (1 : Nat)))
  (.must (decide ((0 : Nat) < (x.getD i.toNat []).length) &&
    C.is (K.int IntKind.i64) ((x.getD i.toNat []).getD (0 : Nat) (C.fn (0 : FuncId) [])) &&
  true)
   (.must (decide ((0 : Int) ≤ i) && decide (i < (↑y.length : Int)) && decide ((y.getD i.toNat []).length = (1 : Nat)))
    (.must (decide ((0 : Nat) < (y.getD i.toNat []).length) &&
    C.is (K.int IntKind.i64) ((y.getD i.toNat []).getD (0 : Nat) (C.fn (0 : FuncId) [])) &&
  true)
     (.ask (((x.getD i.toNat []).getD (0 : Nat) (C.fn (0 : FuncId) [])).toInt !=
  ((y.getD i.toNat []).getD (0 : Nat) (C.fn (0 : FuncId) [])).toInt)
      (.must true
       (.ret [C.bool false]))
      (H [Pt.r, Pt.r, Pt.l, Pt.r, Pt.b] k (H_eqIntS (x) (y) (IntKind.i64.wrap (i + (1 : Int))))))))))
 (.must true
  (.ret [C.bool true]))) := by kernel_rfl
theorem sActOk_tree (H : List Pt → Nat → St → T (List C)) (k : Int) (t : List UInt8) (n : Int) (r : List (List C)) : vBodyL E_sActOk noInl (sg [pAct] [rB]) Try.f22 H [C.int IntKind.i64 k, C.str t, C.int IntKind.i64 n, C.sl r] =
 (.must true
 (.must true
  (.must true
   (.must true
    (.ask (inB k (1 : Int) (8 : Int))
     (.ask (decide ((↑t.length : Int) ≤ (200 : Int)))
      (.ask (decide ((0 : Int) ≤ n))
       (.ask (decide ((↑r.length : Int) ≤ (8 : Int)))
        (.must true
         (.ret [C.bool true]))
        (.must true
         (.ret [C.bool false])))
       (.must true
        (.ret [C.bool false])))
      (.must true
       (.ret [C.bool false])))
     (.must true
      (.ret [C.bool false]))))))) := by kernel_rfl
theorem iActOk_tree (H : List Pt → Nat → St → T (List C)) (k : Int) (t : List UInt8) (n : Int) (r : List (List C)) : vBodyL E_iActOk noInl (sg [pAct] [rB]) Try.f24 H [C.int IntKind.i64 k, C.str t, C.int IntKind.i64 n, C.sl r] =
 (.must true
 (.must true
  (.must true
   (.must true
    (.ask (inB k (1 : Int) (8 : Int))
     (.ask (decide ((↑t.length : Int) ≤ (200 : Int)))
      (.ask (decide ((0 : Int) ≤ n))
       (.ask (decide ((↑r.length : Int) ≤ (8 : Int)))
        (.must true
         (.ret [C.bool true]))
        (.must true
         (.ret [C.bool false])))
       (.must true
        (.ret [C.bool false])))
      (.must true
       (.ret [C.bool false])))
     (.must true
      (.ret [C.bool false]))))))) := by kernel_rfl
theorem szActF_tree (H : List Pt → Nat → St → T (List C)) (k : Int) (t : List UInt8) (n : Int) (r : List (List C)) (m : Int) : vBodyL E_szActF noInl (sg [pAct, pI] [rI]) Try.f21 H
  [C.int IntKind.i64 k, C.str t, C.int IntKind.i64 n, C.sl r, C.int IntKind.i64 m] =
 (.must true
 (.ask (decide (IntKind.i64.wrap (m - (↑t.length : Int)) < (0 : Int)))
  (.must true
   (.ret [C.int IntKind.i64 (-1 : Int)]))
  (.must true
   (.must (decide ((0 : Int) ≤ IntKind.i64.wrap (m - (↑t.length : Int))) &&
    decide (IntKind.i64.wrap (m - (↑t.length : Int)) ≤ (1048576 : Int)) &&
  decide (r.length ≤ (281474976710656 : Nat)))
    (.must true
     (.ask (decide (szOf r.length (IntKind.i64.wrap (m - (↑t.length : Int))) < (0 : Int)))
      (.must true
       (.ret [C.int IntKind.i64 (-1 : Int)]))
      (.must true
       (.ret [C.int IntKind.i64 (szOf r.length (IntKind.i64.wrap (m - (↑t.length : Int))))])))))))) := by kernel_rfl
theorem toAct_tree (H : List Pt → Nat → St → T (List C)) (k : Int) (t : List UInt8) (n : Int) (r : List (List C)) : vBodyL E_toAct noInl
  (sg [pAct]
    [{ agg := true,
        ls := [(K.int IntKind.i64, false), (K.str, false), (K.int IntKind.i64, false), (K.slice (3 : TypeId), true)] }])
  Try.f23 H [C.int IntKind.i64 k, C.str t, C.int IntKind.i64 n, C.sl r] =
 (.must true
 (.must true
  (.must (decide (r.length ≤ (1048576 : Nat)) && rowsOk [K.int IntKind.i64] r)
   (.must ((true && r.all fun row => decide (row.length = (1 : Nat))) && true && true && true)
    (.must (true && (false || true) &&
      (true && (false || true) &&
        (true && (false || true) &&
          (decide (r.length = r.length) && (false || r.all fun r => r.all C.flat) && true))) &&
    true &&
  true)
     (.ret [C.int IntKind.i64 k, C.str t, C.int IntKind.i64 n, C.sl r])))))) := by kernel_rfl
theorem eqAct_tree (H : List Pt → Nat → St → T (List C)) (k : Int) (t : List UInt8) (n : Int) (r : List (List C)) (k2 : Int) (t2 : List UInt8) (n2 : Int) (r2 : List (List C)) : vBodyL E_eqAct noInl (sg [pAct, pAct] [rB]) Try.f25 H
  [C.int IntKind.i64 k, C.str t, C.int IntKind.i64 n, C.sl r, C.int IntKind.i64 k2, C.str t2, C.int IntKind.i64 n2,
    C.sl r2] =
 (.must true
 (.ask (k != k2)
  (.must true
   (.ret [C.bool false]))
  (.ask (!t == t2)
   (.must true
    (.ret [C.bool false]))
   (.ask (n != n2)
    (.must true
     (.ret [C.bool false]))
    (.must true
     (.must (decide (r.length ≤ (1048576 : Nat)) && (rowsOk [K.int IntKind.i64] r && rowsOk [K.int IntKind.i64] r2))
      (.must true
       (.ask (decide (ints r = ints r2))
        (.must true
         (.ret [C.bool true]))
        (.must true
         (.ret [C.bool false])))))))))) := by kernel_rfl
theorem lActOk_tree (H : List Pt → Nat → St → T (List C)) (k : Int) (t : List UInt8) (n : Int) (r : List (List C)) : vBodyL E_lActOk noInl (sg [pAct] [rB]) Try.f4 H [C.int IntKind.i64 k, C.str t, C.int IntKind.i64 n, C.sl r] =
 (.must true
 (.must true
  (.must (decide ((0 : Int) ≤ (1048576 : Int)) && decide ((1048576 : Int) ≤ (1048576 : Int)) &&
  (decide (t.length ≤ (281474976710656 : Nat)) && decide (r.length ≤ (281474976710656 : Nat))))
   (.must true
    (.ask (decide (szAct t.length r.length (1048576 : Int) < (0 : Int)))
     (.must true
      (.ret [C.bool true]))
     (.must true
      (.must (decide (r.length ≤ (1048576 : Nat)) && rowsOk [K.int IntKind.i64] r)
       (.must (decide ((0 : Nat) < (1 : Nat)) && true &&
      (decide ((0 : Nat) < (1 : Nat)) && true &&
        (decide ((0 : Nat) < (1 : Nat)) && true &&
          ((true && r.all fun row => decide (row.length = (1 : Nat))) && true))) &&
    true &&
  true)
        (.must true
         (.must true
          (.must true
           (.ask (actOk k t n (List.take r.length r).length)
            (.must true
             (.must (decide (r.length ≤ (1048576 : Nat)) && rowsOk [K.int IntKind.i64] r)
              (.must (decide ((0 : Nat) < (1 : Nat)) && true &&
      (decide ((0 : Nat) < (1 : Nat)) && true &&
        (decide ((0 : Nat) < (1 : Nat)) && true &&
          ((true && r.all fun row => decide (row.length = (1 : Nat))) && true))) &&
    true &&
  true)
               (.must true
                (.must true
                 (.must true
                  (.ask (actOk k t n (List.take r.length r).length)
                   (.ask (!true)
                    (.must true
                     (.ret [C.bool false]))
                    (.must true
                     (.must (decide (r.length ≤ (1048576 : Nat)) && rowsOk [K.int IntKind.i64] r)
                      (.must (decide ((0 : Nat) < (1 : Nat)) && true &&
      (decide ((0 : Nat) < (1 : Nat)) && true &&
        (decide ((0 : Nat) < (1 : Nat)) && true &&
          ((true && r.all fun row => decide (row.length = (1 : Nat))) && true))) &&
    true &&
  true)
                       (.must true
                        (.must (decide ((List.take r.length r).length ≤ (1048576 : Nat)) &&
  (rowsOk [K.int IntKind.i64] (List.take r.length r) && rowsOk [K.int IntKind.i64] (List.take r.length r)))
                         (.must true
                          (.ask (decide (k = k ∧ t = t ∧ n = n ∧ ints (List.take r.length r) = ints (List.take r.length r)))
                           (.must true
                            (.ret [C.bool true]))
                           (.must true
                            (.ret [C.bool false]))))))))))
                   (.ask true
                    (.must true
                     (.ret [C.bool false]))
                    (.must true
                     (.must (decide (r.length ≤ (1048576 : Nat)) && rowsOk [K.int IntKind.i64] r)
                      (.must (decide ((0 : Nat) < (1 : Nat)) && true &&
      (decide ((0 : Nat) < (1 : Nat)) && true &&
        (decide ((0 : Nat) < (1 : Nat)) && true &&
          ((true && r.all fun row => decide (row.length = (1 : Nat))) && true))) &&
    true &&
  true)
                       (.must true
                        (.must (decide ((List.take r.length r).length ≤ (1048576 : Nat)) &&
  (rowsOk [K.int IntKind.i64] (List.take r.length r) && rowsOk [K.int IntKind.i64] (List.take r.length r)))
                         (.must true
                          (.ask (decide (k = k ∧ t = t ∧ n = n ∧ ints (List.take r.length r) = ints (List.take r.length r)))
                           (.must true
                            (.ret [C.bool true]))
                           (.must true
                            (.ret [C.bool false])))))))))))))))))
            (.must true
             (.must (decide (r.length ≤ (1048576 : Nat)) && rowsOk [K.int IntKind.i64] r)
              (.must (decide ((0 : Nat) < (1 : Nat)) && true &&
      (decide ((0 : Nat) < (1 : Nat)) && true &&
        (decide ((0 : Nat) < (1 : Nat)) && true &&
          ((true && r.all fun row => decide (row.length = (1 : Nat))) && true))) &&
    true &&
  true)
               (.must true
                (.must true
                 (.must true
                  (.ask (actOk k t n (List.take r.length r).length)
                   (.ask true
                    (.must true
                     (.ret [C.bool false]))
                    (.must true
                     (.must (decide (r.length ≤ (1048576 : Nat)) && rowsOk [K.int IntKind.i64] r)
                      (.must (decide ((0 : Nat) < (1 : Nat)) && true &&
      (decide ((0 : Nat) < (1 : Nat)) && true &&
        (decide ((0 : Nat) < (1 : Nat)) && true &&
          ((true && r.all fun row => decide (row.length = (1 : Nat))) && true))) &&
    true &&
  true)
                       (.must true
                        (.must (decide ((List.take r.length r).length ≤ (1048576 : Nat)) &&
  (rowsOk [K.int IntKind.i64] (List.take r.length r) && rowsOk [K.int IntKind.i64] (List.take r.length r)))
                         (.must true
                          (.ask (decide (k = k ∧ t = t ∧ n = n ∧ ints (List.take r.length r) = ints (List.take r.length r)))
                           (.must true
                            (.ret [C.bool true]))
                           (.must true
                            (.ret [C.bool false]))))))))))
                   (.ask (!true)
                    (.must true
                     (.ret [C.bool false]))
                    (.must true
                     (.must (decide (r.length ≤ (1048576 : Nat)) && rowsOk [K.int IntKind.i64] r)
                      (.must (decide ((0 : Nat) < (1 : Nat)) && true &&
      (decide ((0 : Nat) < (1 : Nat)) && true &&
        (decide ((0 : Nat) < (1 : Nat)) && true &&
          ((true && r.all fun row => decide (row.length = (1 : Nat))) && true))) &&
    true &&
  true)
                       (.must true
                        (.must (decide ((List.take r.length r).length ≤ (1048576 : Nat)) &&
  (rowsOk [K.int IntKind.i64] (List.take r.length r) && rowsOk [K.int IntKind.i64] (List.take r.length r)))
                         (.must true
                          (.ask (decide (k = k ∧ t = t ∧ n = n ∧ ints (List.take r.length r) = ints (List.take r.length r)))
                           (.must true
                            (.ret [C.bool true]))
                           (.must true
                            (.ret [C.bool false]))))))))))))))))))))))))))))) := by kernel_rfl
end Go.Proofs.Ythpamcbipmkimaa.V

namespace Go.Proofs.Ythpamcbipmkimaa.V

theorem szIntS_E : EnvSound Try.prog E_szIntS := mkE_sound (by simp [])
theorem szIntS_sound : Sound Try.prog 92 (sg [pSl 3, pI] [rI]) szIntsSpec := vBody_sound szIntS_E noInl_ok Try.func92 (by kernel_rfl) fun cs outs hk h => by
  unfold szIntsSpec at h
  split at h
  · simp only [Option.some.injEq, Prod.mk.injEq, Bool.and_eq_true, decide_eq_true_eq] at h
    obtain ⟨⟨⟨h1, h2⟩, h3⟩, rfl⟩ := h
    rename_i rows left
    rw [vBody_L, szIntS_tree]
    have w : IntKind.i64.wrap (left - (rows.length : Int)) = left - rows.length := by rw [wrap64] <;> omega
    simp only [eval_must', eval_ask', eval_ret', if_true, decide_eq_true_eq, w, szOf]
    split <;> rfl
  · cases h

theorem toIntS_loop (l : List Int) (hl : l.length ≤ 1048576) : ∀ (n i : Nat), i ≤ l.length → l.length < i + n →
    (vLoop E_toIntS noInl (sg [pSl 3] [rSl 3]) Try.f94 [.r, .r, .l, .r, .b] n (H_toIntS (l.map eInt) l.length ((l.take i ++ List.replicate (l.length - i) 0).map eInt) i)).eval = some [.sl (l.map eInt)] := by
  intro n
  induction n with
  | zero => intro i h1 h2; omega
  | succ n ih =>
    intro i h1 h2
    rw [vLoop_L _ _ _ _ _ _ _ (by kernel_rfl), toIntS_round0]
    by_cases hi : i < l.length
    · have e := ih (i + 1) (by omega) (by omega)
      rw [← copy_set l 0 0 i hi, List.map_set] at e
      have w : IntKind.i64.wrap ((i : Int) + 1) = ((i + 1 : Nat) : Int) := by rw [wrap64] <;> omega
      have hz : (0 : Int) ≤ i := by omega
      have hi' : (i : Int) < l.length := by omega
      have g := map_getD eInt l 0 i hi
      have hlen : (l.take i ++ List.replicate (l.length - i) (0 : Int)).length = l.length := by simp; omega
      have g2 := map_getD eInt (l.take i ++ List.replicate (l.length - i) 0) 0 i (by omega)
      simp only [eval_must', eval_ask', eval_ret', if_true, decide_eq_true_eq, Bool.and_eq_true, w, hz, hi', Int.toNat_natCast, List.length_map, Nat.zero_add, g, g2, hlen, hi, and_self]
      exact e
    · have : i = l.length := by omega
      subst this
      have f := flat_ints l
      simp [eval_must', eval_ask', eval_ret', C.flat]
theorem toIntS_E : EnvSound Try.prog E_toIntS := mkE_sound (by simp [])
theorem toIntS_sound : Sound Try.prog 94 (sg [pSl 3] [rSl 3]) toIntsSpec := vBody_sound toIntS_E noInl_ok Try.func94 (by kernel_rfl) fun cs outs hk h => by
  unfold toIntsSpec at h
  split at h
  · simp only [Option.some.injEq, Prod.mk.injEq, Bool.and_eq_true, decide_eq_true_eq] at h
    obtain ⟨⟨h1, h2⟩, rfl⟩ := h
    rename_i rows
    have hr := rows_ints h2
    generalize ints rows = l at hr
    subst hr
    rw [List.length_map] at h1
    rw [vBody_L, toIntS_tree]
    have c1 : (8 : Int) * (l.length : Int) ≤ 281474976710656 := by omega
    have c2 : (0 : Int) ≤ l.length := by omega
    have := toIntS_loop l h1 9223372036854775808 0 (by omega) (by omega)
    simp only [List.take_zero, List.nil_append, Nat.sub_zero, List.map_replicate] at this
    simp only [eval_must', if_true, decide_eq_true_eq, Bool.and_eq_true, List.length_map, Int.toNat_natCast, c2, Int.le_refl, and_self, true_and]
    rw [if_pos (by omega)]
    exact this
  · cases h

theorem eqIntS_loop (x y : List Int) (hx : x.length ≤ 1048576) (hl : x.length = y.length) : ∀ (n i : Nat), i ≤ x.length → x.length < i + n → x.take i = y.take i →
    (vLoop E_eqIntS noInl (sg [pSl 3, pSl 3] [rB]) Try.f96 [.r, .r, .l, .r, .b] n (H_eqIntS (x.map eInt) (y.map eInt) i)).eval = some [.bool (decide (x = y))] := by
  intro n
  induction n with
  | zero => intro i h1 h2; omega
  | succ n ih =>
    intro i h1 h2 h3
    rw [vLoop_L _ _ _ _ _ _ _ (by kernel_rfl), eqIntS_round0]
    by_cases hi : i < x.length
    · have hi2 : i < y.length := by omega
      have w : IntKind.i64.wrap ((i : Int) + 1) = ((i + 1 : Nat) : Int) := by rw [wrap64] <;> omega
      have hz : (0 : Int) ≤ i := by omega
      have g := map_getD eInt x 0 i hi
      have g2 := map_getD eInt y 0 i hi2
      simp only [eval_must', eval_ask', eval_ret', if_true, decide_eq_true_eq, Bool.and_eq_true, w, hz, Int.toNat_natCast, Int.ofNat_lt, List.length_map, g, g2, hi, hi2, and_self, List.getD_cons_zero, C.toInt, C.is, List.length_cons, List.length_nil, Nat.zero_lt_succ, beq_self_eq_true, bne_iff_ne, ne_eq]
      by_cases hxy : x.getD i 0 = y.getD i 0
      · have e := ih (i + 1) (by omega) (by omega) (by
          rw [List.take_add_one, List.take_add_one, h3]
          simp [List.getD_eq_getElem?_getD, hi, hi2] at hxy
          simp [hi, hi2, hxy])
        simp only [hxy, not_true_eq_false, if_false]
        exact e
      · have : x ≠ y := fun h => hxy (by rw [h])
        simp only [hxy, not_false_eq_true, if_true, this, decide_false]
    · have e1 : i = x.length := by omega
      have : x = y := by
        rw [e1, List.take_length, hl, List.take_length] at h3
        exact h3
      have e2 : decide (x = y) = true := by simp [this]
      simp only [eval_must', eval_ask', eval_ret', decide_eq_true_eq, List.length_map, Int.ofNat_lt, hi, if_false, if_true, e2]
theorem eqIntS_E : EnvSound Try.prog E_eqIntS := mkE_sound (by simp [])
theorem eqIntS_sound : Sound Try.prog 96 (sg [pSl 3, pSl 3] [rB]) eqIntsSpec := vBody_sound eqIntS_E noInl_ok Try.func96 (by kernel_rfl) fun cs outs hk h => by
  unfold eqIntsSpec at h
  split at h
  · simp only [Option.some.injEq, Prod.mk.injEq, Bool.and_eq_true, decide_eq_true_eq] at h
    obtain ⟨⟨h1, h2, h3⟩, rfl⟩ := h
    rename_i x y
    have hx := rows_ints h2
    have hy := rows_ints h3
    generalize ints x = l at hx ⊢
    generalize ints y = m at hy ⊢
    subst hx; subst hy
    rw [List.length_map] at h1
    rw [vBody_L, eqIntS_tree]
    simp only [eval_must', eval_ask', eval_ret', if_true, bne_iff_ne, ne_eq, List.length_map, Int.ofNat_inj]
    by_cases hl : l.length = m.length
    · simp only [hl, not_true_eq_false, if_false]
      exact eqIntS_loop l m h1 hl _ 0 (by omega) (by omega) rfl
    · have : l ≠ m := fun h => hl (by rw [h])
      simp [hl, this]
  · cases h

theorem sActOk_E : EnvSound Try.prog E_sActOk := mkE_sound (by simp [sIn_sound])
theorem sActOk_sound : Sound Try.prog 22 (sg [pAct] [rB]) actOkSpec := vBody_sound sActOk_E noInl_ok Try.func22 (by kernel_rfl) fun cs outs hk h => by
  unfold actOkSpec at h
  split at h
  · simp only [Option.some.injEq, Prod.mk.injEq, true_and] at h
    rw [← h, vBody_L, sActOk_tree]
    simp only [eval_must', eval_ask', eval_ret', if_true, actOk]
    repeat' split
    all_goals first | rfl | (simp_all; done) | (simp_all; omega)
  · cases h
theorem iActOk_E : EnvSound Try.prog E_iActOk := mkE_sound (by simp [iIn_sound])
theorem iActOk_sound : Sound Try.prog 24 (sg [pAct] [rB]) actOkSpec := vBody_sound iActOk_E noInl_ok Try.func24 (by kernel_rfl) fun cs outs hk h => by
  unfold actOkSpec at h
  split at h
  · simp only [Option.some.injEq, Prod.mk.injEq, true_and] at h
    rw [← h, vBody_L, iActOk_tree]
    simp only [eval_must', eval_ask', eval_ret', if_true, actOk]
    repeat' split
    all_goals first | rfl | (simp_all; done) | (simp_all; omega)
  · cases h
theorem szActF_E : EnvSound Try.prog E_szActF := mkE_sound (by simp [szIntS_sound])
theorem szActF_sound : Sound Try.prog 21 (sg [pAct, pI] [rI]) szActSpec := vBody_sound szActF_E noInl_ok Try.func21 (by kernel_rfl) fun cs outs hk h => by
  unfold szActSpec at h
  split at h
  · simp only [Option.some.injEq, Prod.mk.injEq, Bool.and_eq_true, decide_eq_true_eq] at h
    obtain ⟨⟨⟨h1, h2⟩, h3, h4⟩, rfl⟩ := h
    rename_i k t n r m
    rw [vBody_L, szActF_tree]
    have w : IntKind.i64.wrap (m - (t.length : Int)) = m - t.length := by rw [wrap64] <;> omega
    simp only [eval_must', eval_ask', eval_ret', if_true, decide_eq_true_eq, Bool.and_eq_true, w, szAct]
    by_cases hn : m - (t.length : Int) < 0
    · simp [hn]
    · have c1 : 0 ≤ m - (t.length : Int) := by omega
      have c2 : m - (t.length : Int) ≤ 1048576 := by omega
      simp only [hn, if_false, c1, c2, h4, and_self, if_true]
      unfold szOf
      repeat' split
      all_goals first | rfl | omega
  · cases h
theorem toAct_E : EnvSound Try.prog E_toAct := mkE_sound (by simp [toIntS_sound])
theorem toAct_sound : Sound Try.prog 23 (sg [pAct] [⟨true, [(.int .i64, false), (.str, false), (.int .i64, false), (.slice 3, true)]⟩]) toActSpec := vBody_sound toAct_E noInl_ok Try.func23 (by kernel_rfl) fun cs outs hk h => by
  unfold toActSpec at h
  split at h
  · simp only [Option.some.injEq, Prod.mk.injEq, Bool.and_eq_true, decide_eq_true_eq] at h
    obtain ⟨⟨h1, h2⟩, rfl⟩ := h
    rename_i k t n rows
    have hr := rows_ints h2
    generalize ints rows = l at hr
    subst hr
    rw [vBody_L, toAct_tree]
    rw [List.length_map] at h1
    simp [eval_must', eval_ret', h1, C.flat]
  · cases h
theorem eqAct_E : EnvSound Try.prog E_eqAct := mkE_sound (by simp [eqIntS_sound])
theorem eqAct_sound : Sound Try.prog 25 (sg [pAct, pAct] [rB]) eqActSpec := vBody_sound eqAct_E noInl_ok Try.func25 (by kernel_rfl) fun cs outs hk h => by
  unfold eqActSpec at h
  split at h
  · simp only [Option.some.injEq, Prod.mk.injEq, Bool.and_eq_true, decide_eq_true_eq] at h
    obtain ⟨⟨h1, h2, h3⟩, rfl⟩ := h
    rw [vBody_L, eqAct_tree]
    simp only [eval_must', eval_ask', eval_ret', h1, h2, h3, if_true, decide_true, Bool.and_self]
    repeat' split
    all_goals first | rfl | (simp_all; done)
  · cases h
theorem lActOk_E : EnvSound Try.prog E_lActOk := mkE_sound (by simp [sActOk_sound, iActOk_sound, szActF_sound, toAct_sound, eqAct_sound])
theorem lActOk_sound : Sound Try.prog 4 (sg [pAct] [rB]) actLaw := vBody_sound lActOk_E noInl_ok Try.func4 (by kernel_rfl) fun cs outs hk h => by
  unfold actLaw at h
  split at h
  · simp only [Option.some.injEq, Prod.mk.injEq, Bool.and_eq_true, decide_eq_true_eq] at h
    obtain ⟨⟨⟨h1, h2⟩, h3⟩, rfl⟩ := h
    rename_i k t n rows
    have hr := rows_ints h3
    generalize ints rows = l at hr
    subst hr
    rw [vBody_L, lActOk_tree]
    rw [List.length_map] at h2
    by_cases hs : szAct t.length l.length 1048576 < 0
    · simp [eval_must', eval_ask', eval_ret', hs, h1, h2]
    · have hl : l.length ≤ 1048576 := by
        unfold szAct szOf at hs
        repeat' split at hs
        all_goals omega
      have hm : ((l.map eInt).take l.length) = l.map eInt := by rw [List.take_of_length_le]; simp
      by_cases ha : actOk k t n l.length = true <;> simp [eval_must', eval_ask', eval_ret', hs, h1, h2, hl, hm, ha]
  · cases h

end Go.Proofs.Ythpamcbipmkimaa.V

namespace Go.Proofs.Ythpamcbipmkimaa.V
noncomputable section

def crcStep (x : Nat) : Nat := if x % 2 = 1 then (x / 2) ^^^ 2197175160 else x / 2
def crcIter : Nat → Nat → Nat
  | 0, x => x
  | n + 1, x => crcIter n (crcStep x)
def crcByte (s b : Nat) : Nat := crcIter 8 (s ^^^ b)
def low32 (s : Int) : Nat := (s % 4294967296).toNat
def crcFold (x : Nat) (t : List UInt8) : Nat := t.foldl (fun x c => crcByte x c.toNat) x
def crcMore (s : Nat) (t : List UInt8) : Nat := crcFold (s ^^^ 4294967295) t ^^^ 4294967295
def sumByteSpec : Spec := fun cs => match cs with
  | [.int .i64 s, .int .i64 b] => some (true, [.int .i64 (crcByte (low32 s) (b % 256).toNat : Nat)])
  | _ => none
def sumByte32Spec : Spec := fun cs => match cs with
  | [.int .u32 s, .int .u8 b] => some (decide (0 ≤ s ∧ s ≤ 4294967295) && decide (0 ≤ b ∧ b ≤ 255), [.int .u32 (crcByte s.toNat b.toNat : Nat)])
  | _ => none
def sumMoreSpec : Spec := fun cs => match cs with
  | [.int .i64 s, .str t] => some (decide (t.length ≤ 281474976710656), [.int .i64 (crcMore (low32 s) t : Nat)])
  | _ => none
def sumOfSpec : Spec := fun cs => match cs with
  | [.str t] => some (decide (t.length ≤ 281474976710656), [.int .i64 (crcMore 0 t : Nat)])
  | _ => none
def H_sSumByte (x i : Int) : St := st0 [(5, int64 x), (6, int64 i)]
def H_iSumByte32 (x i : Int) : St := st0 [(0, .l (.i .u32 x)), (10, int64 i)]
def H_sSumMore (t : List UInt8) (x i : Int) : St := st0 [(1, wstr t), (5, int64 x), (6, int64 i)]
def H_iSumMore (t : List UInt8) (x n i : Int) : St := st0 [(1, wstr t), (5, .l (.i .u32 x)), (11, int64 n), (12, int64 i)]
def E_sSumByte : Env := mkE [(3, [5, 6])] []
def E_iSumByte32 : Env := mkE [(3, [0, 10])] []
def E_sSumMore : Env := mkE [(3, [1, 5, 6])] [(175, (sg [pI, pI] [rI]), sumByteSpec)]
def E_iSumMore : Env := mkE [(3, [1, 5, 11, 12])] [(174, (sg [pU32, pU8] [rU32]), sumByte32Spec)]
def E_sSumOf : Env := mkE [] [(156, (sg [pI, pS] [rI]), sumMoreSpec)]
def E_iSumOf : Env := mkE [] [(155, (sg [pI, pS] [rI]), sumMoreSpec)]

end
end Go.Proofs.Ythpamcbipmkimaa.V

namespace Go.Proofs.Ythpamcbipmkimaa.V
set_option maxRecDepth 100000
theorem sSumByte_tree (H : List Pt → Nat → St → T (List C)) (s : Int) (b : Int) : vBodyL E_sSumByte noInl (sg [pI, pI] [rI]) Try.f175 H [C.int IntKind.i64 s, C.int IntKind.i64 b] =
 (.must true
 (H [Pt.r, Pt.r, Pt.l, Pt.r, Pt.b] (9223372036854775808 : Nat) (H_sSumByte (ixor IntKind.i64 (iand IntKind.i64 s (4294967295 : Int)) (iand IntKind.i64 b (255 : Int))) ((0 : Int))))) := by kernel_rfl
theorem iSumByte32_tree (H : List Pt → Nat → St → T (List C)) (s : Int) (b : Int) : vBodyL E_iSumByte32 noInl (sg [pU32, pU8] [rU32]) Try.f174 H [C.int IntKind.u32 s, C.int IntKind.u8 b] =
 (.must true
 (H [Pt.r, Pt.r, Pt.l, Pt.r, Pt.b] (9223372036854775808 : Nat) (H_iSumByte32 (ixor IntKind.u32 s (IntKind.u32.wrap b)) ((0 : Int))))) := by kernel_rfl
theorem sSumByte_round0 (H : List Pt → Nat → St → T (List C)) (x : Int) (i : Int) (k : Nat) : vRound E_sSumByte noInl (sg [pI, pI] [rI]) Try.f175 H [Pt.r, Pt.r, Pt.l, Pt.r, Pt.b] k (H_sSumByte x i) =
 (.ask (decide (i < (8 : Int)))
 (.ask (decide (iand IntKind.i64 x (1 : Int) = (1 : Int)))
  (.must true
   (H [Pt.r, Pt.r, Pt.l, Pt.r, Pt.b] k (H_sSumByte (ixor IntKind.i64 (ishr IntKind.i64 x (1 : Int)) (2197175160 : Int)) (IntKind.i64.wrap (i + (1 : Int))))))
  (.must true
   (H [Pt.r, Pt.r, Pt.l, Pt.r, Pt.b] k (H_sSumByte (ishr IntKind.i64 x (1 : Int)) (IntKind.i64.wrap (i + (1 : Int)))))))
 (.must true
  (.ret [C.int IntKind.i64 x]))) := by kernel_rfl
theorem iSumByte32_round0 (H : List Pt → Nat → St → T (List C)) (x : Int) (i : Int) (k : Nat) : vRound E_iSumByte32 noInl (sg [pU32, pU8] [rU32]) Try.f174 H [Pt.r, Pt.r, Pt.l, Pt.r, Pt.b] k (H_iSumByte32 x i) =
 (.ask (decide (i < (8 : Int)))
 (.ask (decide (iand IntKind.u32 x (1 : Int) = (1 : Int)))
  (.must true
   (H [Pt.r, Pt.r, Pt.l, Pt.r, Pt.b] k (H_iSumByte32 (ixor IntKind.u32 (ishr IntKind.u32 x (1 : Int)) (2197175160 : Int)) (IntKind.i64.wrap (i + (1 : Int))))))
  (.must true
   (H [Pt.r, Pt.r, Pt.l, Pt.r, Pt.b] k (H_iSumByte32 (ishr IntKind.u32 x (1 : Int)) (IntKind.i64.wrap (i + (1 : Int)))))))
 (.must true
  (.ret [C.int IntKind.u32 x]))) := by kernel_rfl
theorem sSumMore_round0 (H : List Pt → Nat → St → T (List C)) (t : List UInt8) (x : Int) (i : Int) (k : Nat) : vRound E_sSumMore noInl (sg [pI, pS] [rI]) Try.f156 H [Pt.r, Pt.r, Pt.l, Pt.r, Pt.b] k (H_sSumMore t x i) =
 (.ask (decide (i < (↑t.length : Int)))
 (.must (decide ((0 : Int) ≤ i) && decide (i < (↑t.length : Int)))
  (.must true
   (.must true
    (.must true
     (H [Pt.r, Pt.r, Pt.l, Pt.r, Pt.b] k (H_sSumMore (t) (Int.ofNat (crcByte (low32 x) (IntKind.i64.wrap (↑(t.getD i.toNat (0 : UInt8)).toNat : Int) % (256 : Int)).toNat)) (IntKind.i64.wrap (i + (1 : Int)))))))))
 (.must true
  (.ret [C.int IntKind.i64 (ixor IntKind.i64 x (4294967295 : Int))]))) := by kernel_rfl
theorem iSumMore_round0 (H : List Pt → Nat → St → T (List C)) (t : List UInt8) (x : Int) (n : Int) (i : Int) (k : Nat) : vRound E_iSumMore noInl (sg [pI, pS] [rI]) Try.f155 H [Pt.r, Pt.r, Pt.l, Pt.r, Pt.b] k (H_iSumMore t x n i) =
 (.ask (decide (i < n))
 (.must (decide ((0 : Int) ≤ i) && decide (i < (↑t.length : Int)))
  (.must true
   (.must (decide ((0 : Int) ≤ x ∧ x ≤ (4294967295 : Int)) &&
  decide
    ((0 : Int) ≤ (↑(t.getD i.toNat (0 : UInt8)).toNat : Int) ∧
      (↑(t.getD i.toNat (0 : UInt8)).toNat : Int) ≤ (255 : Int)))
    (.must true
     (H [Pt.r, Pt.r, Pt.l, Pt.r, Pt.b] k (H_iSumMore (t) (Int.ofNat (crcByte x.toNat (↑(t.getD i.toNat (0 : UInt8)).toNat : Int).toNat)) (n) (IntKind.i64.wrap (i + (1 : Int)))))))))
 (.must true
  (.ret [C.int IntKind.i64 (IntKind.i64.wrap (ixor IntKind.u32 x (4294967295 : Int)))]))) := by kernel_rfl
theorem sSumMore_tree (H : List Pt → Nat → St → T (List C)) (s : Int) (t : List UInt8) : vBodyL E_sSumMore noInl (sg [pI, pS] [rI]) Try.f156 H [C.int IntKind.i64 s, C.str t] =
 (.must true
 (H [Pt.r, Pt.r, Pt.l, Pt.r, Pt.b] (9223372036854775808 : Nat) (H_sSumMore (t) (ixor IntKind.i64 (iand IntKind.i64 s (4294967295 : Int)) (4294967295 : Int)) ((0 : Int))))) := by kernel_rfl
theorem iSumMore_tree (H : List Pt → Nat → St → T (List C)) (s : Int) (t : List UInt8) : vBodyL E_iSumMore noInl (sg [pI, pS] [rI]) Try.f155 H [C.int IntKind.i64 s, C.str t] =
 (.must true
 (H [Pt.r, Pt.r, Pt.l, Pt.r, Pt.b] (9223372036854775808 : Nat) (H_iSumMore (t) (ixor IntKind.u32 (IntKind.u32.wrap s) (4294967295 : Int)) ((↑t.length : Int)) ((0 : Int))))) := by kernel_rfl
theorem sSumOf_tree (H : List Pt → Nat → St → T (List C)) (t : List UInt8) : vBodyL E_sSumOf noInl (sg [pS] [rI]) Try.f124 H [C.str t] =
 (.must true
 (.must true
  (.must (decide (t.length ≤ (281474976710656 : Nat)))
   (.must true
    (.must true
     (.ret [C.int IntKind.i64 (Int.ofNat (crcMore (low32 (0 : Int)) t))])))))) := by kernel_rfl
theorem iSumOf_tree (H : List Pt → Nat → St → T (List C)) (t : List UInt8) : vBodyL E_iSumOf noInl (sg [pS] [rI]) Try.f119 H [C.str t] =
 (.must true
 (.must true
  (.must (decide (t.length ≤ (281474976710656 : Nat)))
   (.must true
    (.must true
     (.ret [C.int IntKind.i64 (Int.ofNat (crcMore (low32 (0 : Int)) t))])))))) := by kernel_rfl
end Go.Proofs.Ythpamcbipmkimaa.V

namespace Go.Proofs.Ythpamcbipmkimaa.V

theorem iand32 (s : Int) : iand .i64 s 4294967295 = (low32 s : Int) := by
  show IntKind.i64.wrap (((BitVec.ofInt 64 s &&& BitVec.ofInt 64 4294967295).toNat : Nat) : Int) = _
  rw [BitVec.toNat_and]
  have h1 : (BitVec.ofInt 64 4294967295).toNat = 2 ^ 32 - 1 := by decide
  have h2 : (BitVec.ofInt 64 s).toNat = (s % 18446744073709551616).toNat := by simp [BitVec.toNat_ofInt]
  rw [h1, h2, Nat.and_two_pow_sub_one_eq_mod]
  unfold low32
  rw [wrap64] <;> omega
theorem iand255 (s : Int) : iand .i64 s 255 = s % 256 := by
  show IntKind.i64.wrap (((BitVec.ofInt 64 s &&& BitVec.ofInt 64 255).toNat : Nat) : Int) = _
  rw [BitVec.toNat_and]
  have h1 : (BitVec.ofInt 64 255).toNat = 2 ^ 8 - 1 := by decide
  have h2 : (BitVec.ofInt 64 s).toNat = (s % 18446744073709551616).toNat := by simp [BitVec.toNat_ofInt]
  rw [h1, h2, Nat.and_two_pow_sub_one_eq_mod, wrap64] <;> omega
theorem ixor64_nat (a b : Nat) (ha : a < 4294967296) (hb : b < 4294967296) : ixor .i64 (a : Int) (b : Int) = ((a ^^^ b : Nat) : Int) := by
  show IntKind.i64.wrap (((BitVec.ofInt 64 (a : Int) ^^^ BitVec.ofInt 64 (b : Int)).toNat : Nat) : Int) = _
  rw [BitVec.toNat_xor]
  have h1 : (BitVec.ofInt 64 (a : Int)).toNat = a := by simp [BitVec.toNat_ofInt]; omega
  have h2 : (BitVec.ofInt 64 (b : Int)).toNat = b := by simp [BitVec.toNat_ofInt]; omega
  have h3 : a ^^^ b < 4294967296 := Nat.xor_lt_two_pow (n := 32) ha hb
  rw [h1, h2, wrap64] <;> omega
theorem ixor32_nat (a b : Nat) (ha : a < 4294967296) (hb : b < 4294967296) : ixor .u32 (a : Int) (b : Int) = ((a ^^^ b : Nat) : Int) := by
  show IntKind.u32.wrap (((BitVec.ofInt 32 (a : Int) ^^^ BitVec.ofInt 32 (b : Int)).toNat : Nat) : Int) = _
  rw [BitVec.toNat_xor]
  have h1 : (BitVec.ofInt 32 (a : Int)).toNat = a := by simp [BitVec.toNat_ofInt]; omega
  have h2 : (BitVec.ofInt 32 (b : Int)).toNat = b := by simp [BitVec.toNat_ofInt]; omega
  have h3 : a ^^^ b < 4294967296 := Nat.xor_lt_two_pow (n := 32) ha hb
  rw [h1, h2, wrapU32] <;> omega
theorem iand32_one (x : Int) : iand .u32 x 1 = x % 2 := by
  show IntKind.u32.wrap (((BitVec.ofInt 32 x &&& BitVec.ofInt 32 1).toNat : Nat) : Int) = _
  rw [BitVec.toNat_and]
  have h1 : (BitVec.ofInt 32 1).toNat = 1 := by decide
  have h2 : (BitVec.ofInt 32 x).toNat = (x % 4294967296).toNat := by simp [BitVec.toNat_ofInt]
  rw [h1, h2, Nat.and_one_is_mod, wrapU32] <;> omega
theorem ishr32_one (x : Int) : ishr .u32 x 1 = x / 2 := by
  show x.fdiv (2 ^ (min (Int.toNat 1) 32)) = _
  rw [Int.fdiv_eq_ediv_of_nonneg] <;> simp
theorem wrapU32_low (s : Int) : IntKind.u32.wrap s = (low32 s : Int) := by
  unfold low32
  simp only [IntKind.wrap, IntKind.bits, IntKind.signed]
  simp
  omega
theorem low32_lt (s : Int) : low32 s < 4294967296 := by unfold low32; omega
theorem crcStep_lt (x : Nat) (h : x < 4294967296) : crcStep x < 4294967296 := by
  unfold crcStep
  split
  · exact Nat.xor_lt_two_pow (n := 32) (by omega) (by omega)
  · omega
theorem crcIter_lt : ∀ (n x : Nat), x < 4294967296 → crcIter n x < 4294967296
  | 0, x, h => h
  | n + 1, x, h => crcIter_lt n _ (crcStep_lt x h)
theorem crcByte_lt (s b : Nat) (hs : s < 4294967296) (hb : b < 256) : crcByte s b < 4294967296 :=
  crcIter_lt 8 _ (Nat.xor_lt_two_pow (n := 32) hs (by omega))
theorem crcFold_lt : ∀ (t : List UInt8) (x : Nat), x < 4294967296 → crcFold x t < 4294967296
  | [], x, h => h
  | c :: t, x, h => crcFold_lt t _ (crcByte_lt x c.toNat h c.toNat_lt)
theorem crcMore_lt (s : Nat) (t : List UInt8) (hs : s < 4294967296) : crcMore s t < 4294967296 :=
  Nat.xor_lt_two_pow (n := 32) (crcFold_lt t _ (Nat.xor_lt_two_pow (n := 32) hs (by omega))) (by omega)

theorem sSumByte_loop : ∀ (n i x : Nat), x < 4294967296 → i ≤ 8 → 8 < i + n →
    (vLoop E_sSumByte noInl (sg [pI, pI] [rI]) Try.f175 [.r, .r, .l, .r, .b] n (H_sSumByte x i)).eval = some [.int .i64 (crcIter (8 - i) x : Nat)] := by
  intro n
  induction n with
  | zero => intro i x hx h1 h2; omega
  | succ n ih =>
    intro i x hx h1 h2
    rw [vLoop_L _ _ _ _ _ _ _ (by kernel_rfl), sSumByte_round0]
    by_cases hi : i < 8
    · have e := ih (i + 1) (crcStep x) (crcStep_lt x hx) (by omega) (by omega)
      have hs : 8 - i = (8 - (i + 1)) + 1 := by omega
      have w : IntKind.i64.wrap ((i : Int) + 1) = ((i + 1 : Nat) : Int) := by rw [wrap64] <;> omega
      have hi' : (i : Int) < 8 := by omega
      have d : (x : Int) / 2 = ((x / 2 : Nat) : Int) := by omega
      have m : (x : Int) % 2 = ((x % 2 : Nat) : Int) := by omega
      have hx2 : ixor .i64 ((x / 2 : Nat) : Int) 2197175160 = ((x / 2 ^^^ 2197175160 : Nat) : Int) := ixor64_nat (x / 2) 2197175160 (by omega) (by omega)
      rw [hs]
      simp only [crcIter]
      rw [← e]
      simp only [eval_must', eval_ask', eval_ret', if_true, decide_eq_true_eq, w, hi', iand_one, ishr_one, d, m, hx2]
      unfold crcStep
      by_cases ho : x % 2 = 1
      · simp [ho]
      · simp only [ho, if_false]; rw [if_neg (by omega)]
    · have : i = 8 := by omega
      subst this
      simp [eval_must', eval_ask', eval_ret', crcIter]
theorem sSumByte_E : EnvSound Try.prog E_sSumByte := mkE_sound (by simp [])
theorem sSumByte_sound : Sound Try.prog 175 (sg [pI, pI] [rI]) sumByteSpec := vBody_sound sSumByte_E noInl_ok Try.func175 (by kernel_rfl) fun cs outs hk h => by
  unfold sumByteSpec at h
  split at h
  · simp only [Option.some.injEq, Prod.mk.injEq, true_and] at h
    rename_i s b
    rw [← h, vBody_L, sSumByte_tree]
    have e : b % 256 = ((b % 256).toNat : Int) := by omega
    have hb : (b % 256).toNat < 256 := by omega
    simp only [eval_must', if_true, iand32, iand255]
    rw [e, ixor64_nat _ _ (low32_lt s) (by omega)]
    exact sSumByte_loop _ 0 _ (Nat.xor_lt_two_pow (n := 32) (low32_lt s) (by omega)) (by omega) (by omega)
  · cases h

theorem iSumByte32_loop : ∀ (n i x : Nat), x < 4294967296 → i ≤ 8 → 8 < i + n →
    (vLoop E_iSumByte32 noInl (sg [pU32, pU8] [rU32]) Try.f174 [.r, .r, .l, .r, .b] n (H_iSumByte32 x i)).eval = some [.int .u32 (crcIter (8 - i) x : Nat)] := by
  intro n
  induction n with
  | zero => intro i x hx h1 h2; omega
  | succ n ih =>
    intro i x hx h1 h2
    rw [vLoop_L _ _ _ _ _ _ _ (by kernel_rfl), iSumByte32_round0]
    by_cases hi : i < 8
    · have e := ih (i + 1) (crcStep x) (crcStep_lt x hx) (by omega) (by omega)
      have hs : 8 - i = (8 - (i + 1)) + 1 := by omega
      have w : IntKind.i64.wrap ((i : Int) + 1) = ((i + 1 : Nat) : Int) := by rw [wrap64] <;> omega
      have hi' : (i : Int) < 8 := by omega
      have d : (x : Int) / 2 = ((x / 2 : Nat) : Int) := by omega
      have m : (x : Int) % 2 = ((x % 2 : Nat) : Int) := by omega
      have hx2 : ixor .u32 ((x / 2 : Nat) : Int) 2197175160 = ((x / 2 ^^^ 2197175160 : Nat) : Int) := ixor32_nat (x / 2) 2197175160 (by omega) (by omega)
      rw [hs]
      simp only [crcIter]
      rw [← e]
      simp only [eval_must', eval_ask', eval_ret', if_true, decide_eq_true_eq, w, hi', iand32_one, ishr32_one, d, m, hx2]
      unfold crcStep
      by_cases ho : x % 2 = 1
      · simp [ho]
      · simp only [ho, if_false]; rw [if_neg (by omega)]
    · have : i = 8 := by omega
      subst this
      simp [eval_must', eval_ask', eval_ret', crcIter]
theorem iSumByte32_E : EnvSound Try.prog E_iSumByte32 := mkE_sound (by simp [])
theorem iSumByte32_sound : Sound Try.prog 174 (sg [pU32, pU8] [rU32]) sumByte32Spec := vBody_sound iSumByte32_E noInl_ok Try.func174 (by kernel_rfl) fun cs outs hk h => by
  unfold sumByte32Spec at h
  split at h
  · simp only [Option.some.injEq, Prod.mk.injEq, Bool.and_eq_true, decide_eq_true_eq] at h
    obtain ⟨⟨⟨h1, h2⟩, h3, h4⟩, rfl⟩ := h
    rename_i s b
    obtain ⟨s, rfl⟩ := Int.eq_ofNat_of_zero_le h1
    obtain ⟨b, rfl⟩ := Int.eq_ofNat_of_zero_le h3
    rw [vBody_L, iSumByte32_tree]
    simp only [eval_must', if_true, Int.toNat_natCast]
    rw [wrapU32 (by omega) (by omega), ixor32_nat _ _ (by omega) (by omega)]
    exact iSumByte32_loop _ 0 _ (Nat.xor_lt_two_pow (n := 32) (by omega) (by omega)) (by omega) (by omega)
  · cases h

theorem drop_step (t : List UInt8) (i : Nat) (h : i < t.length) : t.drop i = t.getD i 0 :: t.drop (i + 1) := by
  rw [List.drop_eq_getElem_cons h]; simp [List.getD_eq_getElem?_getD, h]
theorem sSumMore_loop (t : List UInt8) (ht : t.length ≤ 281474976710656) : ∀ (n i x : Nat), x < 4294967296 → i ≤ t.length → t.length < i + n →
    (vLoop E_sSumMore noInl (sg [pI, pS] [rI]) Try.f156 [.r, .r, .l, .r, .b] n (H_sSumMore t x i)).eval = some [.int .i64 (crcFold x (t.drop i) ^^^ 4294967295 : Nat)] := by
  intro n
  induction n with
  | zero => intro i x hx h1 h2; omega
  | succ n ih =>
    intro i x hx h1 h2
    rw [vLoop_L _ _ _ _ _ _ _ (by kernel_rfl), sSumMore_round0]
    by_cases hi : i < t.length
    · have hb := byte_lt t i
      have e := ih (i + 1) (crcByte x (t.getD i 0).toNat) (crcByte_lt _ _ hx hb) (by omega) (by omega)
      have w : IntKind.i64.wrap ((i : Int) + 1) = ((i + 1 : Nat) : Int) := by rw [wrap64] <;> omega
      have hz : (0 : Int) ≤ i := by omega
      have w2 : IntKind.i64.wrap ((t.getD i 0).toNat : Int) = ((t.getD i 0).toNat : Int) := by rw [wrap64] <;> omega
      have l1 : low32 (x : Int) = x := by unfold low32; omega
      have l2 : (((t.getD i 0).toNat : Int) % 256).toNat = (t.getD i 0).toNat := by omega
      rw [drop_step t i hi]
      simp only [crcFold, List.foldl_cons] at e ⊢
      simp only [eval_must', eval_ask', eval_ret', if_true, decide_eq_true_eq, Bool.and_eq_true, w, hz, Int.toNat_natCast, Int.ofNat_lt, hi, and_self, w2, l1, l2]
      exact e
    · have : i = t.length := by omega
      subst this
      have hx2 : ixor .i64 (x : Int) 4294967295 = ((x ^^^ 4294967295 : Nat) : Int) := ixor64_nat x 4294967295 hx (by omega)
      simp [eval_must', eval_ask', eval_ret', crcFold, hx2]
theorem sSumMore_E : EnvSound Try.prog E_sSumMore := mkE_sound (by simp [sSumByte_sound])
theorem sSumMore_sound : Sound Try.prog 156 (sg [pI, pS] [rI]) sumMoreSpec := vBody_sound sSumMore_E noInl_ok Try.func156 (by kernel_rfl) fun cs outs hk h => by
  unfold sumMoreSpec at h
  split at h
  · simp only [Option.some.injEq, Prod.mk.injEq, decide_eq_true_eq] at h
    obtain ⟨h1, rfl⟩ := h
    rename_i s t
    rw [vBody_L, sSumMore_tree]
    have hx2 : ixor .i64 (low32 s : Int) 4294967295 = ((low32 s ^^^ 4294967295 : Nat) : Int) := ixor64_nat _ 4294967295 (low32_lt s) (by omega)
    simp only [eval_must', if_true, iand32, hx2]
    exact sSumMore_loop t h1 _ 0 _ (Nat.xor_lt_two_pow (n := 32) (low32_lt s) (by omega)) (by omega) (by omega)
  · cases h
theorem iSumMore_loop (t : List UInt8) (ht : t.length ≤ 281474976710656) : ∀ (n i x : Nat), x < 4294967296 → i ≤ t.length → t.length < i + n →
    (vLoop E_iSumMore noInl (sg [pI, pS] [rI]) Try.f155 [.r, .r, .l, .r, .b] n (H_iSumMore t x t.length i)).eval = some [.int .i64 (crcFold x (t.drop i) ^^^ 4294967295 : Nat)] := by
  intro n
  induction n with
  | zero => intro i x hx h1 h2; omega
  | succ n ih =>
    intro i x hx h1 h2
    rw [vLoop_L _ _ _ _ _ _ _ (by kernel_rfl), iSumMore_round0]
    by_cases hi : i < t.length
    · have hb := byte_lt t i
      have e := ih (i + 1) (crcByte x (t.getD i 0).toNat) (crcByte_lt _ _ hx hb) (by omega) (by omega)
      have w : IntKind.i64.wrap ((i : Int) + 1) = ((i + 1 : Nat) : Int) := by rw [wrap64] <;> omega
      have hz : (0 : Int) ≤ i := by omega
      have hx1 : (0 : Int) ≤ x := by omega
      have hx2 : (x : Int) ≤ 4294967295 := by omega
      have hb1 : (0 : Int) ≤ ((t.getD i 0).toNat : Int) := by omega
      have hb2 : ((t.getD i 0).toNat : Int) ≤ 255 := by omega
      rw [drop_step t i hi]
      simp only [crcFold, List.foldl_cons] at e ⊢
      simp only [eval_must', eval_ask', eval_ret', if_true, decide_eq_true_eq, Bool.and_eq_true, w, hz, Int.toNat_natCast, Int.ofNat_lt, hi, and_self, hx1, hx2, hb1, hb2]
      exact e
    · have : i = t.length := by omega
      subst this
      have hx2 : ixor .u32 (x : Int) 4294967295 = ((x ^^^ 4294967295 : Nat) : Int) := ixor32_nat x 4294967295 hx (by omega)
      have hl : x ^^^ 4294967295 < 4294967296 := Nat.xor_lt_two_pow (n := 32) hx (by omega)
      have w : IntKind.i64.wrap ((x ^^^ 4294967295 : Nat) : Int) = ((x ^^^ 4294967295 : Nat) : Int) := by rw [wrap64] <;> omega
      simp [eval_must', eval_ask', eval_ret', crcFold, hx2, w]
theorem iSumMore_E : EnvSound Try.prog E_iSumMore := mkE_sound (by simp [iSumByte32_sound])
theorem iSumMore_sound : Sound Try.prog 155 (sg [pI, pS] [rI]) sumMoreSpec := vBody_sound iSumMore_E noInl_ok Try.func155 (by kernel_rfl) fun cs outs hk h => by
  unfold sumMoreSpec at h
  split at h
  · simp only [Option.some.injEq, Prod.mk.injEq, decide_eq_true_eq] at h
    obtain ⟨h1, rfl⟩ := h
    rename_i s t
    rw [vBody_L, iSumMore_tree]
    have hx2 : ixor .u32 (low32 s : Int) 4294967295 = ((low32 s ^^^ 4294967295 : Nat) : Int) := ixor32_nat _ 4294967295 (low32_lt s) (by omega)
    simp only [eval_must', if_true, wrapU32_low, hx2]
    exact iSumMore_loop t h1 _ 0 _ (Nat.xor_lt_two_pow (n := 32) (low32_lt s) (by omega)) (by omega) (by omega)
  · cases h
theorem sSumOf_E : EnvSound Try.prog E_sSumOf := mkE_sound (by simp [sSumMore_sound])
theorem sSumOf_sound : Sound Try.prog 124 (sg [pS] [rI]) sumOfSpec := vBody_sound sSumOf_E noInl_ok Try.func124 (by kernel_rfl) fun cs outs hk h => by
  unfold sumOfSpec at h
  split at h
  · simp only [Option.some.injEq, Prod.mk.injEq, decide_eq_true_eq] at h
    obtain ⟨h1, rfl⟩ := h
    rw [vBody_L, sSumOf_tree]
    simp [eval_must', eval_ret', h1]
    rfl
  · cases h
theorem iSumOf_E : EnvSound Try.prog E_iSumOf := mkE_sound (by simp [iSumMore_sound])
theorem iSumOf_sound : Sound Try.prog 119 (sg [pS] [rI]) sumOfSpec := vBody_sound iSumOf_E noInl_ok Try.func119 (by kernel_rfl) fun cs outs hk h => by
  unfold sumOfSpec at h
  split at h
  · simp only [Option.some.injEq, Prod.mk.injEq, decide_eq_true_eq] at h
    obtain ⟨h1, rfl⟩ := h
    rw [vBody_L, iSumOf_tree]
    simp [eval_must', eval_ret', h1]
    rfl
  · cases h

end Go.Proofs.Ythpamcbipmkimaa.V
