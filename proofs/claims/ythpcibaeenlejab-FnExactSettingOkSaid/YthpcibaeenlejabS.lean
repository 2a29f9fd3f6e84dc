/- Functions of the given program and of its reference: what each returns, as an equation over data; by the interpreter. -/
import Derived.Test.YthpcibaeenlejabVG
import Derived.Test.YthpcibaeenlejabProg
import Derived.KernelRfl
set_option linter.unusedVariables false
set_option linter.unusedSimpArgs false
set_option linter.unusedSectionVars false
namespace Go.Proofs.Ythpcibaeenlejab.V
noncomputable section
def tyTab : List (TypeId × TI) := [(2, ⟨false, [.int .i64], [], 8, false⟩),
  (3, ⟨false, [.int .i64], [], 8, false⟩),
  (4, ⟨false, [.bool], [], 1, false⟩),
  (5, ⟨false, [.int .u8], [], 1, false⟩),
  (6, ⟨false, [.int .u8], [], 1, false⟩),
  (7, ⟨true, [.int .i64, .int .i64, .bool, .int .u8], [(0, 2), (1, 3), (2, 4), (3, 6)], 24, false⟩),
  (8, ⟨true, [.int .i64, .int .i64, .bool, .int .u8], [(0, 2), (1, 3), (2, 4), (3, 6)], 24, false⟩),
  (9, ⟨false, [.str], [], 16, false⟩),
  (10, ⟨false, [.str], [], 16, false⟩),
  (11, ⟨false, [.str], [], 16, false⟩),
  (12, ⟨false, [.int .u64], [], 8, false⟩),
  (13, ⟨true, [.str, .int .u64], [(0, 9), (1, 12)], 24, false⟩),
  (14, ⟨true, [.str, .int .u64], [(0, 9), (1, 12)], 24, false⟩),
  (21, ⟨false, [.int .i32], [], 4, false⟩),
  (22, ⟨true, [.int .i64, .int .i64, .int .i64, .int .i64], [(0, 3), (1, 3), (2, 3), (3, 3)], 32, false⟩),
  (23, ⟨true, [.int .i64, .int .i64, .int .i64, .int .i64], [(0, 3), (1, 3), (2, 3), (3, 3)], 32, true⟩),
  (25, ⟨true, [.int .i64, .int .i64, .int .i64, .int .i64], [(0, 3), (1, 3), (2, 3), (3, 3)], 32, true⟩),
  (28, ⟨false, [.slice 3], [], 24, false⟩),
  (29, ⟨true, [.int .i64, .int .i64, .int .i64, .int .i64, .int .i64, .slice 3, .int .i64, .bool, .int .i64], [(0, 3), (1, 3), (2, 3), (3, 3), (4, 3), (5, 28), (6, 3), (7, 4), (8, 3)], 88, false⟩),
  (30, ⟨true, [.int .i64, .int .i64, .int .i64, .int .i64, .int .i64, .slice 3, .int .i64, .bool, .int .i64], [(0, 3), (1, 3), (2, 3), (3, 3), (4, 3), (5, 28), (6, 3), (7, 4), (8, 3)], 88, false⟩),
  (42, ⟨false, [.int .u32], [], 4, false⟩),
  (43, ⟨false, [.int .u8], [], 1, false⟩),
  (44, ⟨false, [.int .u8], [], 1, false⟩),
  (47, ⟨false, [.int .i32], [], 4, false⟩),
  (48, ⟨false, [.int .i32], [], 4, false⟩),
  (53, ⟨true, [.int .i64, .int .i64, .int .i64, .int .i64], [(0, 3), (1, 3), (2, 3), (3, 3)], 32, false⟩),
  (54, ⟨true, [.int .i64, .int .i64, .int .i64, .int .i64], [(0, 3), (1, 3), (2, 3), (3, 3)], 32, true⟩)]
abbrev Laws := List (FuncId × Sig × Spec)
def mkE (lv : List (Nat × List Nat)) (gs : Laws) : Env := { Ty := tyOf tyTab, Γ := fun g => gs.lookup g, inl := fun _ => none, lv := fun h => (lv.lookup h).getD [], ren := true, fuel := 9223372036854775808, nt := 0 }
abbrev pI : PTy := .val false [.int .i64]
abbrev pU8 : PTy := .val false [.int .u8]
abbrev pU32 : PTy := .val false [.int .u32]
abbrev pS : PTy := .val false [.str]
abbrev pB : PTy := .val false [.bool]
abbrev rI : RTy := ⟨false, [(.int .i64, false)]⟩
abbrev rU8 : RTy := ⟨false, [(.int .u8, false)]⟩
abbrev rU32 : RTy := ⟨false, [(.int .u32, false)]⟩
abbrev rB : RTy := ⟨false, [(.bool, false)]⟩
abbrev rS : RTy := ⟨false, [(.str, false)]⟩
abbrev sg (ps : List PTy) (rs : List RTy) : Sig := ⟨ps, rs, false⟩
abbrev int64 (n : Int) : W := .l (.i .i64 n)
abbrev wstr (s : List UInt8) : W := .l (.s s)
abbrev st0 (slots : List (Nat × W)) : St := { slots, heap := [], next := 0, pins := [] }
abbrev st1 (slots : List (Nat × W)) (sz : Nat) (rows : List (List C)) : St := { slots, heap := [(0, .arr sz rows)], next := 1, pins := [] }
theorem tyTab_ok : (tyTab.all fun p => tyB Try.prog p.1 p.2) = true := by kernel_rfl
theorem mkE_sound {lv : List (Nat × List Nat)} {gs : Laws} (h : ∀ p, p ∈ gs → Sound Try.prog p.1 p.2.1 p.2.2) : EnvSound Try.prog (mkE lv gs) :=
  ⟨⟨(tys_ok tyTab_ok).1, fun g fn h => (by cases h)⟩, fun g sig spec hl => h (g, sig, spec) (lookup_mem hl), fun g fn h => (by cases h), by kernel_rfl⟩
def E0 : Env := mkE [] []
theorem E0_sound : EnvSound Try.prog E0 := mkE_sound (by simp)
end
end Go.Proofs.Ythpcibaeenlejab.V

namespace Go.Proofs.Ythpcibaeenlejab.V
noncomputable section

def inB (n lo hi : Int) : Bool := decide (lo ≤ n) && decide (n ≤ hi)
def inSpec : Spec := fun cs => match cs with
  | [.int .i64 n, .int .i64 lo, .int .i64 hi] => some (true, [.bool (inB n lo hi)])
  | _ => none
def E_sIn : Env := mkE [] []
def E_iIn : Env := mkE [] []

def isVersionSpec : Spec := fun cs => match cs with
  | [.int .i64 n] => some (true, [.bool (inB n 1 2)])
  | _ => none
def E_iIsVersion : Env := mkE [] []

def newOk (v s r : Int) : Bool := inB v 1 2 && inB s 1 20 && inB r 1 50
def sel (b : Bool) (x : Int) : Int := if b then x else 0
def writerNewSpec : Spec := fun cs => match cs with
  | [.int .i64 v, .int .i64 s, .int .i64 r] => some (true, [.int .i64 (sel (newOk v s r) v), .int .i64 (sel (newOk v s r) s), .int .i64 (sel (newOk v s r) r), .int .i64 0, .int .i64 0, .sl [], .int .i64 0, .bool false, .int .i64 0, .bool (newOk v s r)])
  | _ => none
def rWriter : RTy := ⟨true, [(.int .i64, false), (.int .i64, false), (.int .i64, false), (.int .i64, false), (.int .i64, false), (.slice 28, true), (.int .i64, false), (.bool, false), (.int .i64, false)]⟩
def E_sWriterNew : Env := mkE [] [(8, (sg [pI, pI, pI] [rB]), inSpec)]
def E_iWriterNew : Env := mkE [] [(10, (sg [pI, pI, pI] [rB]), inSpec), (11, (sg [pI] [rB]), isVersionSpec)]

def settingOk (room v s r : Int) : Bool := newOk v s r && inB room 0 20000
def settingSpec : Spec := fun cs => match cs with
  | [.int .i64 room, .int .i64 v, .int .i64 s, .int .i64 r] => some (true, [.bool (settingOk room v s r)])
  | _ => none
def pSetting : PTy := .val true [.int .i64, .int .i64, .int .i64, .int .i64]
def E_sSettingOk : Env := mkE [] [(8, (sg [pI, pI, pI] [rB]), inSpec), (7, (sg [pI, pI, pI] [rWriter, rB]), writerNewSpec)]
def E_iSettingOk : Env := mkE [] [(10, (sg [pI, pI, pI] [rB]), inSpec), (9, (sg [pI, pI, pI] [rWriter, rB]), writerNewSpec)]

def toSettingSpec : Spec := fun cs => match cs with
  | [.int .i64 a, .int .i64 v, .int .i64 s, .int .i64 r] => some (true, [.int .i64 a, .int .i64 v, .int .i64 s, .int .i64 r])
  | _ => none
def E_toSetting : Env := mkE [] []

def settingLaw : Spec := fun cs => match cs with
  | [.int .i64 _, .int .i64 _, .int .i64 _, .int .i64 _] => some (true, [.bool true])
  | _ => none
def E_lSettingOk : Env := mkE [] [(4, (sg [pSetting] [rB]), settingSpec), (6, (sg [pSetting] [rB]), settingSpec), (5, (sg [pSetting] [⟨true, [(.int .i64, false), (.int .i64, false), (.int .i64, false), (.int .i64, false)]⟩]), toSettingSpec)]

end
end Go.Proofs.Ythpcibaeenlejab.V

namespace Go.Proofs.Ythpcibaeenlejab.V
set_option maxRecDepth 100000
theorem sIn_tree (H : List Pt → Nat → St → T (List C)) (n : Int) (a : Int) (b : Int) : vBodyL E_sIn (0 : Nat) (sg [pI, pI, pI] [rB]) Try.f8 H [C.int IntKind.i64 n, C.int IntKind.i64 a, C.int IntKind.i64 b] =
 (.must true
 (.ask (decide (a ≤ n))
  (.ask (decide (n ≤ b))
   (.must true
    (.ret [C.bool true]))
   (.must true
    (.ret [C.bool false])))
  (.must true
   (.ret [C.bool false])))) := by kernel_rfl
theorem iIn_tree (H : List Pt → Nat → St → T (List C)) (n : Int) (a : Int) (b : Int) : vBodyL E_iIn (0 : Nat) (sg [pI, pI, pI] [rB]) Try.f10 H [C.int IntKind.i64 n, C.int IntKind.i64 a, C.int IntKind.i64 b] =
 (.must true
 (.ask (decide (a ≤ n))
  (.ask (decide (n ≤ b))
   (.must true
    (.ret [C.bool true]))
   (.must true
    (.ret [C.bool false])))
  (.must true
   (.ret [C.bool false])))) := by kernel_rfl
theorem iIsVersion_tree (H : List Pt → Nat → St → T (List C)) (n : Int) : vBodyL E_iIsVersion (0 : Nat) (sg [pI] [rB]) Try.f11 H [C.int IntKind.i64 n] =
 (.must true
 (.ask (decide (n = (1 : Int)))
  (.must true
   (.ret [C.bool true]))
  (.ask (decide (n = (2 : Int)))
   (.must true
    (.ret [C.bool true]))
   (.must true
    (.ret [C.bool false]))))) := by kernel_rfl
theorem sWriterNew_tree (H : List Pt → Nat → St → T (List C)) (n : Int) (a : Int) (b : Int) : vBodyL E_sWriterNew (0 : Nat) (sg [pI, pI, pI] [rWriter, rB]) Try.f7 H
  [C.int IntKind.i64 n, C.int IntKind.i64 a, C.int IntKind.i64 b] =
 (.must true
 (.must true
  (.must true
   (.must true
    (.ask (inB n (1 : Int) (2 : Int))
     (.ask (!true)
      (.must true
       (.ret [C.int IntKind.i64 (0 : Int), C.int IntKind.i64 (0 : Int), C.int IntKind.i64 (0 : Int), C.int IntKind.i64 (0 : Int),
  C.int IntKind.i64 (0 : Int), C.sl [], C.int IntKind.i64 (0 : Int), C.bool false, C.int IntKind.i64 (0 : Int),
  C.bool false]))
      (.must true
       (.must true
        (.must true
         (.ask (inB a (1 : Int) (20 : Int))
          (.ask (!true)
           (.must true
            (.ret [C.int IntKind.i64 (0 : Int), C.int IntKind.i64 (0 : Int), C.int IntKind.i64 (0 : Int), C.int IntKind.i64 (0 : Int),
  C.int IntKind.i64 (0 : Int), C.sl [], C.int IntKind.i64 (0 : Int), C.bool false, C.int IntKind.i64 (0 : Int),
  C.bool false]))
           (.must true
            (.must true
             (.must true
              (.ask (inB b (1 : Int) (50 : Int))
               (.ask (!true)
                (.must true
                 (.ret [C.int IntKind.i64 (0 : Int), C.int IntKind.i64 (0 : Int), C.int IntKind.i64 (0 : Int), C.int IntKind.i64 (0 : Int),
  C.int IntKind.i64 (0 : Int), C.sl [], C.int IntKind.i64 (0 : Int), C.bool false, C.int IntKind.i64 (0 : Int),
  C.bool false]))
                (.must true
                 (.ret [C.int IntKind.i64 n, C.int IntKind.i64 a, C.int IntKind.i64 b, C.int IntKind.i64 (0 : Int),
  C.int IntKind.i64 (0 : Int), C.sl [], C.int IntKind.i64 (0 : Int), C.bool false, C.int IntKind.i64 (0 : Int),
  C.bool true])))
               (.ask true
                (.must true
                 (.ret [C.int IntKind.i64 (0 : Int), C.int IntKind.i64 (0 : Int), C.int IntKind.i64 (0 : Int), C.int IntKind.i64 (0 : Int),
  C.int IntKind.i64 (0 : Int), C.sl [], C.int IntKind.i64 (0 : Int), C.bool false, C.int IntKind.i64 (0 : Int),
  C.bool false]))
                (.must true
                 (.ret [C.int IntKind.i64 n, C.int IntKind.i64 a, C.int IntKind.i64 b, C.int IntKind.i64 (0 : Int),
  C.int IntKind.i64 (0 : Int), C.sl [], C.int IntKind.i64 (0 : Int), C.bool false, C.int IntKind.i64 (0 : Int),
  C.bool true]))))))))
          (.ask true
           (.must true
            (.ret [C.int IntKind.i64 (0 : Int), C.int IntKind.i64 (0 : Int), C.int IntKind.i64 (0 : Int), C.int IntKind.i64 (0 : Int),
  C.int IntKind.i64 (0 : Int), C.sl [], C.int IntKind.i64 (0 : Int), C.bool false, C.int IntKind.i64 (0 : Int),
  C.bool false]))
           (.must true
            (.must true
             (.must true
              (.ask (inB b (1 : Int) (50 : Int))
               (.ask (!true)
                (.must true
                 (.ret [C.int IntKind.i64 (0 : Int), C.int IntKind.i64 (0 : Int), C.int IntKind.i64 (0 : Int), C.int IntKind.i64 (0 : Int),
  C.int IntKind.i64 (0 : Int), C.sl [], C.int IntKind.i64 (0 : Int), C.bool false, C.int IntKind.i64 (0 : Int),
  C.bool false]))
                (.must true
                 (.ret [C.int IntKind.i64 n, C.int IntKind.i64 a, C.int IntKind.i64 b, C.int IntKind.i64 (0 : Int),
  C.int IntKind.i64 (0 : Int), C.sl [], C.int IntKind.i64 (0 : Int), C.bool false, C.int IntKind.i64 (0 : Int),
  C.bool true])))
               (.ask true
                (.must true
                 (.ret [C.int IntKind.i64 (0 : Int), C.int IntKind.i64 (0 : Int), C.int IntKind.i64 (0 : Int), C.int IntKind.i64 (0 : Int),
  C.int IntKind.i64 (0 : Int), C.sl [], C.int IntKind.i64 (0 : Int), C.bool false, C.int IntKind.i64 (0 : Int),
  C.bool false]))
                (.must true
                 (.ret [C.int IntKind.i64 n, C.int IntKind.i64 a, C.int IntKind.i64 b, C.int IntKind.i64 (0 : Int),
  C.int IntKind.i64 (0 : Int), C.sl [], C.int IntKind.i64 (0 : Int), C.bool false, C.int IntKind.i64 (0 : Int),
  C.bool true])))))))))))))
     (.ask true
      (.must true
       (.ret [C.int IntKind.i64 (0 : Int), C.int IntKind.i64 (0 : Int), C.int IntKind.i64 (0 : Int), C.int IntKind.i64 (0 : Int),
  C.int IntKind.i64 (0 : Int), C.sl [], C.int IntKind.i64 (0 : Int), C.bool false, C.int IntKind.i64 (0 : Int),
  C.bool false]))
      (.must true
       (.must true
        (.must true
         (.ask (inB a (1 : Int) (20 : Int))
          (.ask (!true)
           (.must true
            (.ret [C.int IntKind.i64 (0 : Int), C.int IntKind.i64 (0 : Int), C.int IntKind.i64 (0 : Int), C.int IntKind.i64 (0 : Int),
  C.int IntKind.i64 (0 : Int), C.sl [], C.int IntKind.i64 (0 : Int), C.bool false, C.int IntKind.i64 (0 : Int),
  C.bool false]))
           (.must true
            (.must true
             (.must true
              (.ask (inB b (1 : Int) (50 : Int))
               (.ask (!true)
                (.must true
                 (.ret [C.int IntKind.i64 (0 : Int), C.int IntKind.i64 (0 : Int), C.int IntKind.i64 (0 : Int), C.int IntKind.i64 (0 : Int),
  C.int IntKind.i64 (0 : Int), C.sl [], C.int IntKind.i64 (0 : Int), C.bool false, C.int IntKind.i64 (0 : Int),
  C.bool false]))
                (.must true
                 (.ret [C.int IntKind.i64 n, C.int IntKind.i64 a, C.int IntKind.i64 b, C.int IntKind.i64 (0 : Int),
  C.int IntKind.i64 (0 : Int), C.sl [], C.int IntKind.i64 (0 : Int), C.bool false, C.int IntKind.i64 (0 : Int),
  C.bool true])))
               (.ask true
                (.must true
                 (.ret [C.int IntKind.i64 (0 : Int), C.int IntKind.i64 (0 : Int), C.int IntKind.i64 (0 : Int), C.int IntKind.i64 (0 : Int),
  C.int IntKind.i64 (0 : Int), C.sl [], C.int IntKind.i64 (0 : Int), C.bool false, C.int IntKind.i64 (0 : Int),
  C.bool false]))
                (.must true
                 (.ret [C.int IntKind.i64 n, C.int IntKind.i64 a, C.int IntKind.i64 b, C.int IntKind.i64 (0 : Int),
  C.int IntKind.i64 (0 : Int), C.sl [], C.int IntKind.i64 (0 : Int), C.bool false, C.int IntKind.i64 (0 : Int),
  C.bool true]))))))))
          (.ask true
           (.must true
            (.ret [C.int IntKind.i64 (0 : Int), C.int IntKind.i64 (0 : Int), C.int IntKind.i64 (0 : Int), C.int IntKind.i64 (0 : Int),
  C.int IntKind.i64 (0 : Int), C.sl [], C.int IntKind.i64 (0 : Int), C.bool false, C.int IntKind.i64 (0 : Int),
  C.bool false]))
           (.must true
            (.must true
             (.must true
              (.ask (inB b (1 : Int) (50 : Int))
               (.ask (!true)
                (.must true
                 (.ret [C.int IntKind.i64 (0 : Int), C.int IntKind.i64 (0 : Int), C.int IntKind.i64 (0 : Int), C.int IntKind.i64 (0 : Int),
  C.int IntKind.i64 (0 : Int), C.sl [], C.int IntKind.i64 (0 : Int), C.bool false, C.int IntKind.i64 (0 : Int),
  C.bool false]))
                (.must true
                 (.ret [C.int IntKind.i64 n, C.int IntKind.i64 a, C.int IntKind.i64 b, C.int IntKind.i64 (0 : Int),
  C.int IntKind.i64 (0 : Int), C.sl [], C.int IntKind.i64 (0 : Int), C.bool false, C.int IntKind.i64 (0 : Int),
  C.bool true])))
               (.ask true
                (.must true
                 (.ret [C.int IntKind.i64 (0 : Int), C.int IntKind.i64 (0 : Int), C.int IntKind.i64 (0 : Int), C.int IntKind.i64 (0 : Int),
  C.int IntKind.i64 (0 : Int), C.sl [], C.int IntKind.i64 (0 : Int), C.bool false, C.int IntKind.i64 (0 : Int),
  C.bool false]))
                (.must true
                 (.ret [C.int IntKind.i64 n, C.int IntKind.i64 a, C.int IntKind.i64 b, C.int IntKind.i64 (0 : Int),
  C.int IntKind.i64 (0 : Int), C.sl [], C.int IntKind.i64 (0 : Int), C.bool false, C.int IntKind.i64 (0 : Int),
  C.bool true])))))))))))))))))) := by kernel_rfl
theorem iWriterNew_tree (H : List Pt → Nat → St → T (List C)) (n : Int) (a : Int) (b : Int) : vBodyL E_iWriterNew (0 : Nat) (sg [pI, pI, pI] [rWriter, rB]) Try.f9 H
  [C.int IntKind.i64 n, C.int IntKind.i64 a, C.int IntKind.i64 b] =
 (.must true
 (.must true
  (.must true
   (.must true
    (.ask (inB n (1 : Int) (2 : Int))
     (.ask (!true)
      (.must true
       (.ret [C.int IntKind.i64 (0 : Int), C.int IntKind.i64 (0 : Int), C.int IntKind.i64 (0 : Int), C.int IntKind.i64 (0 : Int),
  C.int IntKind.i64 (0 : Int), C.sl [], C.int IntKind.i64 (0 : Int), C.bool false, C.int IntKind.i64 (0 : Int),
  C.bool false]))
      (.must true
       (.must true
        (.must true
         (.ask (inB a (1 : Int) (20 : Int))
          (.ask (!true)
           (.must true
            (.ret [C.int IntKind.i64 (0 : Int), C.int IntKind.i64 (0 : Int), C.int IntKind.i64 (0 : Int), C.int IntKind.i64 (0 : Int),
  C.int IntKind.i64 (0 : Int), C.sl [], C.int IntKind.i64 (0 : Int), C.bool false, C.int IntKind.i64 (0 : Int),
  C.bool false]))
           (.must true
            (.must true
             (.must true
              (.ask (inB b (1 : Int) (50 : Int))
               (.ask (!true)
                (.must true
                 (.ret [C.int IntKind.i64 (0 : Int), C.int IntKind.i64 (0 : Int), C.int IntKind.i64 (0 : Int), C.int IntKind.i64 (0 : Int),
  C.int IntKind.i64 (0 : Int), C.sl [], C.int IntKind.i64 (0 : Int), C.bool false, C.int IntKind.i64 (0 : Int),
  C.bool false]))
                (.must true
                 (.ret [C.int IntKind.i64 n, C.int IntKind.i64 a, C.int IntKind.i64 b, C.int IntKind.i64 (0 : Int),
  C.int IntKind.i64 (0 : Int), C.sl [], C.int IntKind.i64 (0 : Int), C.bool false, C.int IntKind.i64 (0 : Int),
  C.bool true])))
               (.ask true
                (.must true
                 (.ret [C.int IntKind.i64 (0 : Int), C.int IntKind.i64 (0 : Int), C.int IntKind.i64 (0 : Int), C.int IntKind.i64 (0 : Int),
  C.int IntKind.i64 (0 : Int), C.sl [], C.int IntKind.i64 (0 : Int), C.bool false, C.int IntKind.i64 (0 : Int),
  C.bool false]))
                (.must true
                 (.ret [C.int IntKind.i64 n, C.int IntKind.i64 a, C.int IntKind.i64 b, C.int IntKind.i64 (0 : Int),
  C.int IntKind.i64 (0 : Int), C.sl [], C.int IntKind.i64 (0 : Int), C.bool false, C.int IntKind.i64 (0 : Int),
  C.bool true]))))))))
          (.ask true
           (.must true
            (.ret [C.int IntKind.i64 (0 : Int), C.int IntKind.i64 (0 : Int), C.int IntKind.i64 (0 : Int), C.int IntKind.i64 (0 : Int),
  C.int IntKind.i64 (0 : Int), C.sl [], C.int IntKind.i64 (0 : Int), C.bool false, C.int IntKind.i64 (0 : Int),
  C.bool false]))
           (.must true
            (.must true
             (.must true
              (.ask (inB b (1 : Int) (50 : Int))
               (.ask (!true)
                (.must true
                 (.ret [C.int IntKind.i64 (0 : Int), C.int IntKind.i64 (0 : Int), C.int IntKind.i64 (0 : Int), C.int IntKind.i64 (0 : Int),
  C.int IntKind.i64 (0 : Int), C.sl [], C.int IntKind.i64 (0 : Int), C.bool false, C.int IntKind.i64 (0 : Int),
  C.bool false]))
                (.must true
                 (.ret [C.int IntKind.i64 n, C.int IntKind.i64 a, C.int IntKind.i64 b, C.int IntKind.i64 (0 : Int),
  C.int IntKind.i64 (0 : Int), C.sl [], C.int IntKind.i64 (0 : Int), C.bool false, C.int IntKind.i64 (0 : Int),
  C.bool true])))
               (.ask true
                (.must true
                 (.ret [C.int IntKind.i64 (0 : Int), C.int IntKind.i64 (0 : Int), C.int IntKind.i64 (0 : Int), C.int IntKind.i64 (0 : Int),
  C.int IntKind.i64 (0 : Int), C.sl [], C.int IntKind.i64 (0 : Int), C.bool false, C.int IntKind.i64 (0 : Int),
  C.bool false]))
                (.must true
                 (.ret [C.int IntKind.i64 n, C.int IntKind.i64 a, C.int IntKind.i64 b, C.int IntKind.i64 (0 : Int),
  C.int IntKind.i64 (0 : Int), C.sl [], C.int IntKind.i64 (0 : Int), C.bool false, C.int IntKind.i64 (0 : Int),
  C.bool true])))))))))))))
     (.ask true
      (.must true
       (.ret [C.int IntKind.i64 (0 : Int), C.int IntKind.i64 (0 : Int), C.int IntKind.i64 (0 : Int), C.int IntKind.i64 (0 : Int),
  C.int IntKind.i64 (0 : Int), C.sl [], C.int IntKind.i64 (0 : Int), C.bool false, C.int IntKind.i64 (0 : Int),
  C.bool false]))
      (.must true
       (.must true
        (.must true
         (.ask (inB a (1 : Int) (20 : Int))
          (.ask (!true)
           (.must true
            (.ret [C.int IntKind.i64 (0 : Int), C.int IntKind.i64 (0 : Int), C.int IntKind.i64 (0 : Int), C.int IntKind.i64 (0 : Int),
  C.int IntKind.i64 (0 : Int), C.sl [], C.int IntKind.i64 (0 : Int), C.bool false, C.int IntKind.i64 (0 : Int),
  C.bool false]))
           (.must true
            (.must true
             (.must true
              (.ask (inB b (1 : Int) (50 : Int))
               (.ask (!true)
                (.must true
                 (.ret [C.int IntKind.i64 (0 : Int), C.int IntKind.i64 (0 : Int), C.int IntKind.i64 (0 : Int), C.int IntKind.i64 (0 : Int),
  C.int IntKind.i64 (0 : Int), C.sl [], C.int IntKind.i64 (0 : Int), C.bool false, C.int IntKind.i64 (0 : Int),
  C.bool false]))
                (.must true
                 (.ret [C.int IntKind.i64 n, C.int IntKind.i64 a, C.int IntKind.i64 b, C.int IntKind.i64 (0 : Int),
  C.int IntKind.i64 (0 : Int), C.sl [], C.int IntKind.i64 (0 : Int), C.bool false, C.int IntKind.i64 (0 : Int),
  C.bool true])))
               (.ask true
                (.must true
                 (.ret [C.int IntKind.i64 (0 : Int), C.int IntKind.i64 (0 : Int), C.int IntKind.i64 (0 : Int), C.int IntKind.i64 (0 : Int),
  C.int IntKind.i64 (0 : Int), C.sl [], C.int IntKind.i64 (0 : Int), C.bool false, C.int IntKind.i64 (0 : Int),
  C.bool false]))
                (.must true
                 (.ret [C.int IntKind.i64 n, C.int IntKind.i64 a, C.int IntKind.i64 b, C.int IntKind.i64 (0 : Int),
  C.int IntKind.i64 (0 : Int), C.sl [], C.int IntKind.i64 (0 : Int), C.bool false, C.int IntKind.i64 (0 : Int),
  C.bool true]))))))))
          (.ask true
           (.must true
            (.ret [C.int IntKind.i64 (0 : Int), C.int IntKind.i64 (0 : Int), C.int IntKind.i64 (0 : Int), C.int IntKind.i64 (0 : Int),
  C.int IntKind.i64 (0 : Int), C.sl [], C.int IntKind.i64 (0 : Int), C.bool false, C.int IntKind.i64 (0 : Int),
  C.bool false]))
           (.must true
            (.must true
             (.must true
              (.ask (inB b (1 : Int) (50 : Int))
               (.ask (!true)
                (.must true
                 (.ret [C.int IntKind.i64 (0 : Int), C.int IntKind.i64 (0 : Int), C.int IntKind.i64 (0 : Int), C.int IntKind.i64 (0 : Int),
  C.int IntKind.i64 (0 : Int), C.sl [], C.int IntKind.i64 (0 : Int), C.bool false, C.int IntKind.i64 (0 : Int),
  C.bool false]))
                (.must true
                 (.ret [C.int IntKind.i64 n, C.int IntKind.i64 a, C.int IntKind.i64 b, C.int IntKind.i64 (0 : Int),
  C.int IntKind.i64 (0 : Int), C.sl [], C.int IntKind.i64 (0 : Int), C.bool false, C.int IntKind.i64 (0 : Int),
  C.bool true])))
               (.ask true
                (.must true
                 (.ret [C.int IntKind.i64 (0 : Int), C.int IntKind.i64 (0 : Int), C.int IntKind.i64 (0 : Int), C.int IntKind.i64 (0 : Int),
  C.int IntKind.i64 (0 : Int), C.sl [], C.int IntKind.i64 (0 : Int), C.bool false, C.int IntKind.i64 (0 : Int),
  C.bool false]))
                (.must true
                 (.ret [C.int IntKind.i64 n, C.int IntKind.i64 a, C.int IntKind.i64 b, C.int IntKind.i64 (0 : Int),
  C.int IntKind.i64 (0 : Int), C.sl [], C.int IntKind.i64 (0 : Int), C.bool false, C.int IntKind.i64 (0 : Int),
  C.bool true])))))))))))))))))) := by kernel_rfl
theorem sSettingOk_tree (H : List Pt → Nat → St → T (List C)) (a : Int) (v : Int) (s : Int) (r : Int) : vBodyL E_sSettingOk (0 : Nat) (sg [pSetting] [rB]) Try.f4 H
  [C.int IntKind.i64 a, C.int IntKind.i64 v, C.int IntKind.i64 s, C.int IntKind.i64 r] =
 (.must true
 (.must true
  (.must true
   (.must true
    (.ask (newOk v s r)
     (.must true
      (.must true
       (.must true
        (.ask (inB a (0 : Int) (20000 : Int))
         (.must true
          (.ret [C.bool true]))
         (.must true
          (.ret [C.bool false]))))))
     (.must true
      (.ret [C.bool false]))))))) := by kernel_rfl
theorem iSettingOk_tree (H : List Pt → Nat → St → T (List C)) (a : Int) (v : Int) (s : Int) (r : Int) : vBodyL E_iSettingOk (0 : Nat) (sg [pSetting] [rB]) Try.f6 H
  [C.int IntKind.i64 a, C.int IntKind.i64 v, C.int IntKind.i64 s, C.int IntKind.i64 r] =
 (.must true
 (.must true
  (.must true
   (.must true
    (.ask (newOk v s r)
     (.must true
      (.must true
       (.must true
        (.ask (inB a (0 : Int) (20000 : Int))
         (.must true
          (.ret [C.bool true]))
         (.must true
          (.ret [C.bool false]))))))
     (.must true
      (.ret [C.bool false]))))))) := by kernel_rfl
theorem toSetting_tree (H : List Pt → Nat → St → T (List C)) (a : Int) (v : Int) (s : Int) (r : Int) : vBodyL E_toSetting (0 : Nat)
  (sg [pSetting]
    [{ agg := true,
        ls :=
          [(K.int IntKind.i64, false), (K.int IntKind.i64, false), (K.int IntKind.i64, false),
            (K.int IntKind.i64, false)] }])
  Try.f5 H [C.int IntKind.i64 a, C.int IntKind.i64 v, C.int IntKind.i64 s, C.int IntKind.i64 r] =
 (.must true
 (.must true
  (.ret [C.int IntKind.i64 a, C.int IntKind.i64 v, C.int IntKind.i64 s, C.int IntKind.i64 r]))) := by kernel_rfl
theorem lSettingOk_tree (H : List Pt → Nat → St → T (List C)) (a : Int) (v : Int) (s : Int) (r : Int) : vBodyL E_lSettingOk (0 : Nat) (sg [pSetting] [rB]) Try.f3 H
  [C.int IntKind.i64 a, C.int IntKind.i64 v, C.int IntKind.i64 s, C.int IntKind.i64 r] =
 (.must true
 (.must true
  (.must true
   (.must true
    (.must true
     (.must true
      (.must true
       (.ask (settingOk a v s r)
        (.must true
         (.must true
          (.must true
           (.must true
            (.must true
             (.must true
              (.ask (settingOk a v s r)
               (.ask (!true)
                (.must true
                 (.ret [C.bool false]))
                (.must true
                 (.ret [C.bool true])))
               (.ask true
                (.must true
                 (.ret [C.bool false]))
                (.must true
                 (.ret [C.bool true]))))))))))
        (.must true
         (.must true
          (.must true
           (.must true
            (.must true
             (.must true
              (.ask (settingOk a v s r)
               (.ask true
                (.must true
                 (.ret [C.bool false]))
                (.must true
                 (.ret [C.bool true])))
               (.ask (!true)
                (.must true
                 (.ret [C.bool false]))
                (.must true
                 (.ret [C.bool true])))))))))))))))))) := by kernel_rfl
end Go.Proofs.Ythpcibaeenlejab.V

namespace Go.Proofs.Ythpcibaeenlejab.V

theorem sIn_E : EnvSound Try.prog E_sIn := mkE_sound (by simp [])
theorem sIn_sound : Sound Try.prog 8 (sg [pI, pI, pI] [rB]) inSpec := vBody_sound (depth := 0) sIn_E Try.func8 (by kernel_rfl) fun cs outs hk h => by
  unfold inSpec at h
  split at h
  · simp only [Option.some.injEq, Prod.mk.injEq, true_and] at h
    rw [← h, vBody_L, sIn_tree]
    simp only [eval_must', eval_ask', eval_ret', decide_eq_true_eq, if_true, inB]
    repeat' split
    all_goals first | rfl | (simp_all; done) | (simp_all; omega)
  · cases h
theorem iIn_E : EnvSound Try.prog E_iIn := mkE_sound (by simp [])
theorem iIn_sound : Sound Try.prog 10 (sg [pI, pI, pI] [rB]) inSpec := vBody_sound (depth := 0) iIn_E Try.func10 (by kernel_rfl) fun cs outs hk h => by
  unfold inSpec at h
  split at h
  · simp only [Option.some.injEq, Prod.mk.injEq, true_and] at h
    rw [← h, vBody_L, iIn_tree]
    simp only [eval_must', eval_ask', eval_ret', decide_eq_true_eq, if_true, inB]
    repeat' split
    all_goals first | rfl | (simp_all; done) | (simp_all; omega)
  · cases h

theorem iIsVersion_E : EnvSound Try.prog E_iIsVersion := mkE_sound (by simp [])
theorem iIsVersion_sound : Sound Try.prog 11 (sg [pI] [rB]) isVersionSpec := vBody_sound (depth := 0) iIsVersion_E Try.func11 (by kernel_rfl) fun cs outs hk h => by
  unfold isVersionSpec at h
  split at h
  · simp only [Option.some.injEq, Prod.mk.injEq, true_and] at h
    rw [← h, vBody_L, iIsVersion_tree]
    simp only [eval_must', eval_ask', eval_ret', decide_eq_true_eq, if_true, inB]
    repeat' split
    all_goals first | rfl | (simp_all; done) | (simp; omega)
  · cases h

theorem sWriterNew_E : EnvSound Try.prog E_sWriterNew := mkE_sound (by simp [sIn_sound])
theorem sWriterNew_sound : Sound Try.prog 7 (sg [pI, pI, pI] [rWriter, rB]) writerNewSpec := vBody_sound (depth := 0) sWriterNew_E Try.func7 (by kernel_rfl) fun cs outs hk h => by
  unfold writerNewSpec at h
  split at h
  · simp only [Option.some.injEq, Prod.mk.injEq, true_and] at h
    rw [← h, vBody_L, sWriterNew_tree]
    simp only [eval_must', eval_ask', eval_ret', if_true, newOk, sel]
    repeat' split
    all_goals first | rfl | simp_all
  · cases h
theorem iWriterNew_E : EnvSound Try.prog E_iWriterNew := mkE_sound (by simp [iIn_sound, iIsVersion_sound])
theorem iWriterNew_sound : Sound Try.prog 9 (sg [pI, pI, pI] [rWriter, rB]) writerNewSpec := vBody_sound (depth := 0) iWriterNew_E Try.func9 (by kernel_rfl) fun cs outs hk h => by
  unfold writerNewSpec at h
  split at h
  · simp only [Option.some.injEq, Prod.mk.injEq, true_and] at h
    rw [← h, vBody_L, iWriterNew_tree]
    simp only [eval_must', eval_ask', eval_ret', if_true, newOk, sel]
    repeat' split
    all_goals first | rfl | simp_all
  · cases h

theorem sSettingOk_E : EnvSound Try.prog E_sSettingOk := mkE_sound (by simp [sIn_sound, sWriterNew_sound])
theorem sSettingOk_sound : Sound Try.prog 4 (sg [pSetting] [rB]) settingSpec := vBody_sound (depth := 0) sSettingOk_E Try.func4 (by kernel_rfl) fun cs outs hk h => by
  unfold settingSpec at h
  split at h
  · simp only [Option.some.injEq, Prod.mk.injEq, true_and] at h
    rw [← h, vBody_L, sSettingOk_tree]
    simp only [eval_must', eval_ask', eval_ret', if_true, settingOk]
    repeat' split
    all_goals first | rfl | simp_all
  · cases h
theorem iSettingOk_E : EnvSound Try.prog E_iSettingOk := mkE_sound (by simp [iIn_sound, iWriterNew_sound])
theorem iSettingOk_sound : Sound Try.prog 6 (sg [pSetting] [rB]) settingSpec := vBody_sound (depth := 0) iSettingOk_E Try.func6 (by kernel_rfl) fun cs outs hk h => by
  unfold settingSpec at h
  split at h
  · simp only [Option.some.injEq, Prod.mk.injEq, true_and] at h
    rw [← h, vBody_L, iSettingOk_tree]
    simp only [eval_must', eval_ask', eval_ret', if_true, settingOk]
    repeat' split
    all_goals first | rfl | simp_all
  · cases h

theorem toSetting_E : EnvSound Try.prog E_toSetting := mkE_sound (by simp [])
theorem toSetting_sound : Sound Try.prog 5 (sg [pSetting] [⟨true, [(.int .i64, false), (.int .i64, false), (.int .i64, false), (.int .i64, false)]⟩]) toSettingSpec := vBody_sound (depth := 0) toSetting_E Try.func5 (by kernel_rfl) fun cs outs hk h => by
  unfold toSettingSpec at h
  split at h
  · simp only [Option.some.injEq, Prod.mk.injEq, true_and] at h
    rw [← h, vBody_L, toSetting_tree]
    simp only [eval_must', eval_ask', eval_ret', if_true]
  · cases h

theorem lSettingOk_E : EnvSound Try.prog E_lSettingOk := mkE_sound (by simp [sSettingOk_sound, iSettingOk_sound, toSetting_sound])
theorem lSettingOk_sound : Sound Try.prog 3 (sg [pSetting] [rB]) settingLaw := vBody_sound (depth := 0) lSettingOk_E Try.func3 (by kernel_rfl) fun cs outs hk h => by
  unfold settingLaw at h
  split at h
  · simp only [Option.some.injEq, Prod.mk.injEq, true_and] at h
    rw [← h, vBody_L, lSettingOk_tree]
    simp only [eval_must', eval_ask', eval_ret', if_true]
    repeat' split
    all_goals first | rfl | simp_all
  · cases h

end Go.Proofs.Ythpcibaeenlejab.V
