/- For every input the law FnExactFilesNeeded of the given program returns true, and its arguments read behind the call as before. No condition. -/
import Derived.Test.YthpcibaeenlejaaVG
import Derived.Test.YthpcibaeenlejaaRows
import Derived.WalkKit
import Derived.ProofKit
import Derived.ChangeOld
import Derived.SizedLaws
set_option linter.unusedVariables false
namespace Go.Proofs.Ythpcibaeenlejaa.V
def tyTab : List (TypeId × TI) := [(2, ⟨false, [.int .i64], [], 8, false⟩), (3, ⟨false, [.int .i64], [], 8, false⟩), (4, ⟨false, [.bool], [], 1, false⟩), (5, ⟨false, [.int .u8], [], 1, false⟩), (9, ⟨false, [.str], [], 16, false⟩)]
def E0 : Env := { Ty := tyOf tyTab, Γ := fun _ => none, inl := fun _ => none, lv := [], ren := true, fuel := 0, nt := 0 }
def ii_i : Sig := ⟨[.val false [.int .i64], .val false [.int .i64]], [⟨false, [(.int .i64, false)]⟩], false⟩
def ii_b : Sig := ⟨[.val false [.int .i64], .val false [.int .i64]], [⟨false, [(.bool, false)]⟩], false⟩
def filesOf (roll many : Int) : Int := if roll < 1 ∨ many < 1 then 0 else IntKind.i64.wrap (IntKind.i64.wrap ((IntKind.i64.wrap (many - 1)).tdiv roll) + 1)
def filesSpec : Spec := fun cs => match cs with
  | [.int .i64 roll, .int .i64 many] => some (true, [.int .i64 (filesOf roll many)])
  | _ => none
def G3 : FuncId → Option (Sig × Spec) := fun g => if g = 9 then some (ii_i, filesSpec) else if g = 10 then some (ii_i, filesSpec) else none
def E3 : Env := { Ty := tyOf tyTab, Γ := G3, inl := fun _ => none, lv := [], ren := true, fuel := 0, nt := 0 }


theorem f10_tree (roll many : Int) : vBody E0 0 ii_i Try.f10 [.int .i64 roll, .int .i64 many] =
  (.must true (.ask (decide (roll < 1)) (.must true (.ret [C.int IntKind.i64 0])) (.ask (decide (many < 1)) (.must true (.ret [C.int IntKind.i64 0]))
   (.must (decide ¬roll = 0) (.must true (.ret [C.int IntKind.i64 (IntKind.i64.wrap (IntKind.i64.wrap ((IntKind.i64.wrap (many - 1)).tdiv roll) + 1))])))))) := by kernel_rfl
theorem f3_tree (roll many : Int) : vBody E3 0 ii_b Try.f3 [.int .i64 roll, .int .i64 many] =
  (.must true (.must true (.must true (.must true (.must true (.must true (.must true (.ask (filesOf roll many != filesOf roll many) (.must true (.ret [C.bool false])) (.must true (.ret [C.bool true])))))))))) := by kernel_rfl
theorem f9_tree (roll many : Int) : vBody E0 0 ii_i Try.f9 [.int .i64 roll, .int .i64 many] =
  (.must true (.ask (decide (roll < 1)) (.must true (.ret [C.int IntKind.i64 0])) (.ask (decide (many < 1)) (.must true (.ret [C.int IntKind.i64 0]))
   (.must (decide ¬roll = 0) (.must true (.ret [C.int IntKind.i64 (IntKind.i64.wrap (IntKind.i64.wrap ((IntKind.i64.wrap (many - 1)).tdiv roll) + 1))])))))) := by kernel_rfl

theorem files_eval (roll many : Int) : (T.eval (.must true (.ask (decide (roll < 1)) (.must true (.ret [C.int IntKind.i64 0])) (.ask (decide (many < 1)) (.must true (.ret [C.int IntKind.i64 0]))
   (.must (decide ¬roll = 0) (.must true (.ret [C.int IntKind.i64 (IntKind.i64.wrap (IntKind.i64.wrap ((IntKind.i64.wrap (many - 1)).tdiv roll) + 1))])))))) : Option (List C)) = some [.int .i64 (filesOf roll many)] := by
  simp only [eval_must', eval_ask', eval_ret', filesOf, decide_eq_true_eq, if_true]
  repeat' split
  all_goals first | rfl | omega | (simp_all; done) | (simp_all; omega)

theorem tyTab_ok : (tyTab.all fun p => tyB Try.prog p.1 p.2) = true := by kernel_rfl
theorem E0_sound : EnvSound Try.prog E0 := ⟨⟨(tys_ok tyTab_ok).1, fun g fn h => by cases h⟩, fun g sig spec h => (by cases h), fun g fn h => (by cases h), by kernel_rfl⟩

theorem f10_sound : Sound Try.prog 10 ii_i filesSpec := vBody_sound (depth := 0) E0_sound Try.func10 (by kernel_rfl) fun cs outs _ h => by
  unfold filesSpec at h
  split at h
  · simp only [Option.some.injEq, Prod.mk.injEq, true_and] at h
    rw [← h, f10_tree]; exact files_eval _ _
  · cases h

theorem f9_sound : Sound Try.prog 9 ii_i filesSpec := vBody_sound (depth := 0) E0_sound Try.func9 (by kernel_rfl) fun cs outs _ h => by
  unfold filesSpec at h
  split at h
  · simp only [Option.some.injEq, Prod.mk.injEq, true_and] at h
    rw [← h, f9_tree]; exact files_eval _ _
  · cases h

theorem G3_ok (g : FuncId) (sig : Sig) (spec : Spec) (h : G3 g = some (sig, spec)) : Sound Try.prog g sig spec := by
  simp only [G3] at h
  split at h
  · rename_i hg; subst hg; simp only [Option.some.injEq, Prod.mk.injEq] at h; obtain ⟨rfl, rfl⟩ := h; exact f9_sound
  · split at h
    · rename_i hg; subst hg; simp only [Option.some.injEq, Prod.mk.injEq] at h; obtain ⟨rfl, rfl⟩ := h; exact f10_sound
    · cases h
theorem E3_sound : EnvSound Try.prog E3 := ⟨⟨(tys_ok tyTab_ok).1, fun g fn h => (by cases h)⟩, G3_ok, fun g fn h => (by cases h), by kernel_rfl⟩

def lawSpec : Spec := fun cs => match cs with
  | [.int .i64 _, .int .i64 _] => some (true, [.bool true])
  | _ => none

theorem f3_sound : Sound Try.prog 3 ii_b lawSpec := vBody_sound (depth := 0) E3_sound Try.func3 (by kernel_rfl) fun cs outs _ h => by
  unfold lawSpec at h
  split at h
  · simp only [Option.some.injEq, Prod.mk.injEq, true_and] at h
    rw [← h, f3_tree]
    simp [eval_must', eval_ask', eval_ret']
  · cases h

theorem lifted (os : Os) (started : os.Started) (H : Type) (enc : TypeId × Value → H) :
    ReturnsInHanded {} Try.checked os 3 .any (Rows.fnExactFilesNeededSpec.pre6 enc Try.prog Try.f3 Rows.fnExactFilesNeededRow.domain false) (Rows.fnExactFilesNeededSpec.post enc Try.prog Try.f3 false true false false) := by
  refine returnsInHanded_of_change_sized (C := Try.checked) (by kernel_rfl) started (by kernel_rfl) Try.func3
    (ChangeSpec.witness6 (enc := enc) (C := Try.checked) false ⟨#[], #[.int .i64 0, .int .i64 0], []⟩ 8 (by kernel_rfl) (by kernel_rfl) (by kernel_rfl) (by kernel_rfl)) ?_
  intro W base args ds gs before hval hW _ hsz _
  exact law_contract E3_sound ⟨(tys_ok tyTab_ok).2⟩ Try.func3 (by rfl) (by kernel_rfl) f3_sound (n := 3) (by kernel_rfl) (by kernel_rfl) (by kernel_rfl) rfl (bt := 4) (by kernel_rfl) (by kernel_rfl)
    (fun H ds hd => by
      have : ds.length = 2 := hd
      match ds, this with
      | [d1, d2], _ => rfl) (fun cs hf => by
      obtain ⟨hl, hk⟩ := hf
      have hl : cs.length = 2 := hl
      match cs, hl with
      | [x, y], _ =>
        have h0 := hk 0 (.int .i64) x rfl rfl
        have h1 := hk 1 (.int .i64) y rfl rfl
        cases h0
        cases h1
        rfl) hval hW hsz

theorem over : Rows.fnExactFilesNeededRow.holds Try.pinned (OpenSpec.ofChange Rows.fnExactFilesNeededSpec) :=
  OpenClaim.holds_of_wide 3 Try.f3 rfl rfl rfl rfl rfl rfl rfl ⟨rfl, rfl, rfl, rfl, rfl⟩ rfl rfl rfl rfl rfl (by kernel_rfl) Try.func3 (by kernel_rfl)
    (of_decide_eq_true (by kernel_rfl)) (by unfold Func.isWrapper; first | (rw [if_pos (by decide +kernel)]; kernel_rfl) | (rw [if_neg (by decide +kernel)]; exact ⟨rfl, rfl⟩))
    (fun os started H enc _ => lifted os started H enc)
theorem proved : Rows.FnExactFilesNeededSaid := over
end Go.Proofs.Ythpcibaeenlejaa.V
namespace Go.Proofs.Ythpcibaeenlejaa
/-- The row, under a short name, for the claim. -/
theorem fnExactFilesNeeded_holds : Rows.FnExactFilesNeededSaid := V.proved
#print axioms fnExactFilesNeeded_holds
end Go.Proofs.Ythpcibaeenlejaa
