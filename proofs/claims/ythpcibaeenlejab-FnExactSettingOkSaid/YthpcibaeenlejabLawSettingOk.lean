/- For every input the law FnExactSettingOk of the given program returns true, and its arguments read behind the call as before. No condition. -/
import Derived.Test.YthpcibaeenlejabS
import Derived.Test.YthpcibaeenlejabRows
import Derived.WalkKit
import Derived.ProofKit
import Derived.ChangeOld
import Derived.SizedLaws
set_option linter.unusedVariables false
namespace Go.Proofs.Ythpcibaeenlejab.V

theorem fnExactSettingOk_lifted (os : Os) (started : os.Started) (H : Type) (enc : TypeId × Value → H) :
    ReturnsInHanded {} Try.checked os 3 .any (Rows.fnExactSettingOkSpec.pre6 enc Try.prog Try.f3 Rows.fnExactSettingOkRow.domain false) (Rows.fnExactSettingOkSpec.post enc Try.prog Try.f3 false true false false) := by
  refine returnsInHanded_of_change_sized (C := Try.checked) (by kernel_rfl) started (by kernel_rfl) Try.func3
    (ChangeSpec.witness6 (enc := enc) (C := Try.checked) false ⟨#[], #[.agg #[.int .i64 0, .int .i64 0, .int .i64 0, .int .i64 0]], []⟩ 8 (by kernel_rfl) (by kernel_rfl) (by kernel_rfl) (by kernel_rfl)) ?_
  intro W base args ds gs before hval hW _ hsz _
  exact law_contract (E := E0) E0_sound ⟨(tys_ok tyTab_ok).2⟩ Try.func3 (by rfl) (by kernel_rfl) lSettingOk_sound (n := 3) (by kernel_rfl) (by kernel_rfl) (by kernel_rfl) rfl (bt := 4) (by kernel_rfl) (by kernel_rfl)
    (fun H ds hd => by
      have : ds.length = 1 := hd
      match ds, this with
      | [d0], _ => rfl) (fun cs hf => by
      obtain ⟨hl, hk⟩ := hf
      have hl : cs.length = 4 := hl
      match cs, hl with
      | [x0, x1, x2, x3], _ =>
        have h0 := hk 0 (.int .i64) x0 rfl rfl
        have h1 := hk 1 (.int .i64) x1 rfl rfl
        have h2 := hk 2 (.int .i64) x2 rfl rfl
        have h3 := hk 3 (.int .i64) x3 rfl rfl
        cases h0
        cases h1
        cases h2
        cases h3
        first | rfl | (simp only [settingLaw, IntKind.min, IntKind.max, IntKind.bits, IntKind.signed] at *; simp at *; simp [*])) hval hW hsz

theorem fnExactSettingOk_over : Rows.fnExactSettingOkRow.holds Try.pinned (OpenSpec.ofChange Rows.fnExactSettingOkSpec) :=
  OpenClaim.holds_of_wide 3 Try.f3 rfl rfl rfl rfl rfl rfl rfl ⟨rfl, rfl, rfl, rfl, rfl⟩ rfl rfl rfl rfl rfl (by kernel_rfl) Try.func3 (by kernel_rfl)
    (of_decide_eq_true (by kernel_rfl)) (by unfold Func.isWrapper; first | (rw [if_pos (by decide +kernel)]; kernel_rfl) | (rw [if_neg (by decide +kernel)]; exact ⟨rfl, rfl⟩))
    (fun os started H enc _ => fnExactSettingOk_lifted os started H enc)
end Go.Proofs.Ythpcibaeenlejab.V
namespace Go.Proofs.Ythpcibaeenlejab
/-- The row, under a short name, for the claim. -/
theorem fnExactSettingOk_holds : Rows.FnExactSettingOkSaid := V.fnExactSettingOk_over
#print axioms fnExactSettingOk_holds
end Go.Proofs.Ythpcibaeenlejab
