/- For every input the law FnExactFirstChange of the given program returns true, and its arguments read behind the call as before. No condition. -/
import Derived.Test.YthpcibaeenlejaaS
import Derived.Test.YthpcibaeenlejaaRows
import Derived.WalkKit
import Derived.ProofKit
import Derived.ChangeOld
import Derived.SizedLaws
set_option linter.unusedVariables false
namespace Go.Proofs.Ythpcibaeenlejaa.V

theorem fnExactFirstChange_lifted (os : Os) (started : os.Started) (H : Type) (enc : TypeId × Value → H) :
    ReturnsInHanded {} Try.checked os 8 .any (Rows.fnExactFirstChangeSpec.pre6 enc Try.prog Try.f8 Rows.fnExactFirstChangeRow.domain false) (Rows.fnExactFirstChangeSpec.post enc Try.prog Try.f8 false true false false) := by
  refine returnsInHanded_of_change_sized (C := Try.checked) (by kernel_rfl) started (by kernel_rfl) Try.func8
    (ChangeSpec.witness6 (enc := enc) (C := Try.checked) false ⟨#[], #[.string ⟨#[]⟩, .string ⟨#[]⟩], []⟩ 8 (by kernel_rfl) (by kernel_rfl) (by kernel_rfl) (by kernel_rfl)) ?_
  intro W base args ds gs before hval hW _ hsz _
  exact law_contract (E := E0) E0_sound ⟨(tys_ok tyTab_ok).2⟩ Try.func8 (by rfl) (by kernel_rfl) f8_sound (n := 3) (by kernel_rfl) (by kernel_rfl) (by kernel_rfl) rfl (bt := 4) (by kernel_rfl) (by kernel_rfl)
    (fun H ds hd => by
      have : ds.length = 2 := hd
      match ds, this with
      | [d0, d1], _ => rfl) (fun cs hf => by
      obtain ⟨hl, hk⟩ := hf
      have hl : cs.length = 2 := hl
      match cs, hl with
      | [x0, x1], _ =>
        have h0 := hk 0 .str x0 rfl rfl
        have h1 := hk 1 .str x1 rfl rfl
        cases h0
        cases h1
        first | rfl | (simp only [ssLaw, IntKind.min, IntKind.max, IntKind.bits, IntKind.signed] at *; simp at *; simp [*])) hval hW hsz

theorem fnExactFirstChange_over : Rows.fnExactFirstChangeRow.holds Try.pinned (OpenSpec.ofChange Rows.fnExactFirstChangeSpec) :=
  OpenClaim.holds_of_wide 8 Try.f8 rfl rfl rfl rfl rfl rfl rfl ⟨rfl, rfl, rfl, rfl, rfl⟩ rfl rfl rfl rfl rfl (by kernel_rfl) Try.func8 (by kernel_rfl)
    (of_decide_eq_true (by kernel_rfl)) (by unfold Func.isWrapper; first | (rw [if_pos (by decide +kernel)]; kernel_rfl) | (rw [if_neg (by decide +kernel)]; exact ⟨rfl, rfl⟩))
    (fun os started H enc _ => fnExactFirstChange_lifted os started H enc)
end Go.Proofs.Ythpcibaeenlejaa.V
namespace Go.Proofs.Ythpcibaeenlejaa
/-- The row, under a short name, for the claim. -/
theorem fnExactFirstChange_holds : Rows.FnExactFirstChangeSaid := V.fnExactFirstChange_over
#print axioms fnExactFirstChange_holds
end Go.Proofs.Ythpcibaeenlejaa
