/- For every input the law FnExactIsBurst of the given program returns true, and its arguments read behind the call as before. No condition. -/
import Derived.Test.YthpamcbipmkimaaS
import Derived.Test.YthpamcbipmkimaaRows
import Derived.WalkKit
import Derived.ProofKit
import Derived.ChangeOld
import Derived.SizedLaws
set_option linter.unusedVariables false
namespace Go.Proofs.Ythpamcbipmkimaa.V

set_option maxRecDepth 100000 in
theorem fnExactIsBurst_lifted (os : Os) (started : os.Started) (H : Type) (enc : TypeId × Value → H) :
    ReturnsInHanded {} Try.checked os 3 .any (Rows.fnExactIsBurstSpec.pre6 enc Try.prog Try.f3 Rows.fnExactIsBurstRow.domain false) (Rows.fnExactIsBurstSpec.post enc Try.prog Try.f3 false true false false) := by
  refine returnsInHanded_of_change_sized (C := Try.checked) (by kernel_rfl) started (by kernel_rfl) Try.func3
    (ChangeSpec.witness6 (enc := enc) (C := Try.checked) false ⟨#[], #[.string ⟨#[]⟩, .string ⟨#[]⟩], []⟩ 8 (by kernel_rfl) (by kernel_rfl) (by kernel_rfl) (by kernel_rfl)) ?_
  intro W base args ds gs before hval hW _ hsz _
  exact law_contract (E := E0) E0_sound ⟨(tys_ok tyTab_ok).2⟩ Try.func3 (by rfl) (by kernel_rfl) lIsBurst_sound (n := 3) (by kernel_rfl) (by kernel_rfl) (by kernel_rfl) rfl (bt := 4) (by kernel_rfl) (by kernel_rfl)
    (fun H ds hd => by
      have : ds.length = 2 := hd
      match ds, this with
      | [d0, d1], _ => rfl) (fun cs hf => by
      obtain ⟨hl, hk⟩ := hf
      have hl : cs.length = 2 := hl
      match cs, hl with
      | [x0, x1], _ =>
        have h0 := hk 0 .str x0 rfl rfl
        obtain ⟨s0, rfl, len0⟩ := fit_str h0
        have h1 := hk 1 .str x1 rfl rfl
        obtain ⟨s1, rfl, len1⟩ := fit_str h1
        first
          | rfl
          | (simp only [ssLaw, Option.some.injEq, Prod.mk.injEq, Bool.and_eq_true, decide_eq_true_eq, and_true]
             repeat' apply And.intro
             all_goals first | assumption | omega)) hval hW hsz

set_option maxRecDepth 100000 in
theorem fnExactIsBurst_over : Rows.fnExactIsBurstRow.holds Try.pinned (OpenSpec.ofChange Rows.fnExactIsBurstSpec) :=
  OpenClaim.holds_of_wide 3 Try.f3 rfl rfl rfl rfl rfl rfl rfl ⟨rfl, rfl, rfl, rfl, rfl⟩ rfl rfl rfl rfl rfl (by kernel_rfl) Try.func3 (by kernel_rfl)
    (of_decide_eq_true (by kernel_rfl)) (by unfold Func.isWrapper; first | (rw [if_pos (by decide +kernel)]; kernel_rfl) | (rw [if_neg (by decide +kernel)]; exact ⟨rfl, rfl⟩))
    (fun os started H enc _ => fnExactIsBurst_lifted os started H enc)
end Go.Proofs.Ythpamcbipmkimaa.V
namespace Go.Proofs.Ythpamcbipmkimaa
/-- The row, under a short name, for the claim. -/
theorem fnExactIsBurst_holds : Rows.FnExactIsBurstSaid := V.fnExactIsBurst_over
#print axioms fnExactIsBurst_holds
end Go.Proofs.Ythpamcbipmkimaa
