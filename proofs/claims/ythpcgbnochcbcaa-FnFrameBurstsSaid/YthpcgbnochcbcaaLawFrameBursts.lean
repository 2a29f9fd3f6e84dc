/- For every input the law FnFrameBursts of the given program returns true, and its arguments read behind the call as before. No condition. -/
import Derived.Test.YthpcgbnochcbcaaS4
import Derived.Test.YthpcgbnochcbcaaRows
import Derived.WalkKit
import Derived.ProofKit
import Derived.ChangeOld
import Derived.SizedLaws
set_option linter.unusedVariables false
set_option linter.unusedSimpArgs false
namespace Go.Proofs.Ythpcgbnochcbcaa.V

set_option maxRecDepth 100000 in
theorem fnFrameBursts_lifted (os : Os) (started : os.Started) (H : Type) (enc : TypeId × Value → H) :
    ReturnsInHanded {} Try.checked os 5 .any (Rows.fnFrameBurstsSpec.pre6 enc Try.prog Try.f5 Rows.fnFrameBurstsRow.domain false) (Rows.fnFrameBurstsSpec.post enc Try.prog Try.f5 false true false false) := by
  refine returnsInHanded_of_change_sized (C := Try.checked) (by kernel_rfl) started (by kernel_rfl) Try.func5
    (ChangeSpec.witness6 (enc := enc) (C := Try.checked) false ⟨#[], #[.slice none 0 0], []⟩ 8 (by kernel_rfl) (by kernel_rfl) (by kernel_rfl) (by kernel_rfl)) ?_
  intro W base args ds gs before hval hW _ hsz _
  exact law_contract (E := E0) E0_sound ⟨(tys_ok tyTab_ok).2⟩ Try.func5 (by rfl) (by kernel_rfl) lFnFrameBursts_sound (n := 3) (by kernel_rfl) (by kernel_rfl) (by kernel_rfl) rfl (bt := 4) (by kernel_rfl) (by kernel_rfl)
    (fun H ds hd => by
      have : ds.length = 1 := hd
      match ds, this with
      | [d0], _ => rfl) (fun cs hf => by
      obtain ⟨hl, hk⟩ := hf
      have hl : cs.length = 1 := hl
      match cs, hl with
      | [x0], _ =>
        have h0 := hk 0 (.slice 5) x0 rfl rfl
        obtain ⟨r0, rfl, f0⟩ := fit_sl h0
        obtain ⟨len0, ok0⟩ := f0 _ rfl (by decide)
        first
          | rfl
          | (simp only [codeLaw, Option.some.injEq, Prod.mk.injEq, Bool.and_eq_true, decide_eq_true_eq, and_true]
             repeat' apply And.intro
             all_goals first | assumption | omega)) hval hW hsz (globOk_none (by kernel_rfl) _ _)

set_option maxRecDepth 100000 in
theorem fnFrameBursts_named : Try.pinned.checked.prog.funcNamed Rows.fnFrameBurstsRow.func = some 5 := by kernel_rfl
set_option maxRecDepth 100000 in
theorem fnFrameBursts_joined : joinedFacts Try.pinned.checked.prog 5 Try.f5 Rows.fnFrameBurstsSpec Rows.fnFrameBurstsRow = true := by kernel_rfl
set_option maxRecDepth 100000 in
theorem fnFrameBursts_inst : Func.isInstance Try.pinned.checked.prog Try.f5 Rows.fnFrameBurstsRow.origin Rows.fnFrameBurstsRow.targs := of_decide_eq_true (by kernel_rfl)
set_option maxRecDepth 100000 in
theorem fnFrameBursts_wrap : Func.isWrapper Try.pinned.checked.prog Try.f5 Rows.fnFrameBurstsRow.wrapper Rows.fnFrameBurstsRow.mainSum := by
  unfold Func.isWrapper; first | (rw [if_pos (by decide +kernel)]; kernel_rfl) | (rw [if_neg (by decide +kernel)]; exact ⟨rfl, rfl⟩)
set_option maxRecDepth 100000 in
theorem fnFrameBursts_over : Rows.fnFrameBurstsRow.holds Try.pinned (OpenSpec.ofChange Rows.fnFrameBurstsSpec) :=
  OpenClaim.holds_of_wide 5 Try.f5 rfl rfl rfl rfl rfl rfl rfl ⟨rfl, rfl, rfl, rfl, rfl⟩ rfl rfl rfl rfl rfl fnFrameBursts_named Try.func5 fnFrameBursts_joined
    fnFrameBursts_inst fnFrameBursts_wrap
    (fun os started H enc _ => fnFrameBursts_lifted os started H enc)
end Go.Proofs.Ythpcgbnochcbcaa.V
namespace Go.Proofs.Ythpcgbnochcbcaa
/-- The row, under a short name, for the claim. -/
theorem fnFrameBursts_holds : Rows.FnFrameBurstsSaid := V.fnFrameBursts_over
#print axioms fnFrameBursts_holds
end Go.Proofs.Ythpcgbnochcbcaa
