/- For every input the law FnHeads of the given program returns true, and its arguments read behind the call as before. No condition. -/
import Derived.Test.YthpcgbnochcbcaaS4
import Derived.Test.YthpcgbnochcbcaaRows
import Derived.WalkKit
import Derived.ProofKit
import Derived.ChangeOld
import Derived.SizedLaws
set_option linter.unusedVariables false
set_option linter.unusedSimpArgs false
namespace Go.Proofs.Ythpcgbnochcbcaa.V

set_option maxRecDepth 100000 in
theorem fnHeads_lifted (os : Os) (started : os.Started) (H : Type) (enc : TypeId × Value → H) :
    ReturnsInHanded {} Try.checked os 6 .any (Rows.fnHeadsSpec.pre6 enc Try.prog Try.f6 Rows.fnHeadsRow.domain false) (Rows.fnHeadsSpec.post enc Try.prog Try.f6 false true false false) := by
  refine returnsInHanded_of_change_sized (C := Try.checked) (by kernel_rfl) started (by kernel_rfl) Try.func6
    (ChangeSpec.witness6 (enc := enc) (C := Try.checked) false ⟨#[], #[.slice none 0 0], []⟩ 8 (by kernel_rfl) (by kernel_rfl) (by kernel_rfl) (by kernel_rfl)) ?_
  intro W base args ds gs before hval hW _ hsz _
  exact law_contract (E := E0) E0_sound ⟨(tys_ok tyTab_ok).2⟩ Try.func6 (by rfl) (by kernel_rfl) lFnHeads_sound (n := 3) (by kernel_rfl) (by kernel_rfl) (by kernel_rfl) rfl (bt := 4) (by kernel_rfl) (by kernel_rfl)
    (fun H ds hd => by
      have : ds.length = 1 := hd
      match ds, this with
      | [d0], _ => rfl) (fun cs hf => by
      obtain ⟨hl, hk⟩ := hf
      have hl : cs.length = 1 := hl
      match cs, hl with
      | [x0], _ =>
        have h0 := hk 0 (.slice 5) x0 rfl rfl
        obtain ⟨r0, rfl, f0⟩ := fit_sl h0
        obtain ⟨len0, ok0⟩ := f0 _ rfl (by decide)
        first
          | rfl
          | (simp only [codeLaw, Option.some.injEq, Prod.mk.injEq, Bool.and_eq_true, decide_eq_true_eq, and_true]
             repeat' apply And.intro
             all_goals first | assumption | omega)) hval hW hsz (globOk_none (by kernel_rfl) _ _)

set_option maxRecDepth 100000 in
theorem fnHeads_named : Try.pinned.checked.prog.funcNamed Rows.fnHeadsRow.func = some 6 := by kernel_rfl
set_option maxRecDepth 100000 in
theorem fnHeads_joined : joinedFacts Try.pinned.checked.prog 6 Try.f6 Rows.fnHeadsSpec Rows.fnHeadsRow = true := by kernel_rfl
set_option maxRecDepth 100000 in
theorem fnHeads_inst : Func.isInstance Try.pinned.checked.prog Try.f6 Rows.fnHeadsRow.origin Rows.fnHeadsRow.targs := of_decide_eq_true (by kernel_rfl)
set_option maxRecDepth 100000 in
theorem fnHeads_wrap : Func.isWrapper Try.pinned.checked.prog Try.f6 Rows.fnHeadsRow.wrapper Rows.fnHeadsRow.mainSum := by
  unfold Func.isWrapper; first | (rw [if_pos (by decide +kernel)]; kernel_rfl) | (rw [if_neg (by decide +kernel)]; exact ⟨rfl, rfl⟩)
set_option maxRecDepth 100000 in
theorem fnHeads_over : Rows.fnHeadsRow.holds Try.pinned (OpenSpec.ofChange Rows.fnHeadsSpec) :=
  OpenClaim.holds_of_wide 6 Try.f6 rfl rfl rfl rfl rfl rfl rfl ⟨rfl, rfl, rfl, rfl, rfl⟩ rfl rfl rfl rfl rfl fnHeads_named Try.func6 fnHeads_joined
    fnHeads_inst fnHeads_wrap
    (fun os started H enc _ => fnHeads_lifted os started H enc)
end Go.Proofs.Ythpcgbnochcbcaa.V
namespace Go.Proofs.Ythpcgbnochcbcaa
/-- The row, under a short name, for the claim. -/
theorem fnHeads_holds : Rows.FnHeadsSaid := V.fnHeads_over
#print axioms fnHeads_holds
end Go.Proofs.Ythpcgbnochcbcaa
