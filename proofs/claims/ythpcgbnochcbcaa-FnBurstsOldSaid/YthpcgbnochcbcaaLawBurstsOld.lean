/- For every input the law FnBurstsOld of the given program returns true, and its arguments read behind the call as before. No condition. -/
import Derived.Test.YthpcgbnochcbcaaS6
import Derived.Test.YthpcgbnochcbcaaRows
import Derived.WalkKit
import Derived.ProofKit
import Derived.ChangeOld
import Derived.SizedLaws
set_option linter.unusedVariables false
set_option linter.unusedSimpArgs false
namespace Go.Proofs.Ythpcgbnochcbcaa.V

set_option maxRecDepth 100000 in
theorem fnBurstsOld_lifted (os : Os) (started : os.Started) (H : Type) (enc : TypeId × Value → H) :
    ReturnsInHanded {} Try.checked os 9 .any (Rows.fnBurstsOldSpec.pre6 enc Try.prog Try.f9 Rows.fnBurstsOldRow.domain false) (Rows.fnBurstsOldSpec.post enc Try.prog Try.f9 false true false false) := by
  refine returnsInHanded_of_change_sized (C := Try.checked) (by kernel_rfl) started (by kernel_rfl) Try.func9
    (ChangeSpec.witness6 (enc := enc) (C := Try.checked) false ⟨#[], #[.slice none 0 0], []⟩ 8 (by kernel_rfl) (by kernel_rfl) (by kernel_rfl) (by kernel_rfl)) ?_
  intro W base args ds gs before hval hW _ hsz _
  exact law_contract (E := E0) E0_sound ⟨(tys_ok tyTab_ok).2⟩ Try.func9 (by rfl) (by kernel_rfl) lFnBurstsOld_sound (n := 3) (by kernel_rfl) (by kernel_rfl) (by kernel_rfl) rfl (bt := 4) (by kernel_rfl) (by kernel_rfl)
    (fun H ds hd => by
      have : ds.length = 1 := hd
      match ds, this with
      | [d0], _ => rfl) (fun cs hf => by
      obtain ⟨hl, hk⟩ := hf
      have hl : cs.length = 1 := hl
      match cs, hl with
      | [x0], _ =>
        have h0 := hk 0 (.slice 5) x0 rfl rfl
        obtain ⟨r0, rfl, f0⟩ := fit_sl h0
        obtain ⟨len0, ok0⟩ := f0 _ rfl (by decide)
        first
          | rfl
          | (simp only [codeLaw, Option.some.injEq, Prod.mk.injEq, Bool.and_eq_true, decide_eq_true_eq, and_true]
             repeat' apply And.intro
             all_goals first | assumption | omega)) hval hW hsz (globOk_none (by kernel_rfl) _ _)

set_option maxRecDepth 100000 in
theorem fnBurstsOld_named : Try.pinned.checked.prog.funcNamed Rows.fnBurstsOldRow.func = some 9 := by kernel_rfl
set_option maxRecDepth 100000 in
theorem fnBurstsOld_joined : joinedFacts Try.pinned.checked.prog 9 Try.f9 Rows.fnBurstsOldSpec Rows.fnBurstsOldRow = true := by kernel_rfl
set_option maxRecDepth 100000 in
theorem fnBurstsOld_inst : Func.isInstance Try.pinned.checked.prog Try.f9 Rows.fnBurstsOldRow.origin Rows.fnBurstsOldRow.targs := of_decide_eq_true (by kernel_rfl)
set_option maxRecDepth 100000 in
theorem fnBurstsOld_wrap : Func.isWrapper Try.pinned.checked.prog Try.f9 Rows.fnBurstsOldRow.wrapper Rows.fnBurstsOldRow.mainSum := by
  unfold Func.isWrapper; first | (rw [if_pos (by decide +kernel)]; kernel_rfl) | (rw [if_neg (by decide +kernel)]; exact ⟨rfl, rfl⟩)
set_option maxRecDepth 100000 in
theorem fnBurstsOld_over : Rows.fnBurstsOldRow.holds Try.pinned (OpenSpec.ofChange Rows.fnBurstsOldSpec) :=
  OpenClaim.holds_of_wide 9 Try.f9 rfl rfl rfl rfl rfl rfl rfl ⟨rfl, rfl, rfl, rfl, rfl⟩ rfl rfl rfl rfl rfl fnBurstsOld_named Try.func9 fnBurstsOld_joined
    fnBurstsOld_inst fnBurstsOld_wrap
    (fun os started H enc _ => fnBurstsOld_lifted os started H enc)
end Go.Proofs.Ythpcgbnochcbcaa.V
namespace Go.Proofs.Ythpcgbnochcbcaa
/-- The row, under a short name, for the claim. -/
theorem fnBurstsOld_holds : Rows.FnBurstsOldSaid := V.fnBurstsOld_over
#print axioms fnBurstsOld_holds
end Go.Proofs.Ythpcgbnochcbcaa
