/- For every input the law FnExactWorldNew of the given program returns true, and its arguments read behind the call as before. No condition. -/
import Derived.Test.YthpamcbipmkimaaS
import Derived.Test.YthpamcbipmkimaaRows
import Derived.WalkKit
import Derived.ProofKit
import Derived.ChangeOld
import Derived.SizedLaws
set_option linter.unusedVariables false
set_option linter.unusedSimpArgs false
namespace Go.Proofs.Ythpamcbipmkimaa.V

set_option maxRecDepth 100000 in
theorem fnExactWorldNew_lifted (os : Os) (started : os.Started) (H : Type) (enc : TypeId × Value → H) :
    ReturnsInHanded {} Try.checked os 12 .any (Rows.fnExactWorldNewSpec.pre6 enc Try.prog Try.f12 Rows.fnExactWorldNewRow.domain false) (Rows.fnExactWorldNewSpec.post enc Try.prog Try.f12 false true false false) := by
  refine returnsInHanded_of_change_sized (C := Try.checked) (by kernel_rfl) started (by kernel_rfl) Try.func12
    (ChangeSpec.witness6 (enc := enc) (C := Try.checked) false ⟨#[], #[.agg #[.int .i64 0, .int .i64 0, .int .i64 0, .int .i64 0]], []⟩ 8 (by kernel_rfl) (by kernel_rfl) (by kernel_rfl) (by kernel_rfl)) ?_
  intro W base args ds gs before hval hW _ hsz _
  exact law_contract (E := E0) E0_sound ⟨(tys_ok tyTab_ok).2⟩ Try.func12 (by rfl) (by kernel_rfl) lWorldNew_sound (n := 3) (by kernel_rfl) (by kernel_rfl) (by kernel_rfl) rfl (bt := 4) (by kernel_rfl) (by kernel_rfl)
    (fun H ds hd => by
      have : ds.length = 1 := hd
      match ds, this with
      | [d0], _ => rfl) (fun cs hf => by
      obtain ⟨hl, hk⟩ := hf
      have hl : cs.length = 4 := hl
      match cs, hl with
      | [x0, x1, x2, x3], _ =>
        have h0 := hk 0 (.int .i64) x0 rfl rfl
        obtain ⟨n0, rfl, lo0, hi0⟩ := fit_i64 h0
        have h1 := hk 1 (.int .i64) x1 rfl rfl
        obtain ⟨n1, rfl, lo1, hi1⟩ := fit_i64 h1
        have h2 := hk 2 (.int .i64) x2 rfl rfl
        obtain ⟨n2, rfl, lo2, hi2⟩ := fit_i64 h2
        have h3 := hk 3 (.int .i64) x3 rfl rfl
        obtain ⟨n3, rfl, lo3, hi3⟩ := fit_i64 h3
        first
          | rfl
          | (simp only [worldLaw, Option.some.injEq, Prod.mk.injEq, Bool.and_eq_true, decide_eq_true_eq, and_true]
             repeat' apply And.intro
             all_goals first | assumption | omega)) hval hW hsz (globOk_none (by kernel_rfl) _ _)

set_option maxRecDepth 100000 in
theorem fnExactWorldNew_named : Try.pinned.checked.prog.funcNamed Rows.fnExactWorldNewRow.func = some 12 := by kernel_rfl
set_option maxRecDepth 100000 in
theorem fnExactWorldNew_joined : joinedFacts Try.pinned.checked.prog 12 Try.f12 Rows.fnExactWorldNewSpec Rows.fnExactWorldNewRow = true := by kernel_rfl
set_option maxRecDepth 100000 in
theorem fnExactWorldNew_inst : Func.isInstance Try.pinned.checked.prog Try.f12 Rows.fnExactWorldNewRow.origin Rows.fnExactWorldNewRow.targs := of_decide_eq_true (by kernel_rfl)
set_option maxRecDepth 100000 in
theorem fnExactWorldNew_wrap : Func.isWrapper Try.pinned.checked.prog Try.f12 Rows.fnExactWorldNewRow.wrapper Rows.fnExactWorldNewRow.mainSum := by
  unfold Func.isWrapper; first | (rw [if_pos (by decide +kernel)]; kernel_rfl) | (rw [if_neg (by decide +kernel)]; exact ⟨rfl, rfl⟩)
set_option maxRecDepth 100000 in
theorem fnExactWorldNew_over : Rows.fnExactWorldNewRow.holds Try.pinned (OpenSpec.ofChange Rows.fnExactWorldNewSpec) :=
  OpenClaim.holds_of_wide 12 Try.f12 rfl rfl rfl rfl rfl rfl rfl ⟨rfl, rfl, rfl, rfl, rfl⟩ rfl rfl rfl rfl rfl fnExactWorldNew_named Try.func12 fnExactWorldNew_joined
    fnExactWorldNew_inst fnExactWorldNew_wrap
    (fun os started H enc _ => fnExactWorldNew_lifted os started H enc)
end Go.Proofs.Ythpamcbipmkimaa.V
namespace Go.Proofs.Ythpamcbipmkimaa
/-- The row, under a short name, for the claim. -/
theorem fnExactWorldNew_holds : Rows.FnExactWorldNewSaid := V.fnExactWorldNew_over
#print axioms fnExactWorldNew_holds
end Go.Proofs.Ythpamcbipmkimaa
