/- For every input the law FnExactActOk of the given program returns true, and its arguments read behind the call as before. No condition. -/
import Derived.Test.YthpamcbipmkimaaS
import Derived.Test.YthpamcbipmkimaaRows
import Derived.WalkKit
import Derived.ProofKit
import Derived.ChangeOld
import Derived.SizedLaws
set_option linter.unusedVariables false
namespace Go.Proofs.Ythpamcbipmkimaa.V

set_option maxRecDepth 100000 in
theorem fnExactActOk_lifted (os : Os) (started : os.Started) (H : Type) (enc : TypeId × Value → H) :
    ReturnsInHanded {} Try.checked os 4 .any (Rows.fnExactActOkSpec.pre6 enc Try.prog Try.f4 Rows.fnExactActOkRow.domain false) (Rows.fnExactActOkSpec.post enc Try.prog Try.f4 false true false false) := by
  refine returnsInHanded_of_change_sized (C := Try.checked) (by kernel_rfl) started (by kernel_rfl) Try.func4
    (ChangeSpec.witness6 (enc := enc) (C := Try.checked) false ⟨#[], #[.agg #[.int .i64 0, .string ⟨#[]⟩, .int .i64 0, .slice none 0 0]], []⟩ 8 (by kernel_rfl) (by kernel_rfl) (by kernel_rfl) (by kernel_rfl)) ?_
  intro W base args ds gs before hval hW _ hsz _
  exact law_contract (E := E0) E0_sound ⟨(tys_ok tyTab_ok).2⟩ Try.func4 (by rfl) (by kernel_rfl) lActOk_sound (n := 3) (by kernel_rfl) (by kernel_rfl) (by kernel_rfl) rfl (bt := 4) (by kernel_rfl) (by kernel_rfl)
    (fun H ds hd => by
      have : ds.length = 1 := hd
      match ds, this with
      | [d0], _ => rfl) (fun cs hf => by
      obtain ⟨hl, hk⟩ := hf
      have hl : cs.length = 4 := hl
      match cs, hl with
      | [x0, x1, x2, x3], _ =>
        have h0 := hk 0 (.int .i64) x0 rfl rfl
        obtain ⟨n0, rfl, lo0, hi0⟩ := fit_i64 h0
        have h1 := hk 1 .str x1 rfl rfl
        obtain ⟨s1, rfl, len1⟩ := fit_str h1
        have h2 := hk 2 (.int .i64) x2 rfl rfl
        obtain ⟨n2, rfl, lo2, hi2⟩ := fit_i64 h2
        have h3 := hk 3 (.slice 3) x3 rfl rfl
        obtain ⟨r3, rfl, f3⟩ := fit_sl h3
        obtain ⟨len3, ok3⟩ := f3 _ rfl (by decide)
        first
          | rfl
          | (simp only [actLaw, Option.some.injEq, Prod.mk.injEq, Bool.and_eq_true, decide_eq_true_eq, and_true]
             repeat' apply And.intro
             all_goals first | assumption | omega)) hval hW hsz

set_option maxRecDepth 100000 in
theorem fnExactActOk_over : Rows.fnExactActOkRow.holds Try.pinned (OpenSpec.ofChange Rows.fnExactActOkSpec) :=
  OpenClaim.holds_of_wide 4 Try.f4 rfl rfl rfl rfl rfl rfl rfl ⟨rfl, rfl, rfl, rfl, rfl⟩ rfl rfl rfl rfl rfl (by kernel_rfl) Try.func4 (by kernel_rfl)
    (of_decide_eq_true (by kernel_rfl)) (by unfold Func.isWrapper; first | (rw [if_pos (by decide +kernel)]; kernel_rfl) | (rw [if_neg (by decide +kernel)]; exact ⟨rfl, rfl⟩))
    (fun os started H enc _ => fnExactActOk_lifted os started H enc)
end Go.Proofs.Ythpamcbipmkimaa.V
namespace Go.Proofs.Ythpamcbipmkimaa
/-- The row, under a short name, for the claim. -/
theorem fnExactActOk_holds : Rows.FnExactActOkSaid := V.fnExactActOk_over
#print axioms fnExactActOk_holds
end Go.Proofs.Ythpamcbipmkimaa
