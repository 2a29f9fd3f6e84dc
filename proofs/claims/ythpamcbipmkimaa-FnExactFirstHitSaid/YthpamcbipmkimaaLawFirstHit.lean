/- For every input the law FnExactFirstHit of the given program returns true, and its arguments read behind the call as before. No condition. -/
import Derived.Test.YthpamcbipmkimaaS3
import Derived.Test.YthpamcbipmkimaaRows
import Derived.WalkKit
import Derived.ProofKit
import Derived.ChangeOld
import Derived.SizedLaws
set_option linter.unusedVariables false
namespace Go.Proofs.Ythpamcbipmkimaa.V

set_option maxRecDepth 100000 in
theorem fnExactFirstHit_lifted (os : Os) (started : os.Started) (H : Type) (enc : TypeId × Value → H) :
    ReturnsInHanded {} Try.checked os 15 .any (Rows.fnExactFirstHitSpec.pre6 enc Try.prog Try.f15 Rows.fnExactFirstHitRow.domain false) (Rows.fnExactFirstHitSpec.post enc Try.prog Try.f15 false true false false) := by
  refine returnsInHanded_of_change_sized (C := Try.checked) (by kernel_rfl) started (by kernel_rfl) Try.func15
    (ChangeSpec.witness6 (enc := enc) (C := Try.checked) false ⟨#[], #[.string ⟨#[]⟩, .int .i64 0, .int .i64 0], []⟩ 8 (by kernel_rfl) (by kernel_rfl) (by kernel_rfl) (by kernel_rfl)) ?_
  intro W base args ds gs before hval hW _ hsz _
  exact law_contract (E := E0) E0_sound ⟨(tys_ok tyTab_ok).2⟩ Try.func15 (by rfl) (by kernel_rfl) lFirstHit_sound (n := 3) (by kernel_rfl) (by kernel_rfl) (by kernel_rfl) rfl (bt := 4) (by kernel_rfl) (by kernel_rfl)
    (fun H ds hd => by
      have : ds.length = 3 := hd
      match ds, this with
      | [d0, d1, d2], _ => rfl) (fun cs hf => by
      obtain ⟨hl, hk⟩ := hf
      have hl : cs.length = 3 := hl
      match cs, hl with
      | [x0, x1, x2], _ =>
        have h0 := hk 0 .str x0 rfl rfl
        obtain ⟨s0, rfl, len0⟩ := fit_str h0
        have h1 := hk 1 (.int .i64) x1 rfl rfl
        obtain ⟨n1, rfl, lo1, hi1⟩ := fit_i64 h1
        have h2 := hk 2 (.int .i64) x2 rfl rfl
        obtain ⟨n2, rfl, lo2, hi2⟩ := fit_i64 h2
        first
          | rfl
          | (simp only [siiFree, Option.some.injEq, Prod.mk.injEq, Bool.and_eq_true, decide_eq_true_eq, and_true]
             repeat' apply And.intro
             all_goals first | assumption | omega)) hval hW hsz

set_option maxRecDepth 100000 in
theorem fnExactFirstHit_named : Try.pinned.checked.prog.funcNamed Rows.fnExactFirstHitRow.func = some 15 := by kernel_rfl
set_option maxRecDepth 100000 in
theorem fnExactFirstHit_joined : joinedFacts Try.pinned.checked.prog 15 Try.f15 Rows.fnExactFirstHitSpec Rows.fnExactFirstHitRow = true := by kernel_rfl
set_option maxRecDepth 100000 in
theorem fnExactFirstHit_inst : Func.isInstance Try.pinned.checked.prog Try.f15 Rows.fnExactFirstHitRow.origin Rows.fnExactFirstHitRow.targs := of_decide_eq_true (by kernel_rfl)
set_option maxRecDepth 100000 in
theorem fnExactFirstHit_wrap : Func.isWrapper Try.pinned.checked.prog Try.f15 Rows.fnExactFirstHitRow.wrapper Rows.fnExactFirstHitRow.mainSum := by
  unfold Func.isWrapper; first | (rw [if_pos (by decide +kernel)]; kernel_rfl) | (rw [if_neg (by decide +kernel)]; exact ⟨rfl, rfl⟩)
set_option maxRecDepth 100000 in
theorem fnExactFirstHit_over : Rows.fnExactFirstHitRow.holds Try.pinned (OpenSpec.ofChange Rows.fnExactFirstHitSpec) :=
  OpenClaim.holds_of_wide 15 Try.f15 rfl rfl rfl rfl rfl rfl rfl ⟨rfl, rfl, rfl, rfl, rfl⟩ rfl rfl rfl rfl rfl fnExactFirstHit_named Try.func15 fnExactFirstHit_joined
    fnExactFirstHit_inst fnExactFirstHit_wrap
    (fun os started H enc _ => fnExactFirstHit_lifted os started H enc)
end Go.Proofs.Ythpamcbipmkimaa.V
namespace Go.Proofs.Ythpamcbipmkimaa
/-- The row, under a short name, for the claim. -/
theorem fnExactFirstHit_holds : Rows.FnExactFirstHitSaid := V.fnExactFirstHit_over
#print axioms fnExactFirstHit_holds
end Go.Proofs.Ythpamcbipmkimaa
