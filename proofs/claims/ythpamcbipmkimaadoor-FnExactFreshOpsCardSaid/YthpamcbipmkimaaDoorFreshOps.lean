/- For every input the law FnExactFreshOps of the given program returns true, and its arguments read behind the call as before; the library's tables as the program's text lays them (tied). No other condition. -/
import Derived.Test.YthpamcbipmkimaaDoorS
import Derived.Test.YthpamcbipmkimaaDoorRows
import Derived.Test.YthpamcbipmkimaaDoorCards
import Derived.Test.YthpamcbipmkimaaDoorTie
import Derived.WalkKit
import Derived.ProofKit
import Derived.ChangeOld
import Derived.SizedLaws
import Derived.LaidMore
import Derived.OpenShut
import Derived.Stop.Joined
import Derived.Stop.LaidErr
import Derived.SevenTiedAt
set_option linter.unusedVariables false
set_option linter.unusedSimpArgs false
namespace Go.Proofs.YthpamcbipmkimaaDoor.V

set_option maxRecDepth 100000 in
theorem fnExactFreshOps_globals {W : World} (h : laidMetH Tryd.prog [("math/bits.deBruijn32tab", Rows.laid_math_bits_deBruijn32tab), ("math/bits.deBruijn64tab", Rows.laid_math_bits_deBruijn64tab), ("internal/strconv.uint64pow10", Rows.laid_internal_strconv_uint64pow10)] W) : GlobOk Tryd.prog W (okOld W) := by
  rw [MakeChecks.laidMetH_plain _ _ _ (by kernel_rfl)] at h
  have h0 : laidMet Tryd.prog [("math/bits.deBruijn32tab", Lib.tabData .u8 tab32), ("math/bits.deBruijn64tab", Lib.tabData .u8 tab64), ("internal/strconv.uint64pow10", Lib.tabData .u64 tabTen)] W := h
  have t0 : Lib.TabIs Tryd.prog W "math/bits.deBruijn32tab" .u8 tab32 := Lib.tabIs_of_head (g := 2) (t := 71) (e := 5) (n := 32) (by kernel_rfl) (by kernel_rfl) (by kernel_rfl) (by kernel_rfl) (by kernel_rfl) (by kernel_rfl) (h0)
  have t1 : Lib.TabIs Tryd.prog W "math/bits.deBruijn64tab" .u8 tab64 := Lib.tabIs_of_head (g := 3) (t := 72) (e := 5) (n := 64) (by kernel_rfl) (by kernel_rfl) (by kernel_rfl) (by kernel_rfl) (by kernel_rfl) (by kernel_rfl) ((h0).tail)
  have t2 : Lib.TabIs Tryd.prog W "internal/strconv.uint64pow10" .u64 tabTen := Lib.tabIs_of_head (g := 0) (t := 64) (e := 51) (n := 20) (by kernel_rfl) (by kernel_rfl) (by kernel_rfl) (by kernel_rfl) (by kernel_rfl) (by kernel_rfl) (((h0).tail).tail)
  exact globOk_of (by kernel_rfl) t0 t1 t2

set_option maxRecDepth 100000 in
theorem fnExactFreshOps_door (os : Os) (args : Array Value) : laidMetH Tryd.prog [("math/bits.deBruijn32tab", Rows.laid_math_bits_deBruijn32tab), ("math/bits.deBruijn64tab", Rows.laid_math_bits_deBruijn64tab), ("internal/strconv.uint64pow10", Rows.laid_internal_strconv_uint64pow10)] ((World.doorLaid Tryd.prog 24 os).forCall (fun _ _ => 0) ⟨#[], args, []⟩).memory :=
  laidMetH_of_parts3 (fuel := 8) (laidMet_of_run' 8 (by kernel_rfl) (by kernel_rfl)) (by kernel_rfl) (by kernel_rfl)

set_option maxRecDepth 100000 in
theorem fnExactFreshOps_lifted (os : Os) (started : os.Started) (H : Type) (enc : TypeId × Value → H) :
    ReturnsInHanded {} Tryd.checked os 3 .any (fun w args => (Rows.fnExactFreshOpsSpec.pre enc Tryd.prog Tryd.f3 [] false w args ∧ laidMetH Tryd.prog [("math/bits.deBruijn32tab", Rows.laid_math_bits_deBruijn32tab), ("math/bits.deBruijn64tab", Rows.laid_math_bits_deBruijn64tab), ("internal/strconv.uint64pow10", Rows.laid_internal_strconv_uint64pow10)] w) ∧ sizedMet enc Tryd.prog Tryd.f3 (OpenSpec.ofChange Rows.fnExactFreshOpsSpec) false w args)
      (Rows.fnExactFreshOpsSpec.post enc Tryd.prog Tryd.f3 false true false false) := by
  refine returnsInHanded_of_change_and (C := Tryd.checked) (X := fun w _ => laidMetH Tryd.prog [("math/bits.deBruijn32tab", Rows.laid_math_bits_deBruijn32tab), ("math/bits.deBruijn64tab", Rows.laid_math_bits_deBruijn64tab), ("internal/strconv.uint64pow10", Rows.laid_internal_strconv_uint64pow10)] w) (fun _ _ _ hh h => h.of_heap hh) (by kernel_rfl) started (by kernel_rfl) Tryd.func3
    (ChangeSpec.witness_shaped (enc := enc) (C := Tryd.checked) (os := os) (X := fun w _ => laidMetH Tryd.prog [("math/bits.deBruijn32tab", Rows.laid_math_bits_deBruijn32tab), ("math/bits.deBruijn64tab", Rows.laid_math_bits_deBruijn64tab), ("internal/strconv.uint64pow10", Rows.laid_internal_strconv_uint64pow10)] w) false (World.doorLaid Tryd.prog 24 os) #[.int .i64 0, .string ⟨#[]⟩] 8 rfl (World.shaped_of_RefB (by kernel_rfl) (by kernel_rfl)) (by kernel_rfl) (by kernel_rfl) (by kernel_rfl) (fnExactFreshOps_door os _)) ?_
  intro W base args ds gs before hval hW _ hsz hL _
  exact law_contract (E := E0) E0_sound ⟨(tys_ok tyTab_ok).2⟩ Tryd.func3 (by rfl) (by kernel_rfl) lFresh_sound (n := 8) (by kernel_rfl) (by kernel_rfl) (by kernel_rfl) rfl (bt := 4) (by kernel_rfl) (by kernel_rfl)
    (fun H ds hd => by
      have : ds.length = 2 := hd
      match ds, this with
      | [d0, d1], _ => rfl) (fun cs hf => by
      obtain ⟨hl, hk⟩ := hf
      have hl : cs.length = 2 := hl
      match cs, hl with
      | [x0, x1], _ =>
        have h0 := hk 0 (.int .i64) x0 rfl rfl
        obtain ⟨n0, rfl, lo0, hi0⟩ := fit_i64 h0
        have h1 := hk 1 .str x1 rfl rfl
        obtain ⟨s1, rfl, len1⟩ := fit_str h1
        simp only [freshLaw, Option.some.injEq, Prod.mk.injEq, Bool.and_eq_true, decide_eq_true_eq, and_true]
        repeat' apply And.intro
        all_goals first | assumption | omega) hval hW hsz (fnExactFreshOps_globals hL)

set_option maxRecDepth 100000 in
theorem fnExactFreshOps_named : Tryd.pinned.checked.prog.funcNamed Rows.fnExactFreshOpsRow.func = some 3 := by kernel_rfl
set_option maxRecDepth 100000 in
theorem fnExactFreshOps_joined : joinedFacts Tryd.pinned.checked.prog 3 Tryd.f3 Rows.fnExactFreshOpsSpec Rows.fnExactFreshOpsRow = true := by kernel_rfl
set_option maxRecDepth 100000 in
theorem fnExactFreshOps_inst : Func.isInstance Tryd.pinned.checked.prog Tryd.f3 Rows.fnExactFreshOpsRow.origin Rows.fnExactFreshOpsRow.targs := of_decide_eq_true (by kernel_rfl)
set_option maxRecDepth 100000 in
theorem fnExactFreshOps_wrap : Func.isWrapper Tryd.pinned.checked.prog Tryd.f3 Rows.fnExactFreshOpsRow.wrapper Rows.fnExactFreshOpsRow.mainSum := by
  unfold Func.isWrapper; first | (rw [if_pos (by decide +kernel)]; kernel_rfl) | (rw [if_neg (by decide +kernel)]; exact ⟨rfl, rfl⟩)
set_option maxRecDepth 100000 in
theorem fnExactFreshOps_over : Rows.fnExactFreshOpsRow.holds Tryd.pinned (OpenSpec.ofChange Rows.fnExactFreshOpsSpec) :=
  OpenClaim.holds_of_wide 3 Tryd.f3 rfl rfl rfl rfl rfl rfl rfl ⟨rfl, rfl, rfl, rfl, rfl⟩ rfl rfl rfl rfl rfl fnExactFreshOps_named Tryd.func3 fnExactFreshOps_joined
    fnExactFreshOps_inst fnExactFreshOps_wrap
    (fun os started H enc _ => fnExactFreshOps_lifted os started H enc)
set_option maxRecDepth 100000 in
theorem fnExactFreshOps_c1 : Tryd.pinned.checked.prog.funcNamed Rows.fnExactFreshOpsRow.func = some 3 := by kernel_rfl
set_option maxRecDepth 100000 in
theorem fnExactFreshOps_card : Rows.FnExactFreshOpsCardSaid :=
  Claim7.holds_tied_plain_at .later [] [.data, .data, .data] true (true, "b5e5e48d6b7b7d6b328f998f06d5c4d3cd3a90654d0695fecca2b0e984e17d13") false
    fnExactFreshOps_over (fun _ h => by cases h) (by kernel_rfl) (fun _ h => by cases h) fnExactFreshOps_row_tie rfl ⟨rfl, rfl⟩ (by kernel_rfl) rfl
    (fun f fn hf hfn => by
      obtain rfl : f = 3 := Option.some.inj ((show Tryd.prog.funcNamed "loop.example/g00971/laws.FnExactFreshOps" = some 3 from fnExactFreshOps_c1).symm.trans hf) |>.symm
      obtain rfl : fn = Tryd.f3 := (Option.some.inj (Tryd.func3.symm.trans hfn)).symm
      exact ⟨by kernel_rfl, fun j t ht => by
        have hall : (Tryd.f3.params.all fun u => !Tryd.prog.wantsStandIn u) = true := by kernel_rfl
        have := Array.all_eq_true.1 hall j (Array.getElem?_eq_some_iff.1 ht).1
        rw [(Array.getElem?_eq_some_iff.1 ht).2] at this
        exact (show Tryd.prog.wantsStandIn t = false by simpa using this)⟩)
    (by kernel_rfl)
end Go.Proofs.YthpamcbipmkimaaDoor.V
namespace Go.Proofs.YthpamcbipmkimaaDoor
/-- The card, under a short name, for the claim. -/
theorem fnExactFreshOps_holds : Rows.FnExactFreshOpsCardSaid := V.fnExactFreshOps_card
#print axioms fnExactFreshOps_holds
end Go.Proofs.YthpamcbipmkimaaDoor
