/- For every input the law FnReader of the given program returns true, and its arguments read behind the call as before; the library's tables as the program's text lays them (tied). No other condition. -/
import Derived.Test.YtajoeindkdhofaaGreatDoorS4
import Derived.Test.YtajoeindkdhofaaGreatDoorRows
import Derived.Test.YtajoeindkdhofaaGreatDoorCards
import Derived.Test.YtajoeindkdhofaaGreatDoorTie
import Derived.WalkKit
import Derived.ProofKit
import Derived.ChangeOld
import Derived.SizedLaws
import Derived.LaidMore
import Derived.OpenShut
import Derived.Stop.Joined
import Derived.Stop.LaidErr
import Derived.SevenTiedAt
set_option linter.unusedVariables false
set_option linter.unusedSimpArgs false
namespace Go.Proofs.YtajoeindkdhofaaGreatDoor.V

set_option maxRecDepth 100000 in
theorem fnReader_globals {W : World} (h : laidMetH Tryz.prog [("math/bits.deBruijn32tab", Rows.laid_math_bits_deBruijn32tab), ("math/bits.deBruijn64tab", Rows.laid_math_bits_deBruijn64tab), ("internal/strconv.uint64pow10", Rows.laid_internal_strconv_uint64pow10)] W) : bCl Tryz.prog W (bAt W) := by
  rw [MakeChecks.laidMetH_plain _ _ _ (by kernel_rfl)] at h
  have h0 : laidMet Tryz.prog [("math/bits.deBruijn32tab", Lib.tabData .u8 bU5), ("math/bits.deBruijn64tab", Lib.tabData .u8 bU4), ("internal/strconv.uint64pow10", Lib.tabData .u64 bH4)] W := h
  have t0 : Lib.TabIs Tryz.prog W "math/bits.deBruijn32tab" .u8 bU5 := Lib.tabIs_of_head (g := 2) (t := 182) (e := 5) (n := 32) (by kernel_rfl) (by kernel_rfl) (by kernel_rfl) (by kernel_rfl) (by kernel_rfl) (by kernel_rfl) (h0)
  have t1 : Lib.TabIs Tryz.prog W "math/bits.deBruijn64tab" .u8 bU4 := Lib.tabIs_of_head (g := 3) (t := 183) (e := 5) (n := 64) (by kernel_rfl) (by kernel_rfl) (by kernel_rfl) (by kernel_rfl) (by kernel_rfl) (by kernel_rfl) ((h0).tail)
  have t2 : Lib.TabIs Tryz.prog W "internal/strconv.uint64pow10" .u64 bH4 := Lib.tabIs_of_head (g := 0) (t := 176) (e := 160) (n := 20) (by kernel_rfl) (by kernel_rfl) (by kernel_rfl) (by kernel_rfl) (by kernel_rfl) (by kernel_rfl) (((h0).tail).tail)
  exact bWv (by kernel_rfl) t0 t1 t2

set_option maxRecDepth 100000 in
theorem fnReader_door (os : Os) (args : Array Value) : laidMetH Tryz.prog [("math/bits.deBruijn32tab", Rows.laid_math_bits_deBruijn32tab), ("math/bits.deBruijn64tab", Rows.laid_math_bits_deBruijn64tab), ("internal/strconv.uint64pow10", Rows.laid_internal_strconv_uint64pow10)] ((World.doorLaid Tryz.prog 24 os).forCall (fun _ _ => 0) ⟨#[], args, []⟩).memory :=
  laidMetH_of_parts3 (fuel := 8) (laidMet_of_run' 8 (by kernel_rfl) (by kernel_rfl)) (by kernel_rfl) (by kernel_rfl)

set_option maxRecDepth 100000 in
theorem fnReader_lifted (os : Os) (started : os.Started) (H : Type) (enc : TypeId × Value → H) :
    ReturnsInHanded {} Tryz.checked os 4 .any (fun w args => (Rows.fnReaderSpec.pre enc Tryz.prog Tryz.f4 [] false w args ∧ laidMetH Tryz.prog [("math/bits.deBruijn32tab", Rows.laid_math_bits_deBruijn32tab), ("math/bits.deBruijn64tab", Rows.laid_math_bits_deBruijn64tab), ("internal/strconv.uint64pow10", Rows.laid_internal_strconv_uint64pow10)] w) ∧ sizedMet enc Tryz.prog Tryz.f4 (OpenSpec.ofChange Rows.fnReaderSpec) false w args)
      (Rows.fnReaderSpec.post enc Tryz.prog Tryz.f4 false true false false) := by
  refine returnsInHanded_of_change_and (C := Tryz.checked) (X := fun w _ => laidMetH Tryz.prog [("math/bits.deBruijn32tab", Rows.laid_math_bits_deBruijn32tab), ("math/bits.deBruijn64tab", Rows.laid_math_bits_deBruijn64tab), ("internal/strconv.uint64pow10", Rows.laid_internal_strconv_uint64pow10)] w) (fun _ _ _ hh h => h.of_heap hh) (by kernel_rfl) started (by kernel_rfl) Tryz.func4
    (ChangeSpec.witness_shaped (enc := enc) (C := Tryz.checked) (os := os) (X := fun w _ => laidMetH Tryz.prog [("math/bits.deBruijn32tab", Rows.laid_math_bits_deBruijn32tab), ("math/bits.deBruijn64tab", Rows.laid_math_bits_deBruijn64tab), ("internal/strconv.uint64pow10", Rows.laid_internal_strconv_uint64pow10)] w) false (World.doorLaid Tryz.prog 24 os) #[.slice none 0 0] 8 rfl (World.shaped_of_RefB (by kernel_rfl) (by kernel_rfl)) (by kernel_rfl) (by kernel_rfl) (by kernel_rfl) (fnReader_door os _)) ?_
  intro W base args ds gs before hval hW _ hsz hL _
  exact bJi (E := E0) cAx ⟨(bOx aVo).2⟩ Tryz.func4 (by rfl) (by kernel_rfl) bEz (n := 8) (by kernel_rfl) (by kernel_rfl) (by kernel_rfl) rfl (bt := 4) (by kernel_rfl) (by kernel_rfl)
    (fun H ds hd => by
      have : ds.length = 1 := hd
      match ds, this with
      | [d0], _ => rfl) (fun cs hf => by
      obtain ⟨hl, hk⟩ := hf
      have hl : cs.length = 1 := hl
      match cs, hl with
      | [x0], _ =>
        have h0 := hk 0 (.slice 5) x0 rfl rfl
        obtain ⟨r0, rfl, f0⟩ := cFe h0
        obtain ⟨len0, ok0⟩ := f0 _ rfl (by decide)
        obtain ⟨q0, e0, tx0⟩ := bX1 h0
        obtain rfl := C.sl.inj e0
        simp only [bGc, Option.some.injEq, Prod.mk.injEq, Bool.and_eq_true, decide_eq_true_eq, and_true]
        repeat' apply And.intro
        all_goals first | assumption | omega) hval hW hsz (fnReader_globals hL)

set_option maxRecDepth 100000 in
theorem fnReader_named : Tryz.pinned.checked.prog.funcNamed Rows.fnReaderRow.func = some 4 := by kernel_rfl
set_option maxRecDepth 100000 in
theorem fnReader_joined : joinedFacts Tryz.pinned.checked.prog 4 Tryz.f4 Rows.fnReaderSpec Rows.fnReaderRow = true := by kernel_rfl
set_option maxRecDepth 100000 in
theorem fnReader_inst : Func.isInstance Tryz.pinned.checked.prog Tryz.f4 Rows.fnReaderRow.origin Rows.fnReaderRow.targs := of_decide_eq_true (by kernel_rfl)
set_option maxRecDepth 100000 in
theorem fnReader_wrap : Func.isWrapper Tryz.pinned.checked.prog Tryz.f4 Rows.fnReaderRow.wrapper Rows.fnReaderRow.mainSum := by
  unfold Func.isWrapper; first | (rw [if_pos (by decide +kernel)]; kernel_rfl) | (rw [if_neg (by decide +kernel)]; exact ⟨rfl, rfl⟩)
set_option maxRecDepth 100000 in
theorem fnReader_over : Rows.fnReaderRow.holds Tryz.pinned (OpenSpec.ofChange Rows.fnReaderSpec) :=
  OpenClaim.holds_of_wide 4 Tryz.f4 rfl rfl rfl rfl rfl rfl rfl ⟨rfl, rfl, rfl, rfl, rfl⟩ rfl rfl rfl rfl rfl fnReader_named Tryz.func4 fnReader_joined
    fnReader_inst fnReader_wrap
    (fun os started H enc _ => fnReader_lifted os started H enc)
set_option maxRecDepth 100000 in
theorem fnReader_c1 : Tryz.pinned.checked.prog.funcNamed Rows.fnReaderRow.func = some 4 := by kernel_rfl
set_option maxRecDepth 100000 in
theorem fnReader_card : Rows.FnReaderCardSaid :=
  Claim7.holds_tied_plain_at .later [] [.data, .data, .data] true (true, "091346e1574f981aa886f4a7b90e44568bd1e3ebcb508dbd8c7d1f62e14f1b8f") false
    fnReader_over (fun _ h => by cases h) (by kernel_rfl) (fun _ h => by cases h) fnReader_row_tie rfl ⟨rfl, rfl⟩ (by kernel_rfl) rfl
    (fun f fn hf hfn => by
      obtain rfl : f = 4 := Option.some.inj ((show Tryz.prog.funcNamed "loop.example/g00971/laws.FnReader" = some 4 from fnReader_c1).symm.trans hf) |>.symm
      obtain rfl : fn = Tryz.f4 := (Option.some.inj (Tryz.func4.symm.trans hfn)).symm
      exact ⟨by kernel_rfl, fun j t ht => by
        have hall : (Tryz.f4.params.all fun u => !Tryz.prog.wantsStandIn u) = true := by kernel_rfl
        have := Array.all_eq_true.1 hall j (Array.getElem?_eq_some_iff.1 ht).1
        rw [(Array.getElem?_eq_some_iff.1 ht).2] at this
        exact (show Tryz.prog.wantsStandIn t = false by simpa using this)⟩)
    (by kernel_rfl)
end Go.Proofs.YtajoeindkdhofaaGreatDoor.V
namespace Go.Proofs.YtajoeindkdhofaaGreatDoor
/-- The card, under a short name, for the claim. -/
theorem fnReader_holds : Rows.FnReaderCardSaid := V.fnReader_card
#print axioms fnReader_holds
end Go.Proofs.YtajoeindkdhofaaGreatDoor
