/- For every input the law FnExactLogSeek of the given program returns true, and its arguments read behind the call as before; the library's tables as the program's text lays them (tied). No other condition. -/
import Derived.Test.YtggmbjbmklimdaaGreatDoorS4
import Derived.Test.YtggmbjbmklimdaaGreatDoorRows
import Derived.Test.YtggmbjbmklimdaaGreatDoorCards
import Derived.Test.YtggmbjbmklimdaaGreatDoorTie
import Derived.WalkKit
import Derived.ProofKit
import Derived.ChangeOld
import Derived.SizedLaws
import Derived.LaidMore
import Derived.OpenShut
import Derived.Stop.Joined
import Derived.Stop.LaidErr
import Derived.SevenTiedAt
set_option linter.unusedVariables false
set_option linter.unusedSimpArgs false
namespace Go.Proofs.YtggmbjbmklimdaaGreatDoor.V

set_option maxRecDepth 100000 in
theorem fnExactLogSeek_globals {W : World} (h : laidMetH Tryz.prog [("math/bits.deBruijn32tab", Rows.laid_math_bits_deBruijn32tab), ("math/bits.deBruijn64tab", Rows.laid_math_bits_deBruijn64tab), ("internal/strconv.uint64pow10", Rows.laid_internal_strconv_uint64pow10)] W) : GlobOk Tryz.prog W (okOld W) := by
  rw [MakeChecks.laidMetH_plain _ _ _ (by kernel_rfl)] at h
  have h0 : laidMet Tryz.prog [("math/bits.deBruijn32tab", Lib.tabData .u8 tab32), ("math/bits.deBruijn64tab", Lib.tabData .u8 tab64), ("internal/strconv.uint64pow10", Lib.tabData .u64 tabTen)] W := h
  have t0 : Lib.TabIs Tryz.prog W "math/bits.deBruijn32tab" .u8 tab32 := Lib.tabIs_of_head (g := 4) (t := 256) (e := 5) (n := 32) (by kernel_rfl) (by kernel_rfl) (by kernel_rfl) (by kernel_rfl) (by kernel_rfl) (by kernel_rfl) (h0)
  have t1 : Lib.TabIs Tryz.prog W "math/bits.deBruijn64tab" .u8 tab64 := Lib.tabIs_of_head (g := 5) (t := 257) (e := 5) (n := 64) (by kernel_rfl) (by kernel_rfl) (by kernel_rfl) (by kernel_rfl) (by kernel_rfl) (by kernel_rfl) ((h0).tail)
  have t2 : Lib.TabIs Tryz.prog W "internal/strconv.uint64pow10" .u64 tabTen := Lib.tabIs_of_head (g := 0) (t := 237) (e := 156) (n := 20) (by kernel_rfl) (by kernel_rfl) (by kernel_rfl) (by kernel_rfl) (by kernel_rfl) (by kernel_rfl) (((h0).tail).tail)
  exact globOk_of (by kernel_rfl) t0 t1 t2

set_option maxRecDepth 100000 in
theorem fnExactLogSeek_door (os : Os) (args : Array Value) : laidMetH Tryz.prog [("math/bits.deBruijn32tab", Rows.laid_math_bits_deBruijn32tab), ("math/bits.deBruijn64tab", Rows.laid_math_bits_deBruijn64tab), ("internal/strconv.uint64pow10", Rows.laid_internal_strconv_uint64pow10)] ((World.doorLaid Tryz.prog 62 os).forCall (fun _ _ => 0) ⟨#[], args, []⟩).memory :=
  laidMetH_of_parts3 (fuel := 8) (laidMet_of_run' 8 (by kernel_rfl) (by kernel_rfl)) (by kernel_rfl) (by kernel_rfl)

set_option maxRecDepth 100000 in
theorem fnExactLogSeek_lifted (os : Os) (started : os.Started) (H : Type) (enc : TypeId × Value → H) :
    ReturnsInHanded {} Tryz.checked os 3 .any (fun w args => (Rows.fnExactLogSeekSpec.pre enc Tryz.prog Tryz.f3 [] false w args ∧ laidMetH Tryz.prog [("math/bits.deBruijn32tab", Rows.laid_math_bits_deBruijn32tab), ("math/bits.deBruijn64tab", Rows.laid_math_bits_deBruijn64tab), ("internal/strconv.uint64pow10", Rows.laid_internal_strconv_uint64pow10)] w) ∧ sizedMet enc Tryz.prog Tryz.f3 (OpenSpec.ofChange Rows.fnExactLogSeekSpec) false w args)
      (Rows.fnExactLogSeekSpec.post enc Tryz.prog Tryz.f3 false true false false) := by
  refine returnsInHanded_of_change_and (C := Tryz.checked) (X := fun w _ => laidMetH Tryz.prog [("math/bits.deBruijn32tab", Rows.laid_math_bits_deBruijn32tab), ("math/bits.deBruijn64tab", Rows.laid_math_bits_deBruijn64tab), ("internal/strconv.uint64pow10", Rows.laid_internal_strconv_uint64pow10)] w) (fun _ _ _ hh h => h.of_heap hh) (by kernel_rfl) started (by kernel_rfl) Tryz.func3
    (ChangeSpec.witness_shaped (enc := enc) (C := Tryz.checked) (os := os) (X := fun w _ => laidMetH Tryz.prog [("math/bits.deBruijn32tab", Rows.laid_math_bits_deBruijn32tab), ("math/bits.deBruijn64tab", Rows.laid_math_bits_deBruijn64tab), ("internal/strconv.uint64pow10", Rows.laid_internal_strconv_uint64pow10)] w) false (World.doorLaid Tryz.prog 62 os) #[.agg #[.slice none 0 0, .slice none 0 0, .slice none 0 0, .slice none 0 0, .int .i64 0, .int .i64 0], .int .i64 0] 8 rfl (World.shaped_of_RefB (by kernel_rfl) (by kernel_rfl)) (by kernel_rfl) (by kernel_rfl) (by kernel_rfl) (fnExactLogSeek_door os _)) ?_
  intro W base args ds gs before hval hW _ hsz hL _
  exact law_contract (E := E0) E0_sound ⟨(tys_ok tyTab_ok).2⟩ Tryz.func3 (by rfl) (by kernel_rfl) lLogSeek_sound (n := 8) (by kernel_rfl) (by kernel_rfl) (by kernel_rfl) rfl (bt := 4) (by kernel_rfl) (by kernel_rfl)
    (fun H ds hd => by
      have : ds.length = 2 := hd
      match ds, this with
      | [d0, d1], _ => rfl) (fun cs hf => by
      obtain ⟨hl, hk⟩ := hf
      have hl : cs.length = 7 := hl
      match cs, hl with
      | [x0, x1, x2, x3, x4, x5, x6], _ =>
        have h0 := hk 0 (.slice 120) x0 rfl rfl
        obtain ⟨r0, rfl, f0⟩ := fit_sl h0
        obtain ⟨len0, ok0⟩ := f0 _ rfl (by decide)
        obtain ⟨q0, e0, tx0⟩ := fit_texts h0
        obtain rfl := C.sl.inj e0
        have h1 := hk 1 (.slice 123) x1 rfl rfl
        obtain ⟨r1, rfl, f1⟩ := fit_sl h1
        obtain ⟨len1, ok1⟩ := f1 _ rfl (by decide)
        obtain ⟨q1, e1, tx1⟩ := fit_texts h1
        obtain rfl := C.sl.inj e1
        have h2 := hk 2 (.slice 123) x2 rfl rfl
        obtain ⟨r2, rfl, f2⟩ := fit_sl h2
        obtain ⟨len2, ok2⟩ := f2 _ rfl (by decide)
        obtain ⟨q2, e2, tx2⟩ := fit_texts h2
        obtain rfl := C.sl.inj e2
        have h3 := hk 3 (.slice 9) x3 rfl rfl
        obtain ⟨r3, rfl, f3⟩ := fit_sl h3
        obtain ⟨len3, ok3⟩ := f3 _ rfl (by decide)
        obtain ⟨q3, e3, tx3⟩ := fit_texts h3
        obtain rfl := C.sl.inj e3
        have h4 := hk 4 (.int .i64) x4 rfl rfl
        obtain ⟨n4, rfl, lo4, hi4⟩ := fit_i64 h4
        have h5 := hk 5 (.int .i64) x5 rfl rfl
        obtain ⟨n5, rfl, lo5, hi5⟩ := fit_i64 h5
        have h6 := hk 6 (.int .i64) x6 rfl rfl
        obtain ⟨n6, rfl, lo6, hi6⟩ := fit_i64 h6
        simp only [diskIntLaw, lawDisk, diskLens, diskRows, diskTexts, Option.some.injEq, Prod.mk.injEq, Bool.and_eq_true, decide_eq_true_eq, and_true]
        repeat' apply And.intro
        all_goals first | assumption | omega) hval hW hsz (fnExactLogSeek_globals hL)

set_option maxRecDepth 100000 in
theorem fnExactLogSeek_named : Tryz.pinned.checked.prog.funcNamed Rows.fnExactLogSeekRow.func = some 3 := by kernel_rfl
set_option maxRecDepth 100000 in
theorem fnExactLogSeek_joined : joinedFacts Tryz.pinned.checked.prog 3 Tryz.f3 Rows.fnExactLogSeekSpec Rows.fnExactLogSeekRow = true := by kernel_rfl
set_option maxRecDepth 100000 in
theorem fnExactLogSeek_inst : Func.isInstance Tryz.pinned.checked.prog Tryz.f3 Rows.fnExactLogSeekRow.origin Rows.fnExactLogSeekRow.targs := of_decide_eq_true (by kernel_rfl)
set_option maxRecDepth 100000 in
theorem fnExactLogSeek_wrap : Func.isWrapper Tryz.pinned.checked.prog Tryz.f3 Rows.fnExactLogSeekRow.wrapper Rows.fnExactLogSeekRow.mainSum := by
  unfold Func.isWrapper; first | (rw [if_pos (by decide +kernel)]; kernel_rfl) | (rw [if_neg (by decide +kernel)]; exact ⟨rfl, rfl⟩)
set_option maxRecDepth 100000 in
theorem fnExactLogSeek_over : Rows.fnExactLogSeekRow.holds Tryz.pinned (OpenSpec.ofChange Rows.fnExactLogSeekSpec) :=
  OpenClaim.holds_of_wide 3 Tryz.f3 rfl rfl rfl rfl rfl rfl rfl ⟨rfl, rfl, rfl, rfl, rfl⟩ rfl rfl rfl rfl rfl fnExactLogSeek_named Tryz.func3 fnExactLogSeek_joined
    fnExactLogSeek_inst fnExactLogSeek_wrap
    (fun os started H enc _ => fnExactLogSeek_lifted os started H enc)
set_option maxRecDepth 100000 in
theorem fnExactLogSeek_c1 : Tryz.pinned.checked.prog.funcNamed Rows.fnExactLogSeekRow.func = some 3 := by kernel_rfl
set_option maxRecDepth 100000 in
theorem fnExactLogSeek_card : Rows.FnExactLogSeekCardSaid :=
  Claim7.holds_tied_plain_at .later [] [.data, .data, .data] true (true, "decdaae3149bd899a5c0b5ce4a20a38efa6c8803dbaa75184c9d8c934aa94dcf") true
    fnExactLogSeek_over (fun _ h => by cases h) (by kernel_rfl) (fun _ h => by cases h) fnExactLogSeek_row_tie rfl ⟨rfl, rfl⟩ (by kernel_rfl) rfl
    (fun f fn hf hfn => by
      obtain rfl : f = 3 := Option.some.inj ((show Tryz.prog.funcNamed "loop.example/g00971/laws.FnExactLogSeek" = some 3 from fnExactLogSeek_c1).symm.trans hf) |>.symm
      obtain rfl : fn = Tryz.f3 := (Option.some.inj (Tryz.func3.symm.trans hfn)).symm
      exact ⟨by kernel_rfl, fun j t ht => by
        have hall : (Tryz.f3.params.all fun u => !Tryz.prog.wantsStandIn u) = true := by kernel_rfl
        have := Array.all_eq_true.1 hall j (Array.getElem?_eq_some_iff.1 ht).1
        rw [(Array.getElem?_eq_some_iff.1 ht).2] at this
        exact (show Tryz.prog.wantsStandIn t = false by simpa using this)⟩)
    (by kernel_rfl)
end Go.Proofs.YtggmbjbmklimdaaGreatDoor.V
namespace Go.Proofs.YtggmbjbmklimdaaGreatDoor
/-- The card, under a short name, for the claim. -/
theorem fnExactLogSeek_holds : Rows.FnExactLogSeekCardSaid := V.fnExactLogSeek_card
#print axioms fnExactLogSeek_holds
end Go.Proofs.YtggmbjbmklimdaaGreatDoor
