/- For every input the law FnExactWriterAt of the given program returns true, and its arguments read behind the call as before; the library's tables as the program's text lays them (tied). No other condition. -/
import Derived.Test.YtfljomghcbaepaaGreatDoorS3
import Derived.Test.YtfljomghcbaepaaGreatDoorRows
import Derived.Test.YtfljomghcbaepaaGreatDoorCards
import Derived.Test.YtfljomghcbaepaaGreatDoorTie
import Derived.WalkKit
import Derived.ProofKit
import Derived.ChangeOld
import Derived.SizedLaws
import Derived.LaidMore
import Derived.OpenShut
import Derived.Stop.Joined
import Derived.Stop.LaidErr
import Derived.SevenTiedAt
set_option linter.unusedVariables false
set_option linter.unusedSimpArgs false
namespace Go.Proofs.YtfljomghcbaepaaGreatDoor.V

theorem fnExactWriterAt_star : "*" ++ "errors.errorString" = "*errors.errorString" := by decide
theorem fnExactWriterAt_row (u : TypeId) (h : Tryz.prog.typeName? 3 u = some "*errors.errorString") : u = 201 :=
  typeName_ptr_named (nm := "errors.errorString") (by rw [fnExactWriterAt_star]; kernel_rfl) (by kernel_rfl) (by decide) u (by rw [fnExactWriterAt_star]; exact h)
set_option maxRecDepth 100000 in
theorem fnExactWriterAt_globals {W : World} (h : laidMetH Tryz.prog [("math/bits.deBruijn32tab", Rows.laid_math_bits_deBruijn32tab), ("math/bits.deBruijn64tab", Rows.laid_math_bits_deBruijn64tab), ("internal/strconv.uint64pow10", Rows.laid_internal_strconv_uint64pow10), ("strconv.ErrRange", Rows.laid_strconv_ErrRange), ("strconv.ErrSyntax", Rows.laid_strconv_ErrSyntax)] W) : bA6 Tryz.prog W (aYa W) := by
  rw [MakeChecks.laidMetH_plain _ _ _ (by kernel_rfl)] at h
  have h0 : laidMet Tryz.prog [("math/bits.deBruijn32tab", Lib.tabData .u8 bQx), ("math/bits.deBruijn64tab", Lib.tabData .u8 bQw), ("internal/strconv.uint64pow10", Lib.tabData .u64 bEs), ("strconv.ErrRange", .iface "*errors.errorString" (.ptr (.agg [.lit (.string [118, 97, 108, 117, 101, 32, 111, 117, 116, 32, 111, 102, 32, 114, 97, 110, 103, 101])]))), ("strconv.ErrSyntax", .iface "*errors.errorString" (.ptr (.agg [.lit (.string [105, 110, 118, 97, 108, 105, 100, 32, 115, 121, 110, 116, 97, 120])])))] W := h
  have t0 : Lib.TabIs Tryz.prog W "math/bits.deBruijn32tab" .u8 bQx := Lib.tabIs_of_head (g := 4) (t := 204) (e := 5) (n := 32) (by kernel_rfl) (by kernel_rfl) (by kernel_rfl) (by kernel_rfl) (by kernel_rfl) (by kernel_rfl) (h0)
  have t1 : Lib.TabIs Tryz.prog W "math/bits.deBruijn64tab" .u8 bQw := Lib.tabIs_of_head (g := 5) (t := 205) (e := 5) (n := 64) (by kernel_rfl) (by kernel_rfl) (by kernel_rfl) (by kernel_rfl) (by kernel_rfl) (by kernel_rfl) ((h0).tail)
  have t2 : Lib.TabIs Tryz.prog W "internal/strconv.uint64pow10" .u64 bEs := Lib.tabIs_of_head (g := 0) (t := 190) (e := 120) (n := 20) (by kernel_rfl) (by kernel_rfl) (by kernel_rfl) (by kernel_rfl) (by kernel_rfl) (by kernel_rfl) (((h0).tail).tail)
  have t3 : bM3 Tryz.prog W "strconv.ErrRange" := fun g hg => by
    obtain rfl : 2 = g := Option.some.inj ((show Tryz.prog.globalNamed "strconv.ErrRange" = some 2 by kernel_rfl).symm.trans hg)
    obtain ⟨a, s, hv, _⟩ := laid_sentinel (g := 2) (ti := 122) (tp := 201) (te := 203) (ts := 9) ((((h0).tail).tail).tail) (by kernel_rfl) (by kernel_rfl) Tryz.underlying122 fnExactWriterAt_row Tryz.underlying201 Tryz.underlying203 rfl rfl Tryz.underlying9 (by kernel_rfl) (by kernel_rfl)
    exact ⟨_, _, by simpa using World.var?_cell (by kernel_rfl) hv 0⟩
  have t4 : bM3 Tryz.prog W "strconv.ErrSyntax" := fun g hg => by
    obtain rfl : 1 = g := Option.some.inj ((show Tryz.prog.globalNamed "strconv.ErrSyntax" = some 1 by kernel_rfl).symm.trans hg)
    obtain ⟨a, s, hv, _⟩ := laid_sentinel (g := 1) (ti := 122) (tp := 201) (te := 203) (ts := 9) (((((h0).tail).tail).tail).tail) (by kernel_rfl) (by kernel_rfl) Tryz.underlying122 fnExactWriterAt_row Tryz.underlying201 Tryz.underlying203 rfl rfl Tryz.underlying9 (by kernel_rfl) (by kernel_rfl)
    exact ⟨_, _, by simpa using World.var?_cell (by kernel_rfl) hv 0⟩
  exact bT0 (by kernel_rfl) t0 t1 t2 t4 t3

set_option maxRecDepth 100000 in
theorem fnExactWriterAt_door (os : Os) (args : Array Value) : laidMetH Tryz.prog [("math/bits.deBruijn32tab", Rows.laid_math_bits_deBruijn32tab), ("math/bits.deBruijn64tab", Rows.laid_math_bits_deBruijn64tab), ("internal/strconv.uint64pow10", Rows.laid_internal_strconv_uint64pow10), ("strconv.ErrRange", Rows.laid_strconv_ErrRange), ("strconv.ErrSyntax", Rows.laid_strconv_ErrSyntax)] ((World.doorLaid Tryz.prog 62 os).forCall (fun _ _ => 0) ⟨#[], args, []⟩).memory :=
  laidMetH_of_parts3 (fuel := 8) (laidMet_of_run' 8 (by kernel_rfl) (by kernel_rfl)) (by kernel_rfl) (by kernel_rfl)

set_option maxRecDepth 100000 in
theorem fnExactWriterAt_lifted (os : Os) (started : os.Started) (H : Type) (enc : TypeId × Value → H) :
    ReturnsInHanded {} Tryz.checked os 5 .any (fun w args => (Rows.fnExactWriterAtSpec.pre enc Tryz.prog Tryz.f5 [] false w args ∧ laidMetH Tryz.prog [("math/bits.deBruijn32tab", Rows.laid_math_bits_deBruijn32tab), ("math/bits.deBruijn64tab", Rows.laid_math_bits_deBruijn64tab), ("internal/strconv.uint64pow10", Rows.laid_internal_strconv_uint64pow10), ("strconv.ErrRange", Rows.laid_strconv_ErrRange), ("strconv.ErrSyntax", Rows.laid_strconv_ErrSyntax)] w) ∧ sizedMet enc Tryz.prog Tryz.f5 (OpenSpec.ofChange Rows.fnExactWriterAtSpec) false w args)
      (Rows.fnExactWriterAtSpec.post enc Tryz.prog Tryz.f5 false true false false) := by
  refine returnsInHanded_of_change_and (C := Tryz.checked) (X := fun w _ => laidMetH Tryz.prog [("math/bits.deBruijn32tab", Rows.laid_math_bits_deBruijn32tab), ("math/bits.deBruijn64tab", Rows.laid_math_bits_deBruijn64tab), ("internal/strconv.uint64pow10", Rows.laid_internal_strconv_uint64pow10), ("strconv.ErrRange", Rows.laid_strconv_ErrRange), ("strconv.ErrSyntax", Rows.laid_strconv_ErrSyntax)] w) (fun _ _ _ hh h => h.of_heap hh) (by kernel_rfl) started (by kernel_rfl) Tryz.func5
    (ChangeSpec.witness_shaped (enc := enc) (C := Tryz.checked) (os := os) (X := fun w _ => laidMetH Tryz.prog [("math/bits.deBruijn32tab", Rows.laid_math_bits_deBruijn32tab), ("math/bits.deBruijn64tab", Rows.laid_math_bits_deBruijn64tab), ("internal/strconv.uint64pow10", Rows.laid_internal_strconv_uint64pow10), ("strconv.ErrRange", Rows.laid_strconv_ErrRange), ("strconv.ErrSyntax", Rows.laid_strconv_ErrSyntax)] w) false (World.doorLaid Tryz.prog 62 os) #[.agg #[.slice none 0 0, .slice none 0 0, .slice none 0 0, .slice none 0 0, .int .i64 0, .int .i64 0], .int .i64 0, .int .i64 0, .int .i64 0] 8 rfl (World.shaped_of_RefB (by kernel_rfl) (by kernel_rfl)) (by kernel_rfl) (by kernel_rfl) (by kernel_rfl) (fnExactWriterAt_door os _)) ?_
  intro W base args ds gs before hval hW _ hsz hL _
  exact bGi (E := E0) bWy ⟨(bMa aSw).2⟩ Tryz.func5 (by rfl) (by kernel_rfl) aVk (n := 8) (by kernel_rfl) (by kernel_rfl) (by kernel_rfl) rfl (bt := 4) (by kernel_rfl) (by kernel_rfl)
    (fun H ds hd => by
      have : ds.length = 4 := hd
      match ds, this with
      | [d0, d1, d2, d3], _ => rfl) (fun cs hf => by
      obtain ⟨hl, hk⟩ := hf
      have hl : cs.length = 9 := hl
      match cs, hl with
      | [x0, x1, x2, x3, x4, x5, x6, x7, x8], _ =>
        have h0 := hk 0 (.slice 92) x0 rfl rfl
        obtain ⟨r0, rfl, f0⟩ := bMy h0
        obtain ⟨len0, ok0⟩ := f0 _ rfl (by decide)
        obtain ⟨q0, e0, tx0⟩ := aP9 h0
        obtain rfl := C.sl.inj e0
        have h1 := hk 1 (.slice 95) x1 rfl rfl
        obtain ⟨r1, rfl, f1⟩ := bMy h1
        obtain ⟨len1, ok1⟩ := f1 _ rfl (by decide)
        obtain ⟨q1, e1, tx1⟩ := aP9 h1
        obtain rfl := C.sl.inj e1
        have h2 := hk 2 (.slice 95) x2 rfl rfl
        obtain ⟨r2, rfl, f2⟩ := bMy h2
        obtain ⟨len2, ok2⟩ := f2 _ rfl (by decide)
        obtain ⟨q2, e2, tx2⟩ := aP9 h2
        obtain rfl := C.sl.inj e2
        have h3 := hk 3 (.slice 9) x3 rfl rfl
        obtain ⟨r3, rfl, f3⟩ := bMy h3
        obtain ⟨len3, ok3⟩ := f3 _ rfl (by decide)
        obtain ⟨q3, e3, tx3⟩ := aP9 h3
        obtain rfl := C.sl.inj e3
        have h4 := hk 4 (.int .i64) x4 rfl rfl
        obtain ⟨n4, rfl, lo4, hi4⟩ := aWa h4
        have h5 := hk 5 (.int .i64) x5 rfl rfl
        obtain ⟨n5, rfl, lo5, hi5⟩ := aWa h5
        have h6 := hk 6 (.int .i64) x6 rfl rfl
        obtain ⟨n6, rfl, lo6, hi6⟩ := aWa h6
        have h7 := hk 7 (.int .i64) x7 rfl rfl
        obtain ⟨n7, rfl, lo7, hi7⟩ := aWa h7
        have h8 := hk 8 (.int .i64) x8 rfl rfl
        obtain ⟨n8, rfl, lo8, hi8⟩ := aWa h8
        simp only [bDy, aQq, aC8, aBt, aHl, Option.some.injEq, Prod.mk.injEq, Bool.and_eq_true, decide_eq_true_eq, and_true]
        repeat' apply And.intro
        all_goals first | assumption | omega) hval hW hsz (fnExactWriterAt_globals hL)

set_option maxRecDepth 100000 in
theorem fnExactWriterAt_named : Tryz.pinned.checked.prog.funcNamed Rows.fnExactWriterAtRow.func = some 5 := by kernel_rfl
set_option maxRecDepth 100000 in
theorem fnExactWriterAt_joined : joinedFacts Tryz.pinned.checked.prog 5 Tryz.f5 Rows.fnExactWriterAtSpec Rows.fnExactWriterAtRow = true := by kernel_rfl
set_option maxRecDepth 100000 in
theorem fnExactWriterAt_inst : Func.isInstance Tryz.pinned.checked.prog Tryz.f5 Rows.fnExactWriterAtRow.origin Rows.fnExactWriterAtRow.targs := of_decide_eq_true (by kernel_rfl)
set_option maxRecDepth 100000 in
theorem fnExactWriterAt_wrap : Func.isWrapper Tryz.pinned.checked.prog Tryz.f5 Rows.fnExactWriterAtRow.wrapper Rows.fnExactWriterAtRow.mainSum := by
  unfold Func.isWrapper; first | (rw [if_pos (by decide +kernel)]; kernel_rfl) | (rw [if_neg (by decide +kernel)]; exact ⟨rfl, rfl⟩)
set_option maxRecDepth 100000 in
theorem fnExactWriterAt_over : Rows.fnExactWriterAtRow.holds Tryz.pinned (OpenSpec.ofChange Rows.fnExactWriterAtSpec) :=
  OpenClaim.holds_of_wide 5 Tryz.f5 rfl rfl rfl rfl rfl rfl rfl ⟨rfl, rfl, rfl, rfl, rfl⟩ rfl rfl rfl rfl rfl fnExactWriterAt_named Tryz.func5 fnExactWriterAt_joined
    fnExactWriterAt_inst fnExactWriterAt_wrap
    (fun os started H enc _ => fnExactWriterAt_lifted os started H enc)
set_option maxRecDepth 100000 in
theorem fnExactWriterAt_c1 : Tryz.pinned.checked.prog.funcNamed Rows.fnExactWriterAtRow.func = some 5 := by kernel_rfl
set_option maxRecDepth 100000 in
theorem fnExactWriterAt_card : Rows.FnExactWriterAtCardSaid :=
  Claim7.holds_tied_plain_at .later [] [.data, .data, .data, .sentinel, .sentinel] true (true, "33ca9973b8b7e65e64e4b5bdba2196695d72e0fd24e61f11deab73790820bae4") true
    fnExactWriterAt_over (fun _ h => by cases h) (by kernel_rfl) (fun _ h => by cases h) fnExactWriterAt_row_tie rfl ⟨rfl, rfl⟩ (by kernel_rfl) rfl
    (fun f fn hf hfn => by
      obtain rfl : f = 5 := Option.some.inj ((show Tryz.prog.funcNamed "loop.example/g00971/laws.FnExactWriterAt" = some 5 from fnExactWriterAt_c1).symm.trans hf) |>.symm
      obtain rfl : fn = Tryz.f5 := (Option.some.inj (Tryz.func5.symm.trans hfn)).symm
      exact ⟨by kernel_rfl, fun j t ht => by
        have hall : (Tryz.f5.params.all fun u => !Tryz.prog.wantsStandIn u) = true := by kernel_rfl
        have := Array.all_eq_true.1 hall j (Array.getElem?_eq_some_iff.1 ht).1
        rw [(Array.getElem?_eq_some_iff.1 ht).2] at this
        exact (show Tryz.prog.wantsStandIn t = false by simpa using this)⟩)
    (by kernel_rfl)
end Go.Proofs.YtfljomghcbaepaaGreatDoor.V
namespace Go.Proofs.YtfljomghcbaepaaGreatDoor
/-- The card, under a short name, for the claim. -/
theorem fnExactWriterAt_holds : Rows.FnExactWriterAtCardSaid := V.fnExactWriterAt_card
#print axioms fnExactWriterAt_holds
end Go.Proofs.YtfljomghcbaepaaGreatDoor
