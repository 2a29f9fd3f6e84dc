/- For every input the law FnExactRunOps of the given program returns true, and its arguments read behind the call as before; the library's tables as the program's text lays them (tied). No other condition. -/
import Derived.Test.YtigodjkegcibhaaGreatDoorS3
import Derived.Test.YtigodjkegcibhaaGreatDoorRows
import Derived.Test.YtigodjkegcibhaaGreatDoorCards
import Derived.Test.YtigodjkegcibhaaGreatDoorTie
import Derived.WalkKit
import Derived.ProofKit
import Derived.ChangeOld
import Derived.SizedLaws
import Derived.LaidMore
import Derived.OpenShut
import Derived.Stop.Joined
import Derived.Stop.LaidErr
import Derived.SevenTiedAt
set_option linter.unusedVariables false
set_option linter.unusedSimpArgs false
namespace Go.Proofs.YtigodjkegcibhaaGreatDoor.V

theorem fnExactRunOps_star : "*" ++ "errors.errorString" = "*errors.errorString" := by decide
theorem fnExactRunOps_row (u : TypeId) (h : Tryz.prog.typeName? 3 u = some "*errors.errorString") : u = 215 :=
  typeName_ptr_named (nm := "errors.errorString") (by rw [fnExactRunOps_star]; kernel_rfl) (by kernel_rfl) (by decide) u (by rw [fnExactRunOps_star]; exact h)
set_option maxRecDepth 100000 in
theorem fnExactRunOps_globals {W : World} (h : laidMetH Tryz.prog [("math/bits.deBruijn32tab", Rows.laid_math_bits_deBruijn32tab), ("math/bits.deBruijn64tab", Rows.laid_math_bits_deBruijn64tab), ("internal/strconv.uint64pow10", Rows.laid_internal_strconv_uint64pow10), ("strconv.ErrRange", Rows.laid_strconv_ErrRange), ("strconv.ErrSyntax", Rows.laid_strconv_ErrSyntax)] W) : aMy Tryz.prog W (aT2 W) := by
  rw [MakeChecks.laidMetH_plain _ _ _ (by kernel_rfl)] at h
  have h0 : laidMet Tryz.prog [("math/bits.deBruijn32tab", Lib.tabData .u8 bJp), ("math/bits.deBruijn64tab", Lib.tabData .u8 bJo), ("internal/strconv.uint64pow10", Lib.tabData .u64 aL0), ("strconv.ErrRange", .iface "*errors.errorString" (.ptr (.agg [.lit (.string [118, 97, 108, 117, 101, 32, 111, 117, 116, 32, 111, 102, 32, 114, 97, 110, 103, 101])]))), ("strconv.ErrSyntax", .iface "*errors.errorString" (.ptr (.agg [.lit (.string [105, 110, 118, 97, 108, 105, 100, 32, 115, 121, 110, 116, 97, 120])])))] W := h
  have t0 : Lib.TabIs Tryz.prog W "math/bits.deBruijn32tab" .u8 bJp := Lib.tabIs_of_head (g := 4) (t := 212) (e := 5) (n := 32) (by kernel_rfl) (by kernel_rfl) (by kernel_rfl) (by kernel_rfl) (by kernel_rfl) (by kernel_rfl) (h0)
  have t1 : Lib.TabIs Tryz.prog W "math/bits.deBruijn64tab" .u8 bJo := Lib.tabIs_of_head (g := 5) (t := 213) (e := 5) (n := 64) (by kernel_rfl) (by kernel_rfl) (by kernel_rfl) (by kernel_rfl) (by kernel_rfl) (by kernel_rfl) ((h0).tail)
  have t2 : Lib.TabIs Tryz.prog W "internal/strconv.uint64pow10" .u64 aL0 := Lib.tabIs_of_head (g := 0) (t := 187) (e := 165) (n := 20) (by kernel_rfl) (by kernel_rfl) (by kernel_rfl) (by kernel_rfl) (by kernel_rfl) (by kernel_rfl) (((h0).tail).tail)
  have t3 : bEe Tryz.prog W "strconv.ErrRange" := fun g hg => by
    obtain rfl : 3 = g := Option.some.inj ((show Tryz.prog.globalNamed "strconv.ErrRange" = some 3 by kernel_rfl).symm.trans hg)
    obtain ⟨a, s, hv, _⟩ := laid_sentinel (g := 3) (ti := 151) (tp := 215) (te := 217) (ts := 9) ((((h0).tail).tail).tail) (by kernel_rfl) (by kernel_rfl) Tryz.underlying151 fnExactRunOps_row Tryz.underlying215 Tryz.underlying217 rfl rfl Tryz.underlying9 (by kernel_rfl) (by kernel_rfl)
    exact ⟨_, _, by simpa using World.var?_cell (by kernel_rfl) hv 0⟩
  have t4 : bEe Tryz.prog W "strconv.ErrSyntax" := fun g hg => by
    obtain rfl : 2 = g := Option.some.inj ((show Tryz.prog.globalNamed "strconv.ErrSyntax" = some 2 by kernel_rfl).symm.trans hg)
    obtain ⟨a, s, hv, _⟩ := laid_sentinel (g := 2) (ti := 151) (tp := 215) (te := 217) (ts := 9) (((((h0).tail).tail).tail).tail) (by kernel_rfl) (by kernel_rfl) Tryz.underlying151 fnExactRunOps_row Tryz.underlying215 Tryz.underlying217 rfl rfl Tryz.underlying9 (by kernel_rfl) (by kernel_rfl)
    exact ⟨_, _, by simpa using World.var?_cell (by kernel_rfl) hv 0⟩
  exact bLv (by kernel_rfl) t0 t1 t2 t4 t3

set_option maxRecDepth 100000 in
theorem fnExactRunOps_door (os : Os) (args : Array Value) : laidMetH Tryz.prog [("math/bits.deBruijn32tab", Rows.laid_math_bits_deBruijn32tab), ("math/bits.deBruijn64tab", Rows.laid_math_bits_deBruijn64tab), ("internal/strconv.uint64pow10", Rows.laid_internal_strconv_uint64pow10), ("strconv.ErrRange", Rows.laid_strconv_ErrRange), ("strconv.ErrSyntax", Rows.laid_strconv_ErrSyntax)] ((World.doorLaid Tryz.prog 62 os).forCall (fun _ _ => 0) ⟨#[], args, []⟩).memory :=
  laidMetH_of_parts3 (fuel := 8) (laidMet_of_run' 8 (by kernel_rfl) (by kernel_rfl)) (by kernel_rfl) (by kernel_rfl)

set_option maxRecDepth 100000 in
theorem fnExactRunOps_lifted (os : Os) (started : os.Started) (H : Type) (enc : TypeId × Value → H) :
    ReturnsInHanded {} Tryz.checked os 5 .any (fun w args => (Rows.fnExactRunOpsSpec.pre enc Tryz.prog Tryz.f5 [] false w args ∧ laidMetH Tryz.prog [("math/bits.deBruijn32tab", Rows.laid_math_bits_deBruijn32tab), ("math/bits.deBruijn64tab", Rows.laid_math_bits_deBruijn64tab), ("internal/strconv.uint64pow10", Rows.laid_internal_strconv_uint64pow10), ("strconv.ErrRange", Rows.laid_strconv_ErrRange), ("strconv.ErrSyntax", Rows.laid_strconv_ErrSyntax)] w) ∧ sizedMet enc Tryz.prog Tryz.f5 (OpenSpec.ofChange Rows.fnExactRunOpsSpec) false w args)
      (Rows.fnExactRunOpsSpec.post enc Tryz.prog Tryz.f5 false true false false) := by
  refine returnsInHanded_of_change_and (C := Tryz.checked) (X := fun w _ => laidMetH Tryz.prog [("math/bits.deBruijn32tab", Rows.laid_math_bits_deBruijn32tab), ("math/bits.deBruijn64tab", Rows.laid_math_bits_deBruijn64tab), ("internal/strconv.uint64pow10", Rows.laid_internal_strconv_uint64pow10), ("strconv.ErrRange", Rows.laid_strconv_ErrRange), ("strconv.ErrSyntax", Rows.laid_strconv_ErrSyntax)] w) (fun _ _ _ hh h => h.of_heap hh) (by kernel_rfl) started (by kernel_rfl) Tryz.func5
    (ChangeSpec.witness_shaped (enc := enc) (C := Tryz.checked) (os := os) (X := fun w _ => laidMetH Tryz.prog [("math/bits.deBruijn32tab", Rows.laid_math_bits_deBruijn32tab), ("math/bits.deBruijn64tab", Rows.laid_math_bits_deBruijn64tab), ("internal/strconv.uint64pow10", Rows.laid_internal_strconv_uint64pow10), ("strconv.ErrRange", Rows.laid_strconv_ErrRange), ("strconv.ErrSyntax", Rows.laid_strconv_ErrSyntax)] w) false (World.doorLaid Tryz.prog 62 os) #[.agg #[.slice none 0 0, .slice none 0 0, .slice none 0 0, .slice none 0 0, .int .i64 0, .int .i64 0], .slice none 0 0, .int .i64 0] 8 rfl (World.shaped_of_RefB (by kernel_rfl) (by kernel_rfl)) (by kernel_rfl) (by kernel_rfl) (by kernel_rfl) (fnExactRunOps_door os _)) ?_
  intro W base args ds gs before hval hW _ hsz hL _
  exact aZu (E := E0) aN5 ⟨(bEm aOw).2⟩ Tryz.func5 (by rfl) (by kernel_rfl) bCn (n := 8) (by kernel_rfl) (by kernel_rfl) (by kernel_rfl) rfl (bt := 4) (by kernel_rfl) (by kernel_rfl)
    (fun H ds hd => by
      have : ds.length = 3 := hd
      match ds, this with
      | [d0, d1, d2], _ => rfl) (fun cs hf => by
      obtain ⟨hl, hk⟩ := hf
      have hl : cs.length = 8 := hl
      match cs, hl with
      | [x0, x1, x2, x3, x4, x5, x6, x7], _ =>
        have h0 := hk 0 (.slice 82) x0 rfl rfl
        obtain ⟨r0, rfl, f0⟩ := bAp h0
        obtain ⟨len0, ok0⟩ := f0 _ rfl (by decide)
        obtain ⟨q0, e0, tx0⟩ := aJw h0
        obtain rfl := C.sl.inj e0
        have h1 := hk 1 (.slice 85) x1 rfl rfl
        obtain ⟨r1, rfl, f1⟩ := bAp h1
        obtain ⟨len1, ok1⟩ := f1 _ rfl (by decide)
        obtain ⟨q1, e1, tx1⟩ := aJw h1
        obtain rfl := C.sl.inj e1
        have h2 := hk 2 (.slice 85) x2 rfl rfl
        obtain ⟨r2, rfl, f2⟩ := bAp h2
        obtain ⟨len2, ok2⟩ := f2 _ rfl (by decide)
        obtain ⟨q2, e2, tx2⟩ := aJw h2
        obtain rfl := C.sl.inj e2
        have h3 := hk 3 (.slice 9) x3 rfl rfl
        obtain ⟨r3, rfl, f3⟩ := bAp h3
        obtain ⟨len3, ok3⟩ := f3 _ rfl (by decide)
        obtain ⟨q3, e3, tx3⟩ := aJw h3
        obtain rfl := C.sl.inj e3
        have h4 := hk 4 (.int .i64) x4 rfl rfl
        obtain ⟨n4, rfl, lo4, hi4⟩ := bDq h4
        have h5 := hk 5 (.int .i64) x5 rfl rfl
        obtain ⟨n5, rfl, lo5, hi5⟩ := bDq h5
        have h6 := hk 6 (.slice 38) x6 rfl rfl
        obtain ⟨r6, rfl, f6⟩ := bAp h6
        obtain ⟨len6, ok6⟩ := f6 _ rfl (by decide)
        obtain ⟨q6, e6, tx6⟩ := aJw h6
        obtain rfl := C.sl.inj e6
        have h7 := hk 7 (.int .i64) x7 rfl rfl
        obtain ⟨n7, rfl, lo7, hi7⟩ := bDq h7
        simp only [bCc, aNq, aBp, aBn, aH1, Option.some.injEq, Prod.mk.injEq, Bool.and_eq_true, decide_eq_true_eq, and_true]
        repeat' apply And.intro
        all_goals first | assumption | omega) hval hW hsz (fnExactRunOps_globals hL)

set_option maxRecDepth 100000 in
theorem fnExactRunOps_named : Tryz.pinned.checked.prog.funcNamed Rows.fnExactRunOpsRow.func = some 5 := by kernel_rfl
set_option maxRecDepth 100000 in
theorem fnExactRunOps_joined : joinedFacts Tryz.pinned.checked.prog 5 Tryz.f5 Rows.fnExactRunOpsSpec Rows.fnExactRunOpsRow = true := by kernel_rfl
set_option maxRecDepth 100000 in
theorem fnExactRunOps_inst : Func.isInstance Tryz.pinned.checked.prog Tryz.f5 Rows.fnExactRunOpsRow.origin Rows.fnExactRunOpsRow.targs := of_decide_eq_true (by kernel_rfl)
set_option maxRecDepth 100000 in
theorem fnExactRunOps_wrap : Func.isWrapper Tryz.pinned.checked.prog Tryz.f5 Rows.fnExactRunOpsRow.wrapper Rows.fnExactRunOpsRow.mainSum := by
  unfold Func.isWrapper; first | (rw [if_pos (by decide +kernel)]; kernel_rfl) | (rw [if_neg (by decide +kernel)]; exact ⟨rfl, rfl⟩)
set_option maxRecDepth 100000 in
theorem fnExactRunOps_over : Rows.fnExactRunOpsRow.holds Tryz.pinned (OpenSpec.ofChange Rows.fnExactRunOpsSpec) :=
  OpenClaim.holds_of_wide 5 Tryz.f5 rfl rfl rfl rfl rfl rfl rfl ⟨rfl, rfl, rfl, rfl, rfl⟩ rfl rfl rfl rfl rfl fnExactRunOps_named Tryz.func5 fnExactRunOps_joined
    fnExactRunOps_inst fnExactRunOps_wrap
    (fun os started H enc _ => fnExactRunOps_lifted os started H enc)
set_option maxRecDepth 100000 in
theorem fnExactRunOps_c1 : Tryz.pinned.checked.prog.funcNamed Rows.fnExactRunOpsRow.func = some 5 := by kernel_rfl
set_option maxRecDepth 100000 in
theorem fnExactRunOps_card : Rows.FnExactRunOpsCardSaid :=
  Claim7.holds_tied_plain_at .later [] [.data, .data, .data, .sentinel, .sentinel] true (true, "882a1206f48314e83976b0869110fddf607d7612814dc75a293cc05fba0c16c5") true
    fnExactRunOps_over (fun _ h => by cases h) (by kernel_rfl) (fun _ h => by cases h) fnExactRunOps_row_tie rfl ⟨rfl, rfl⟩ (by kernel_rfl) rfl
    (fun f fn hf hfn => by
      obtain rfl : f = 5 := Option.some.inj ((show Tryz.prog.funcNamed "loop.example/g00971/laws.FnExactRunOps" = some 5 from fnExactRunOps_c1).symm.trans hf) |>.symm
      obtain rfl : fn = Tryz.f5 := (Option.some.inj (Tryz.func5.symm.trans hfn)).symm
      exact ⟨by kernel_rfl, fun j t ht => by
        have hall : (Tryz.f5.params.all fun u => !Tryz.prog.wantsStandIn u) = true := by kernel_rfl
        have := Array.all_eq_true.1 hall j (Array.getElem?_eq_some_iff.1 ht).1
        rw [(Array.getElem?_eq_some_iff.1 ht).2] at this
        exact (show Tryz.prog.wantsStandIn t = false by simpa using this)⟩)
    (by kernel_rfl)
end Go.Proofs.YtigodjkegcibhaaGreatDoor.V
namespace Go.Proofs.YtigodjkegcibhaaGreatDoor
/-- The card, under a short name, for the claim. -/
theorem fnExactRunOps_holds : Rows.FnExactRunOpsCardSaid := V.fnExactRunOps_card
#print axioms fnExactRunOps_holds
end Go.Proofs.YtigodjkegcibhaaGreatDoor
